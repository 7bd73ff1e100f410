/-
 The statement raceTrue_said, part 7 of 8: Rx1, Rx3, Rx5, Rx8, Rx9, Rx10, Rx11, Rx12, Rz1, Rz2, Rx2, Rz3, Rz4, B7, B8, Rr2.
 Conditions: none.
-/
import Derived.Test.YtdllkkdchkhimaaGreatDoorTz1
import Derived.Test.YtdllkkdchkhimaaGreatDoorTz2
import Derived.Test.YtdllkkdchkhimaaGreatDoorTz3
import Derived.Test.YtdllkkdchkhimaaGreatDoorTz4
import Derived.Test.YtdllkkdchkhimaaGreatDoorTz5
import Derived.Test.YtdllkkdchkhimaaGreatDoorTz6
namespace Go.Proofs.YtdllkkdchkhimaaGreatDoor
set_option maxRecDepth 100000
set_option maxHeartbeats 4000000
set_option linter.unusedVariables false
section
open Go.RowKit
theorem vH (l:List Int) (lA:OA) (lC:Nat) (hlen:l.length≤1000000):
 lq Tryz.prog 61 [(vS lA l.length lC)] [(rd lA l.length 1 (l.map iC))] (fun (x:(OA)×Nat)=>(vS x.1 l.length x.2)) (fun (x:(OA)×Nat)=>True) (fun (x:(OA)×Nat)=>[(own x.1 x.2 3 1 (l.map iC))]):=by
 refine dv kr Tryz.func61 U U fun L Q hQ hN=>?_
 try dsimp only
 refine WS fun _ D=>bg 1 U<|RK D<|ak fun _ E=>WS fun _ F=>rP 1 [] I ?_
 refine rS (BI U (qw SF))<|RK F<|cE U (aQ fun B=>?_) (aP fun B=>?_)
 ·refine WS fun _ G=>mh (aB 0 U) B dc fun C=>?_
  have A:l=[]:=by simpa using C
  refine dM 3 1 ?_
  rw [show (own none 0 3 1 ([]:List (List Value)))=own none 0 3 1 (l.map iC) from by rw [A]; rfl]
  refine rP 1 [] I ?_
  refine RK G<|ar ?_
  refine LX hQ (none,0) [0] [] I U U U ?_ ?_
  ·first|rfl|(rw [A]; rfl)
  ·trivial
 refine WK E<|WS fun _ H=>sO U cJ U fun J=>rP 1 [] I ?_
 refine dY (es:=(List.map iC [])) (C':=[own (some ⟨J,0,none⟩) 0 3 1 (List.map iC []),_]) 0 U sm U (by simp [maxLen]) U ?_
 refine de (es2:=(List.map iC l)) (m':=l.length) 0 U U U pT U U sm (aB 1 U) (j6 _) os (by first|(simp only [maxLen]; omega)|(simp [maxLen]; omega)) sm sm U fun AA K=>?_
 try dsimp only
 refine rP 1 [] I ?_
 refine RK H<|ar ?_
 refine LX hQ (AA,K) [0] [] I U U U ?_ ?_
 ·first|rfl|(rw [A]; rfl)
 ·trivial
theorem AX (l:List Int) (lA:OA) (lC:Nat) (f:Value) (key:Int→Int) (X:av) (hf: ∀ x0 x1,x0∈l∧x1∈l→El Tryz.prog f [.int .i64 x0,.int .i64 x1] [X] (.int .i64 (key x0-key x1))) (hkb: ∀ x∈l,0≤key x∧key x≤30000000) (hlen:l.length≤1000000):
 Da Tryz.prog 122 [(vS lA l.length lC),(vI 0),(vI (l.length:Int)),f] [X] (own lA lC 3 1 (l.map iC)) (fun (x:Unit)=>(vT [])) (fun (x:Unit)=>True) (fun (x:Unit)=>(own lA lC 3 1 ((eD key l).map iC))):=by
 refine mw kr Tryz.func122 U U fun s Q hQ hN=>?_
 try dsimp only
 refine WS fun _ Z=>bg 1 U<|rS (SX (cb (r:= .int .i64 1) U U U (ij ⟨dc,dc⟩)) U U)<|rP 1 [] I ?_
 refine RK Z<|ax ?_
 have C:(1≤1∧(1≤l.length∨1=1))∧(l.length=l.length)∧(1=1∧l=[]∨te key l 1 l)∧(∀ x∈l,x∈l):=by exact ⟨om,rfl,Hc,fun x h=>h⟩
 refine bR (ι:={z:Nat×(List Int) // (1≤z.1∧(z.1≤l.length∨z.1=1))∧(z.2.length=l.length)∧(z.1=1∧l=[]∨te key l z.1 z.2)∧(∀ x∈z.2,x∈l)}) [0,1,2,3] [1] U U (fun z=>[(8,(vI (z.1.1:Int)))]) (fun z=>[(own lA lC 3 1 (z.1.2.map iC))]) (fun _=>rfl) (fun _=>rfl) (fun z=>l.length-z.1.1) ⟨(1,l),C⟩ (aU U) (aL [1,0]) ?_
 clear C
 rintro ⟨⟨i,m⟩,⟨AB,E,F,G⟩⟩ J2 L
 try dsimp only at AB E F G
 try dsimp only
 refine ak fun _ b=>WS fun _ c=>rP 3 [] I ?_
 refine RK c<|bS U (aP fun p=>?_) (aQ fun p=>?_)
 ·refine bB<|ae<|ae<|aA ?_
  rw [show m=eD key l from KW om E F]
  refine LM hN () 1 [] I U U U U ?_
  trivial
 refine WK b<|ak fun _ N=>ax<|WS fun _ d=>rP 2 [] I ?_
 refine RK d<|ax ?_
 have C:(i≤i)∧(m.length=l.length)∧(∀ x∈m,x∈l)∧(Cg key l i i m):=by exact ⟨Nat.le_refl _,E,G,EN om (NY om F)⟩
 refine bR (ι:={z:Nat×(List Int) // (z.1≤i)∧(z.2.length=l.length)∧(∀ x∈z.2,x∈l)∧(Cg key l i z.1 z.2)}) [0,1,2,3,8] [0] U U (fun z=>[(9,(vI (z.1.1:Int)))]) (fun z=>[(own lA lC 3 1 (z.1.2.map iC))]) (fun _=>rfl) (fun _=>rfl) (fun z=>z.1.1) ⟨(i,m),C⟩ (aU U) (aL [0,1]) ?_
 clear C
 rintro ⟨⟨j,q⟩,⟨J,D,A,B⟩⟩ J8 Y
 try dsimp only at J D A B
 try dsimp only
 refine ak fun _ e=>ak fun _ H=>dh cu 17 kr<|dP 4 [] I ?_
 refine jg (t:=21) U (aP fun V=>?_) (aQ fun V=>?_)
 ·refine kX 13 U<|cK<|RK H<|aX U<|bB<|ae<|ae<|aA<|aH<|KK N<|an<|rP 3 [] I ?_
  refine aF ?_
  refine aT (L ⟨((i+1),q),⟨om,D,.inr (by first|exact yZ om B|exact zw om B hx hy om),A⟩⟩ _ _ _ U (by simp only []; omega) (aU U) (aL [0,1]))
 refine dP 3 [] I ?_
 obtain ⟨x,hx⟩:=aM q j om
 have K:=bQ iC hx
 refine dS (IA j U (al (n:=l.length) 1 U sq) cJ dc om om) ?_
 refine dS (gh j 0 (vI x) U cm (al (n:=q.length) 1 U sm) K U dc U)<|dP 3 [] I ?_
 obtain ⟨y,hy⟩:=aM q (j-1) om
 have AA:=bQ iC hy
 refine dS (IA (j-1) U (al (n:=l.length) 1 U sq) cJ dc om om) ?_
 refine dS (gh (j-1) 0 (vI y) U cm (al (n:=q.length) 1 U sm) AA U dc U)<|dS (SX (r_ U U U (hf x y ⟨A _ (aV hx),A _ (aV hy)⟩) (bh [0])) U U)<|dP 2 [] I ?_
 refine cK<|RK H<|bS U (aP fun W=>?_) (aQ fun W=>?_)
 ·refine bB<|ae<|ae<|aA<|aH<|KK N<|an<|rP 3 [] I ?_
  refine aF ?_
  refine aT (L ⟨((i+1),q),⟨om,D,.inr (by first|exact yZ om B|exact zw om B hx hy om),A⟩⟩ _ _ _ U (by simp only []; omega) (aU U) (aL [0,1]))
 refine WK e<|ak fun _ M=>ax<|dL cu [15,16,17] [8,9,12,13,14] [] [0] [0,1] U U U U U<|eS U (MV U)<|eS U (MV U)<|eS U (MV U)<|eS U (MV U)<|eS U (BI U (rz ⟨om,om⟩))<|eS U (MV U)<|eS U (MV U)<|eS U (BI U (rz ⟨om,om⟩)) ?_
 refine fS U (IA (j-1) U (al (n:=l.length) 1 U sq) cJ dc om om) ?_
 refine fS U (gh (j-1) 0 (vI y) U cm (al (n:=q.length) 1 U sm) AA U dc U)<|eS U (MV U)<|eS U (MV U) ?_
 refine fS U (IA j U (al (n:=l.length) 1 U sq) cJ dc om om) ?_
 refine fS U (gh j 0 (vI x) U cm (al (n:=q.length) 1 U sm) K U dc U) ?_
 refine fS U (IA j U (al (n:=l.length) 1 U sq) cJ dc om om) ?_
 refine e9 U<|cq U fun T14 O=>eG (k:=j) (o:=0) (vs:=[(vI y)]) (es':=(List.map iC (q.set j y))) (C':=[_,(own lA lC 3 1 (List.map iC (q.set j y)))]) 1 U U U AU U U U U K U dc (by exact (List.map_set (f:=iC) (l:=q) (i:=j) (a:=y)).symm) U<|aF (O _ _ (aL [0]) ?_)
 refine cq U fun T15 P=>?_
 obtain ⟨g,T⟩:=aM (q.set j y) (j-1) os
 have hx17m:(List.map iC (q.set j y))[(j-1)]? =some (iC g):=by rw [fE,T]; rfl
 refine rS (IA (j-1) U (al (n:=l.length) 1 U sq) cJ dc om om) ?_
 refine aF (P _ _ (aL [0]) ?_)
 refine cq U fun T18 R=>eG (k:=(j-1)) (o:=0) (vs:=[(vI x)]) (es':=(List.map iC ((q.set j y).set (j-1) x))) (C':=[_,(own lA lC 3 1 (List.map iC ((q.set j y).set (j-1) x)))]) 1 U U U AU U U U U hx17m U dc (by exact (List.map_set (f:=iC) (l:=(q.set j y)) (i:=(j-1)) (a:=x)).symm) U<|aF (R _ _ (aL [0]) ?_)
 refine fO U<|aH<|KK M<|an<|rP 3 [] I ?_
 refine aF ?_
 have S:(vI (((j-1):Nat):Int))=(vI ((j:Int)-1)):=by exact cI om
 refine aT (Y ⟨((j-1),((q.set j y).set (j-1) x)),⟨om,by simp; exact D,IE hx hy A,HQ om B hx hy om⟩⟩ _ _ _ U (by simp only []; omega) (cP 5<|bo U S<|dy.nil _) (aL [0,1]))
theorem LG (l:List Int) (lA:OA) (lC:Nat) (f:Value) (key:Int→Int) (X:av) (hf: ∀ x0 x1,x0∈l∧x1∈l→El Tryz.prog f [.int .i64 x0,.int .i64 x1] [X] (.int .i64 (key x0-key x1))) (hkb: ∀ x∈l,0≤key x∧key x≤30000000) (hlen:l.length≤12):
 Da Tryz.prog 84 [(vS lA l.length lC),(vI (l.length:Int)),f] [X] (own lA lC 3 1 (l.map iC)) (fun (x:Unit)=>(vT [])) (fun (x:Unit)=>True) (fun (x:Unit)=>(own lA lC 3 1 ((eD key l).map iC))):=by
 refine mw kr Tryz.func84 U U fun N Q hQ hN=>?_
 try dsimp only
 refine WS fun _ C=>bg 1 U<|RK C<|WS fun _ D=>bg 3 U<|RK D<|ak fun _ E=>ax<|jO 1<|eu fun R4 M=>ak fun _ L=>WS fun _ F=>rP 3 [] I ?_
 refine RK F<|cE U (aQ fun K=>?_) (aP fun K=>?_)
 ·exfalso; omega
 refine bB<|ae<|ae<|aA<|KK E<|WS fun _ G=>rP 4 [] I ?_
 refine iN 0 U U U U (AX l lA lC f key X (by exact hf) hkb sd) U (ed 1 U U (dC (bV _)) j8) U (fun O J=>?_)
 try dsimp only
 refine RK G<|ax<|jO 1<|eu fun R11 AA=>ak fun _ H=>WS fun _ A=>rP 3 [] I ?_
 refine RK A<|cE U (aQ fun B=>?_) (aP fun B=>?_)
 ·exfalso; omega
 refine bB<|ae<|ae<|aA<|LM hN () 0 [] I U U U U ?_
 trivial
theorem zC (l:List Int) (lA:OA) (lC:Nat) (f:Value) (key:Int→Int) (X:av) (hf: ∀ x0 x1,x0∈l∧x1∈l→El Tryz.prog f [.int .i64 x0,.int .i64 x1] [X] (.int .i64 (key x0-key x1))) (hkb: ∀ x∈l,0≤key x∧key x≤30000000) (hlen:l.length≤12):
 Da Tryz.prog 62 [(vS lA l.length lC),f] [X] (own lA lC 3 1 (l.map iC)) (fun (x:Unit)=>(vT [])) (fun (x:Unit)=>True) (fun (x:Unit)=>(own lA lC 3 1 ((eD key l).map iC))):=by
 refine mw kr Tryz.func62 U U fun B Q hQ hN=>?_
 try dsimp only
 refine an<|rP 4 [] I ?_
 refine iN 0 U U U U (LG l lA lC f key X (by exact hf) hkb hlen) U (ed 1 U U (dC (bV _)) j8) U (fun C A=>?_)
 try dsimp only
 refine aF<|LM hN () 0 [] I U U U U ?_
 trivial
theorem yk (l:List Int) (lA:OA) (lC:Nat) (f:Value) (key:Int→Int) (X:av) (hf: ∀ x0 x1,x0∈l∧x1∈l→El Tryz.prog f [.int .i64 x0,.int .i64 x1] [X] (.int .i64 (key x0-key x1))) (hkb: ∀ x∈l,0≤key x∧key x≤30000000) (hlen:l.length≤12):
 lq Tryz.prog 40 [(vS lA l.length lC),f] [(rd lA l.length 1 (l.map iC)),X] (fun (x:(OA)×Nat)=>(vS x.1 ((eD key l).length) x.2)) (fun (x:(OA)×Nat)=>True) (fun (x:(OA)×Nat)=>[(own x.1 x.2 3 1 ((eD key l).map iC))]):=by
 refine dv kr Tryz.func40 U U fun J Q hQ hN=>?_
 try dsimp only
 refine WS fun _ B=>bg 1 U<|RK B<|WS fun _ C=>rP 1 [] I ?_
 refine cX (vH l lA lC sd) (bh [0]) U fun AA G=>?_
 obtain ⟨E,F⟩:=AA
 try dsimp only
 refine bg 1 U<|RK C<|WS fun _ D=>rP 2 [] I ?_
 refine iN 0 U U U U (zC l E F f key X (by exact hf) hkb hlen) U (ed 2 U U (dC (bV _)) j8) U (fun K H=>?_)
 try dsimp only
 refine RK D<|WS fun _ A=>rP 2 [] I ?_
 refine RK A<|ar ?_
 refine LX hQ (E,F) [0] [] I U U U ?_ ?_
 ·first|rfl|(rw [kh]; rfl)
 ·trivial
theorem Gy (l:List Int) (lA:OA) (lC k:Nat) (hk:k≤l.length) (hlen:l.length≤1000000):
 Da Tryz.prog 70 [(vS lA k lC)] [] (own lA lC 3 1 (l.map iC)) (fun (x:Unit)=>(vT [])) (fun (x:Unit)=>True) (fun (x:Unit)=>(own lA lC 3 1 ((rp k l).map iC))):=by
 refine mw kr Tryz.func70 U U fun V Q hQ hN=>?_
 try dsimp only
 refine WS fun _ J=>rP 5 [] I ?_
 refine RK J<|ax ?_
 have B:(0≤k)∧(HX l k 0 l):=by exact ⟨Nat.zero_le _,Ma⟩
 have P:(vI ((k:Int)-1-(0:Int)))=(vI ((k:Int)-1)):=by exact cI om
 refine bR (ι:={z:Nat×(List Int) // (z.1≤k)∧(HX l k z.1 z.2)}) [0] [] U U (fun z=>[(2,(vI (z.1.1:Int))),(3,(vI ((k:Int)-1-(z.1.1:Int))))]) (fun z=>[(own lA lC 3 1 (z.1.2.map iC))]) (fun _=>rfl) (fun _=>rfl) (fun z=>k-z.1.1) ⟨(0,l),B⟩ (dy.cons U<|bo U P<|dy.nil _) (aL [0]) ?_
 clear B
 rintro ⟨⟨i,m⟩,⟨C,A⟩⟩ J3 AB
 try dsimp only at C A
 try dsimp only
 have AA:=A.1
 refine ak fun _ K=>WS fun _ L=>rP 3 [] I ?_
 refine RK L<|bS U (aP fun T=>?_) (aQ fun T=>?_)
 ·refine bB<|ae<|ae<|aA ?_
  rw [show m=rp k l from M1 hk om A]
  refine LM hN () 0 [] I U U U U ?_
  trivial
 refine WK K<|ak fun _ M=>ax<|dL cu [13,14,15] [6,7,10,11,12] [] [] [0] U U U U U<|eS U (MV U)<|eS U (MV U)<|eS U (MV U)<|eS U (MV U)<|eS U (MV U)<|eS U (MV U) ?_
 obtain ⟨y,hy⟩:=aM m ((((k:Int)-1-(i:Int))).toNat) om
 have R:=bQ iC hy
 refine fS U (RR ((((k:Int)-1-(i:Int))).toNat) U (al (n:=m.length) 0 U sm) cJ dc om om om)<|fS U (gh ((((k:Int)-1-(i:Int))).toNat) 0 (vI y) U cm (al (n:=m.length) 0 U sm) R U dc U)<|eS U (MV U)<|eS U (MV U) ?_
 obtain ⟨x,hx⟩:=aM m i om
 have H:=bQ iC hx
 refine fS U (RR i U (al (n:=m.length) 0 U sm) cJ dc om om om)<|fS U (gh i 0 (vI x) U cm (al (n:=m.length) 0 U sm) H U dc U)<|fS U (RR i U (al (n:=m.length) 0 U sm) cJ dc om om om)<|e9 U<|cq U fun T8 N=>eG (k:=i) (o:=0) (vs:=[(vI y)]) (es':=(List.map iC (m.set i y))) (C':=[(own lA lC 3 1 (List.map iC (m.set i y)))]) 0 U U U AU U U U U H U dc (by exact (List.map_set (f:=iC) (l:=m) (i:=i) (a:=y)).symm) U<|aF (N _ _ (aL []) ?_)
 refine cq U fun T9 O=>?_
 obtain ⟨S,G⟩:=aM (m.set i y) ((((k:Int)-1-(i:Int))).toNat) os
 have hx11m:(List.map iC (m.set i y))[(((k:Int)-1-(i:Int))).toNat]? =some (iC S):=by rw [fE,G]; rfl
 refine rS (RR ((((k:Int)-1-(i:Int))).toNat) U (al (n:=(m.set i y).length) 0 U sm) cJ dc om om (by simp; omega)) ?_
 refine aF (O _ _ (aL []) ?_)
 refine cq U fun T12 D=>eG (k:=(((k:Int)-1-(i:Int))).toNat) (o:=0) (vs:=[(vI x)]) (es':=(List.map iC ((m.set i y).set ((((k:Int)-1-(i:Int))).toNat) x))) (C':=[(own lA lC 3 1 (List.map iC ((m.set i y).set ((((k:Int)-1-(i:Int))).toNat) x)))]) 0 U U U AU U U U U hx11m U dc (by exact (List.map_set (f:=iC) (l:=(m.set i y)) (i:=(((k:Int)-1-(i:Int))).toNat) (a:=x)).symm) U<|aF (D _ _ (aL []) ?_)
 refine fO U<|aH<|KK M<|an<|rP 6 [] I ?_
 refine aF ?_
 have E:(vI (((i+1):Nat):Int))=(vI ((i:Int)+1)):=by exact cI om
 have F:(vI ((k:Int)-1-(((i+1):Nat):Int)))=(vI (((k:Int)-1-(i:Int))-1)):=by exact cI om
 refine aT (AB ⟨((i+1),((m.set i y).set ((((k:Int)-1-(i:Int))).toNat) x)),⟨om,Jn hk om om A hx hy⟩⟩ _ _ _ U os (dy.cons U<|bo U E<|bo U F<|dy.nil _) (aL [0]))
end
section
open Go.RowKit
theorem KY (a b:Int) (r:cd) (kA:OA) (kC:Nat) (cA:OA) (cC:Nat) (bA:OA) (bC:Nat) (slA:OA) (slC:Nat) (drA:OA) (drC:Nat) (heA:OA) (heC:Nat) (tA:OA) (tN tC:Nat) (gs gw:Nat) (m:g3) (g1:Nat) (hb: ∀ p∈m,0≤p.2.Lo∧p.2.Lo≤p.2.Hi∧p.2.Hi≤30000000):
 d_ Tryz.prog 43 [(vI a),(vI b),(vP g1)] [(b_ gw 88 (fT.cells (fT.mk (ou r kA kC cA cC bA bC slA slC drA drC heA heC) (aN.mk tA tN tC) (Value.map (some gs))))),(hO iV gs (bM dW m)),(b_ g1 80 [(vP gw)])] (vI ((aD m a).Lo-(aD m b).Lo)):=by
 have A:=gO (i:=a) hb
 have B:=gO (i:=b) hb
 refine bE kr Tryz.func43 U U fun E Q hQ hN=>?_
 try dsimp only
 refine WS fun _ C=>bg 1 U<|RK C<|ak fun _ D=>dh cu 16 kr<|lJ 1 [] (mr 2 U I) U<|dS (SX (bO U U) U U)<|lJ 3 [] (mr 0 U I) U<|dS (SX (kJ (kV:=iV) (x:=a) (l:=m) (f:=dW) (z:=(aa.mk 0 0)) U U U nJ (dQ oG) wI (by exact j1 1 U)) U U)<|dS (SX (kE (v:=(vI (((List.lookup a m).getD (aa.mk 0 0)).Lo))) U U fB Ap U) U U)<|lJ 1 [] (mr 2 U I) U<|dS (SX (bO U U) U U)<|dP 3 [] (mr 0 U I) ?_
 refine dS (SX (kJ (kV:=iV) (x:=b) (l:=m) (f:=dW) (z:=(aa.mk 0 0)) U U U nJ (dQ oG) wI (by exact j1 1 U)) U U)<|dS (SX (kE (v:=(vI (((List.lookup b m).getD (aa.mk 0 0)).Lo))) U U fB Ap U) U U) ?_
 unfold aD at A B
 simp only [dA] at A B
 refine dP 2 [] I ?_
 refine cK<|RK D<|ar ?_
 exact Q1 hQ U U U U
theorem FV (r:cd) (kA:OA) (kC:Nat) (az:List RA) (cA:OA) (cC:Nat) (bA:OA) (bC:Nat) (slA:OA) (slC:Nat) (drA:OA) (drC:Nat) (ha:List cS) (heA:OA) (heC:Nat) (hin:fy r az ha):
 lq Tryz.prog 20 [(vA (bu.cells (ou r kA kC cA cC bA bC slA slC drA drC heA heC)))] [(rd dD 3 2 dg),(rd kA r.ah.aJ.length 9 (r.ah.aJ.map ao.cells)),(rd cA r.ah.ai.length 2 (List.zipWith au.cells r.ah.ai az)),(fc (aS au.gW r.ah.ai az)),(rd bA r.ah.ag.length 4 (r.ah.ag.map bG.cells)),(rd slA r.aI.length 1 (r.aI.map iC)),(rd drA r.bD.length 1 (r.bD.map iC)),(rd heA r.aq.length 1 (List.zipWith cD r.aq ha)),(fc (aS im r.aq ha))] (fun (x:(List RA)×(OA)×Nat)=>(vT [(vS x.2.1 ((bH r).length) x.2.2),(vI (bY r))])) (fun (x:(List RA)×(OA)×Nat)=>x.1.length=(bH r).length) (fun (x:(List RA)×(OA)×Nat)=>[(own x.2.1 x.2.2 29 1 (List.zipWith j5 (bH r) x.1)),(bp (aS nc (bH r) x.1))]):=by
 have Ar:=hin.line
 have BH:=hin.iP
 have BI:=hin.has
 have A2:=hin.iR
 have Az:=hin.draw
 have A3:=dJ (r:=r)
 refine dv kr Tryz.func20 U U fun w0 Q hQ hN=>?_
 try dsimp only
 refine WS fun _ Am=>fU U fun b2=>bg 2 U<|RK Am<|WS fun _ AC=>rP 1 [] (mc 0 U I) ?_
 refine cX (n_ r kA kC az cA cC bA bC slA slC drA drC ha heA heC hin) (bh [1,2,3,4,5,6,7,8,9]) U fun y4 Ad=>?_
 obtain ⟨Ae,BE,X,O,Af,W,A7⟩:=y4
 cases Ae
 ·obtain ⟨Aa,he⟩:=Ad.2 rfl
  try dsimp only at Aa he
  subst Aa
  try dsimp only [cond_true,cond_false,List.cons_append,List.nil_append]
  refine bg 3 U<|AL U SS fun A9=>HW U QV U U<|bg 1 U<|RK AC<|ak fun _ Ay=>WS fun _ p=>rP 2 [] I ?_
  refine RK p<|bS U (bq fun g=>?_) (br fun g=>?_)
  ·exact absurd g he
  refine WS fun _ s=>rP 1 [] I ?_
  have E:bH r=[]:=Be he
  have Z:([]:List RA).length=(bH r).length:=by rw [E]; rfl
  refine dM 29 1<|xN ?_
  rw [show (own none 0 29 1 ([]:List (List Value)))=own none 0 29 1 (List.zipWith j5 (bH r) []) from by rw [E]; rfl,show bp []=bp (aS nc (bH r) []) from by rw [E]; rfl]
  refine rP 2 [] I ?_
  refine RK s<|ar ?_
  refine LX hQ ([],none,0) [1,0] [] I U (by show List.all _ _=true; simp only [fI,List.all_nil,Ih,Bool.and_true]; rfl) U ?_ ?_
  ·first|rfl|(rw [E]; rfl)|(rw [he,← E,List.length_map]; rfl)|(rw [he,E]; rfl)
  ·exact Z
 obtain ⟨he,BK⟩:=Ad.1 rfl
 try dsimp only [cond_true,cond_false,List.cons_append,List.nil_append]
 have BM:=nm he
 have A1:=nx he
 refine bg 3 U<|AL U SS fun R=>HW U QV U U<|bg 1 U<|RK AC<|ak fun _ t=>WS fun _ v=>bg 1 U<|rS (SX (cb (r:= .bool false) U U U lj) U U)<|RK v<|aX U<|WK t<|WS fun _ w=>bg 1 U<|RK w<|WS fun _ y=>bg 1 U<|RK y<|ak fun _ AA=>WS fun _ AB=>fF 1 [] (mc 0 U I) U<|rS (SX (bO U U) U U)<|rP 2 [] (mc 1 U I) ?_
 refine cX (F5 O) (aK) U fun Ai A4=>?_
 try dsimp only
 refine cX (yG (aG r) O Ai sd) (bh [5,0]) U fun Aw A5=>?_
 obtain ⟨Ah,Aj⟩:=Aw
 try dsimp only
 rw [show (aG r).length=(dk ((aG r).map (·.1))).length from by rw [gp,List.length_map]]
 refine rS (FU U) ?_
 refine cX (yk (dk ((aG r).map (·.1))) Ah Aj (Value.func (.func 43) [].toArray [(vP R)].toArray) (fun u=>(aD (aG r) u).Lo) (fc [(b_ X 88 (fT.cells (fT.mk (ou r kA kC cA cC bA bC slA slC drA drC heA heC) (aN.mk Af ((cQ r).length) W) (Value.map (some O))))),(hO iV O (bM dW (aG r))),(b_ R 80 [(vP X)])]) (by intro Au Av _; exact m8 (fi:=[]) (ca:=[(vP R)]) (lR (KY Au Av r kA kC cA cC bA bC slA slC drA drC heA heC Af ((cQ r).length) W O X (aG r) R (by first|assumption|omega)) (MD 0 1 2 U U U U U U))) (by exact Rw BM) (by rw [gp,List.length_map]; omega)) (ay (al (n:=(dk ((aG r).map (·.1))).length) 0 U sm)<|ay (lV (MD 3 6 2 U U U U U U))<|aK) U fun Ax A6=>?_
 obtain ⟨A8,BD⟩:=Ax
 try dsimp only
 have BJ:(eD (fun u=>(aD (aG r) u).Lo) (dk ((aG r).map (·.1)))).length=(aG r).length:=by rw [kh,gp,List.length_map]
 have Ac:Ek (fun u=>(aD (aG r) u).Lo) (eD (fun u=>(aD (aG r) u).Lo) (dk ((aG r).map (·.1)))):=uJ
 refine rP 2 [] I ?_
 refine RK AB<|ax<|fY 29 1<|og ?_
 have H:(0≤(eD (fun u=>(aD (aG r) u).Lo) (dk ((aG r).map (·.1)))).length)∧(([]:List RA).length=([]:List (List Int)).length)∧(ml (aD (aG r)) ((eD (fun u=>(aD (aG r) u).Lo) (dk ((aG r).map (·.1)))).take 0) ([]:List (List Int)) (-1))∧(-1≤(-1)∧(-1)≤30000000):=by exact ⟨Nat.zero_le _,rfl,Fl,om⟩
 refine bR (ι:={z:Nat×(List (List Int))×(List RA)×(OA)×Nat×Int // (z.1≤(eD (fun u=>(aD (aG r) u).Lo) (dk ((aG r).map (·.1)))).length)∧(z.2.2.1.length=z.2.1.length)∧(ml (aD (aG r)) ((eD (fun u=>(aD (aG r) u).Lo) (dk ((aG r).map (·.1)))).take z.1) z.2.1 z.2.2.2.2.2)∧(-1≤z.2.2.2.2.2∧z.2.2.2.2.2≤30000000)}) [1,4,29,30] [2,3,5,6,7,8,9,11,12,13,14,15,16,17,18,19] U U (fun z=>[(6,(vS z.1.2.2.2.1 z.1.2.1.length z.1.2.2.2.2.1)),(7,(vI z.1.2.2.2.2.2)),(31,(vI (z.1.1:Int)))]) (fun z=>[(bp (aS nc z.1.2.1 z.1.2.2.1)),(own z.1.2.2.2.1 z.1.2.2.2.2.1 29 1 (List.zipWith j5 z.1.2.1 z.1.2.2.1))]) (fun _=>rfl) (fun _=>rfl) (fun z=>(eD (fun u=>(aD (aG r) u).Lo) (dk ((aG r).map (·.1)))).length-z.1.1) ⟨(0,([]:List (List Int)),([]:List RA),none,0,(-1)),H⟩ (aU U) (aL [2,3,5,6,7,8,9,11,12,13,14,15,16,17,18,19,0,1]) ?_
 clear H
 rintro ⟨⟨i,G,gz,a,c,last⟩,⟨b,C,A,d⟩⟩ J37 T
 try dsimp only at b C A d
 try dsimp only
 have Ao:G.length≤12:=by have:=Fz A; omega
 have BF:(G++[([]:List Int)]).length=G.length+1:=by simp
 have A0:(gz++[((none,0):RA)]).length=gz.length+1:=by simp
 refine WS fun _ AD=>rP 1 [] I ?_
 refine RK AD<|ak fun _ AE=>bS U (aP fun Ak=>?_) (aQ fun Ak=>?_)
 ·refine bB<|ae<|ae<|aA<|KK AA<|ak fun _ AO=>ak fun _ AP=>?_
  have Ao:G.length≤12:=by have:=Fz A; omega
  refine an<|rP 3 [] I ?_
  refine RK AP<|ax ?_
  have H:(0≤G.length):=by exact Nat.zero_le _
  refine bR (ι:={z:Nat // (z≤G.length)}) [1,6,66,67] [0,1,3,4,5,6,7,8,9,10,11,12,13,14,15,17] U U (fun z=>[(68,(vI (z.1:Int)))]) (fun z=>[(bp (aS nc (m_ G z.1) gz))]) (fun _=>rfl) (fun _=>rfl) (fun z=>G.length-z.1) ⟨0,H⟩ (aU U) (aL [0,1,3,4,5,6,7,8,9,10,11,12,13,14,15,17,16]) ?_
  clear H
  rintro ⟨j,Ag⟩ J65 h
  try dsimp only
  refine WS fun _ AQ=>rP 1 [] I ?_
  refine RK AQ<|ak fun _ AR=>bS U (aP fun Al=>?_) (aQ fun Al=>?_)
  ·refine bB<|ae<|ae<|aA<|KK AO<|ak fun _ AU=>?_
   have Aq:G.length≤j:=by omega
   have Y:=uY A.ok
   rw [List.take_of_length_le om] at Y
   have E:G.map dk=bH r:=sV he (qc Y.1 (qs.trans fG)) Y.2
   have Z:gz.length=(bH r).length:=by rw [← E,List.length_map]; omega
   rw [D2 Aq,E,← Ly,E]
   refine an<|bg 1 U<|rP 2 [] I ?_
   refine RK AU<|ar ?_
   refine LX hQ (gz,a,c) [15,16] [] I U (by show List.all _ _=true; simp only [fI,List.all_nil,Ih,Bool.and_true]; rfl) U ?_ ?_
   ·first|rfl|(rw [E]; rfl)|(rw [he,← E,List.length_map]; rfl)|(rw [he,E]; rfl)
   ·exact Z
  refine WK AR<|ak fun _ AS=>ax<|ak fun _ AT=>?_
  obtain ⟨cg,B⟩:=aM G j om
  obtain ⟨cga,D⟩:=aM gz j om
  have F:(List.zipWith j5 G gz)[j]? =some (j5 cg cga):=dB B D
  refine D1 (f:=nc) 16 (HP B) D U U U ?_
  try dsimp only
  refine an<|rS (IA j U (al (n:=G.length) 17 U (k6 C)) pC dc om om)<|rS (gh j 0 (vS cga.1 cg.length cga.2) U cm (al (n:=G.length) 17 U (k6 C)) F U dc U)<|bg 1 U<|RK AT<|an<|rP 1 [] I ?_
  refine iN 0 U U U U (zE cg cga.1 cga.2 (by have:=zH A (aV B); omega)) U j8 U (fun msrt Ab=>?_)
  try dsimp only
  refine aF<|aH<|KK AS<|an<|rP 2 [] I ?_
  refine aF ?_
  obtain rfl:=qg Ab.1 Ab.2
  refine NV (f:=nc) (ms:=m_ G j) (m:=dk cg) 1 0 (by rw [ER]; omega) D U U U ?_
  rw [Df B]
  have AZ:(vI (((j+1):Nat):Int))=(vI ((j:Int)+1)):=by exact cI om
  refine aT (h ⟨(j+1),(by first|omega|(simp only []; omega))⟩ _ _ _ U os (cP 4<|bo U AZ<|dy.nil _) (aL [1,2,3,4,5,6,7,8,9,10,11,12,13,14,15,16,0]))
 refine WK AE<|ak fun _ BL=>ax<|WS fun _ AF=>?_
 obtain ⟨x,hx⟩:=aM (eD (fun u=>(aD (aG r) u).Lo) (dk ((aG r).map (·.1)))) i om
 have At:=bQ iC hx
 refine rS (IA i U (al (n:=(eD (fun u=>(aD (aG r) u).Lo) (dk ((aG r).map (·.1)))).length) 0 U sm) cJ dc om om)<|rS (gh i 0 (vI x) U cm (al (n:=(eD (fun u=>(aD (aG r) u).Lo) (dk ((aG r).map (·.1)))).length) 0 U sm) At U dc U)<|bg 1 U<|RK AF<|WS fun _ AG=>fF 1 [] (mc 2 U I) U<|rS (SX (bO U U) U U)<|rP 2 [] (mc 3 U I) ?_
 have As:=gO (i:=x) BM
 refine rP 1 [] I ?_
 refine rS (SX (kJ (kV:=iV) (x:=x) (l:=(aG r)) (f:=dW) (z:=(aa.mk 0 0)) U U U nJ (dQ oG) wI (by exact aB 6 U)) U U)<|AL U di fun A_=>fW U cv U<|RK AG<|ak fun _ V=>WS fun _ AH=>?_
 rw [show ((List.lookup x (aG r)).getD (aa.mk 0 0))=(aD (aG r) x) from rfl]
 refine rP 4 [] (mc 0 U I) ?_
 refine RK AH<|bS U (aP fun N=>?_) (aQ fun N=>?_)
 ·refine WK V<|ak fun _ AM=>?_
  have BG:1≤G.length:=Ff As.1 A N
  refine an<|rP 4 [] I ?_
  refine RK AM<|ak fun _ AN=>?_
  have Ap:(G.length-1)<G.length:=by first|omega|(simp; done)
  obtain ⟨cg,B⟩:=aM G (G.length-1) om
  obtain ⟨cga,D⟩:=aM gz (G.length-1) om
  have F:(List.zipWith j5 G gz)[(G.length-1)]? =some (j5 cg cga):=dB B D
  refine D1 (f:=nc) 17 B D U U U ?_
  try dsimp only
  refine an<|bg 4 U<|rS (IA (G.length-1) U (al (n:=G.length) 19 U (k6 C)) pC dc om om)<|rS (gh (G.length-1) 0 (vS cga.1 cg.length cga.2) U cm (al (n:=G.length) 19 U (k6 C)) F U dc U)<|rP 1 [] I ?_
  have An:cg.length≤12:=(List.mem_append.1 (show cg∈G++[[]] from by first|exact aV B|exact List.mem_append_left _ (aV B))).elim (fun q=>by have:=zH A q; omega) (fun q=>by simp at q; subst q; simp)
  refine cZ (xs:=[.tmp 57]) (cs:=[(vI x)]) U cJ jd U U U U (by simp [Value.cells]) U U fun BC=>?_
  refine de (es2:=(List.map iC (cg++[x]))) (m':=(cg++[x]).length) 1 U U U pT U U sm (a_ (es:=List.map iC [x]) 0 U U (by simp [bK]) U) (j6 _) os (by first|(simp only [maxLen]; omega)|(simp [maxLen]; omega)) sm sm U fun K M=>?_
  try dsimp only
  refine rS (IA (G.length-1) U (al (n:=G.length) 20 U (k6 C)) pC dc om om)<|eG (k:=(G.length-1)) (o:=0) (vs:=[(vS K ((cg++[x]).length) M)]) (es':=(List.zipWith j5 (G.set (G.length-1) (cg++[x])) (gz.set (G.length-1) (K,M)))) (C':=[_,_,_,_,_,_,_,_,_,_,_,_,_,_,_,_,_,_,_,_,(own a c 29 1 (List.zipWith j5 (G.set (G.length-1) (cg++[x])) (gz.set (G.length-1) (K,M))))]) 20 U U U AJ U U U U F U dc (by exact qA (c:=j5) (m:=(cg++[x])) (a:=(K,M))) U<|F9 (f:=nc) (ms:=G) (asl:=gz) (m:=(cg++[x])) (a:=(K,M)) 2 1 om om U U U<|RK AN<|an<|fF 3 [] (mc 2 U I) U<|rS (MX U)<|bg 1 U<|aF<|aH<|KK BL<|an<|rP 2 [] I ?_
  refine aF ?_
  have AX:(vS a ((G.set (G.length-1) (cg++[x])).length) c)=(vS a G.length c):=by rw [List.length_set]
  have AY:(vI (((i+1):Nat):Int))=(vI ((i:Int)+1)):=by exact cI om
  refine aT (T ⟨((i+1),(G.set (G.length-1) (cg++[x])),(gz.set (G.length-1) (K,M)),a,c,(max last ((aD (aG r) x).Hi))),⟨om,by simp; omega,by first|exact pb om hx B A N|exact oj om (fun u _=>(gO (i:=u) BM).2.1) Ac hx B A N,dso⟩⟩ _ _ _ U os (cP 4<|bo U AX<|dy.cons U<|bo U AY<|dy.nil _) (aL [3,4,5,6,7,8,9,10,11,12,13,14,15,16,17,18,0,19]))
 refine an<|rP 1 [] I ?_
 refine cZ (xs:=[.const (vS none 0 0)]) (cs:=[(vS none 0 0)]) U pC vl U U U U (by simp [Value.cells]) U U fun BA=>?_
 refine de (es2:=(List.zipWith j5 (G++[[]]) (gz++[(none,0)]))) (m':=(G++[[]]).length) 19 rfl rfl rfl Uo rfl rfl (k6 C).symm (a_ (es:=List.zipWith j5 [[]] [(none,0)]) 0 rfl rfl (by intro e he; simp [j5] at he; subst he; rfl) rfl) (MY _ _) om (by simp only [maxLen]; omega) (GG om) (by simp; omega) rfl fun P S=>?_
 try dsimp only
 refine dM 3 1<|Qx (Y':=aS nc (G++[[]]) (gz++[(none,0)])) 19 0 U U (DH om U)<|bg 1 U<|RK V<|WS fun _ AI=>rP 4 [] I ?_
 refine RK AI<|ak fun _ AK=>?_
 have Ap:((G++[[]]).length-1)<(G++[[]]).length:=by first|omega|(simp; done)
 obtain ⟨cg,B⟩: ∃ y_,(G++[[]])[((G++[[]]).length-1)]? =some y_:=⟨(G++[[]])[((G++[[]]).length-1)]'om,ff _⟩
 obtain ⟨cga,D⟩: ∃ y_,(gz++[(none,0)])[((G++[[]]).length-1)]? =some y_:=⟨(gz++[(none,0)])[((G++[[]]).length-1)]'om,ff _⟩
 have F:(List.zipWith j5 (G++[[]]) (gz++[(none,0)]))[((G++[[]]).length-1)]? =some (j5 cg cga):=dB B D
 refine D1 (f:=nc) 0 B D U U U ?_
 try dsimp only
 refine an<|rP 4 [] I ?_
 refine rS (IA ((G++[[]]).length-1) U (al (n:=(G++[[]]).length) 20 U (k6 (by simp; omega))) pC dc om om) ?_
 refine rS (gh ((G++[[]]).length-1) 0 (vS cga.1 cg.length cga.2) U cm (al (n:=(G++[[]]).length) 20 U (k6 (by simp; omega))) F U dc U) ?_
 refine rP 1 [] I ?_
 have An:cg.length≤12:=(List.mem_append.1 (show cg∈G++[[]] from by first|exact aV B|exact List.mem_append_left _ (aV B))).elim (fun q=>by have:=zH A q; omega) (fun q=>by simp at q; subst q; simp)
 refine cZ (xs:=[.tmp 57]) (cs:=[(vI x)]) U cJ jd U U U U (by simp [Value.cells]) U U fun BB=>?_
 refine de (es2:=(List.map iC (cg++[x]))) (m':=(cg++[x]).length) 1 U U U pT U U sm (a_ (es:=List.map iC [x]) 0 U U (by simp [bK]) U) (j6 _) os (by first|(simp only [maxLen]; omega)|(simp [maxLen]; omega)) sm sm U fun J L=>?_
 try dsimp only
 refine rS (IA ((G++[[]]).length-1) U (al (n:=(G++[[]]).length) 21 U (k6 (by simp; omega))) pC dc om om) ?_
 refine eG (k:=((G++[[]]).length-1)) (o:=0) (vs:=[(vS J ((cg++[x]).length) L)]) (es':=(List.zipWith j5 ((G++[[]]).set ((G++[[]]).length-1) (cg++[x])) ((gz++[(none,0)]).set ((G++[[]]).length-1) (J,L)))) (C':=[_,_,_,_,_,_,_,_,_,_,_,_,_,_,_,_,_,_,_,_,_,(own P S 29 1 (List.zipWith j5 ((G++[[]]).set ((G++[[]]).length-1) (cg++[x])) ((gz++[(none,0)]).set ((G++[[]]).length-1) (J,L))))]) 21 U U U AJ U U U U F U dc (by exact qA (c:=j5) (m:=(cg++[x])) (a:=(J,L))) U<|F9 (f:=nc) (ms:=(G++[[]])) (asl:=(gz++[(none,0)])) (m:=(cg++[x])) (a:=(J,L)) 2 1 om om U U U<|RK AK<|an<|fF 3 [] (mc 3 U I) U<|rS (MX U)<|bg 1 U<|aF<|aH<|KK BL<|an<|rP 2 [] I ?_
 refine aF ?_
 have AV:(vS P (((G++[[]]).set ((G++[[]]).length-1) (cg++[x])).length) S)=(vS P ((G++[[]]).length) S):=by rw [List.length_set]
 have AW:(vI (((i+1):Nat):Int))=(vI ((i:Int)+1)):=by exact cI om
 refine aT (T ⟨((i+1),((G++[[]]).set ((G++[[]]).length-1) (cg++[x])),((gz++[(none,0)]).set ((G++[[]]).length-1) (J,L)),P,S,(max last ((aD (aG r) x).Hi))),⟨om,by simp; omega,by first|exact pb om hx B A N|exact oj om (fun u _=>(gO (i:=u) BM).2.1) Ac hx B A N,dso⟩⟩ _ _ _ U os (cP 4<|bo U AV<|dy.cons U<|bo U AW<|dy.nil _) (aL [4,5,6,7,8,9,10,11,12,13,14,15,16,17,18,19,0,20]))
end
section
open Go.RowKit
theorem u7 (G:List (List Int)) (H:List (List Int)) (gz:List RA) (gA:OA) (gC:Nat) (hz:List RA) (hA:OA) (hC:Nat) (h1:G.length≤1000000) (h2:H.length≤1000000) (h3: ∀ l∈G,l.length≤1000000) (h4: ∀ l∈H,l.length≤1000000) (hgz:gz.length=G.length) (hhz:hz.length=H.length):
 d_ Tryz.prog 27 [(vS gA G.length gC),(vS hA H.length hC)] [(rd gA G.length 1 (List.zipWith j5 G gz)),(fc (aS QP G gz)),(rd hA H.length 1 (List.zipWith j5 H hz)),(fc (aS QP H hz))] (vB (decide (G=H))):=by
 refine bE kr Tryz.func27 U U fun Z Q hQ hN=>?_
 try dsimp only
 refine WS fun _ N=>bg 1 U<|RK N<|ak fun _ O=>WS fun _ P=>rP 5 [] I ?_
 refine RK P<|cE U (br fun hl=>?_) (bq fun hl=>?_)
 ·refine WS fun _ R=>rP 1 [] I ?_
  refine RK R<|ar<|Q1 hQ U U U ?_
  first|exact cB (cr (mY hx hy h)).symm|exact cB (fP (mX om A om)).symm|exact cB (cr (fun e=>by subst e; omega)).symm
 refine WK O<|ak fun _ S=>WS fun _ T=>rP 1 [] I ?_
 refine RK T<|ax ?_
 have B:(0≤G.length)∧(G.take 0=H.take 0):=by exact ⟨Nat.zero_le _,rfl⟩
 refine bR (ι:={z:Nat // (z≤G.length)∧(G.take z=H.take z)}) [0,1] [0,1,2,3] U U (fun z=>[(5,(vI (z.1:Int)))]) (fun z=>[]) (fun _=>rfl) (fun _=>rfl) (fun z=>G.length-z.1) ⟨0,B⟩ (aU U) (aL [0,1,2,3]) ?_
 clear B
 rintro ⟨i,⟨W,A⟩⟩ J7 M
 try dsimp only
 refine ak fun _ AA=>WS fun _ V=>rP 4 [] I ?_
 refine RK V<|bS U (aP fun L=>?_) (aQ fun L=>?_)
 ·refine bB<|ae<|ae<|aA<|KK S<|WS fun _ F=>rP 1 [] I ?_
  refine RK F<|ar<|Q1 hQ U U U ?_
  first|exact cB (cr (mY hx hy h)).symm|exact cB (fP (mX om A om)).symm|exact cB (cr (fun e=>by subst e; omega)).symm
 refine WK AA<|ak fun _ C=>ax<|ak fun _ D=>dh cu 10 kr<|dP 2 [] I ?_
 obtain ⟨x,hx⟩:=aM G i om
 obtain ⟨xa,J⟩:=aM gz i om
 have X:(List.zipWith j5 G gz)[i]? =some (j5 x xa):=dB hx J
 refine dS (IA i U (aB 0 U) pC dc om om)<|dS (gh i 0 (vS xa.1 x.length xa.2) U cm (aB 0 U) X U dc U)<|dP 2 [] I ?_
 obtain ⟨y,hy⟩:=aM H i om
 obtain ⟨ya,K⟩:=aM hz i om
 have Y:(List.zipWith j5 H hz)[i]? =some (j5 y ya):=dB hy K
 refine dS (IA i U (aB 2 U) pC dc om om)<|dS (gh i 0 (vS ya.1 y.length ya.2) U cm (aB 2 U) Y U dc U)<|dS (CL (nQ x xa.1 xa.2 y ya.1 ya.2 (by exact h3 x (aV hx)) (by exact h4 y (aV hy))) (ay (show iq _ (rd xa.1 x.length 1 (x.map iC)).holds from (cT 1 U (bT hx J (by simp [QP]))))<|ay (show iq _ (rd ya.1 y.length 1 (y.map iC)).holds from (cT 3 U (bT hy K (by simp [QP]))))<|aK) U)<|dP 1 [] I ?_
 refine cK<|RK D<|cE U (br fun h=>?_) (bq fun h=>?_)
 ·refine WS fun _ E=>rP 1 [] I ?_
  refine RK E<|ar<|Q1 hQ U U U ?_
  first|exact cB (cr (mY hx hy h)).symm|exact cB (fP (mX om A om)).symm|exact cB (cr (fun e=>by subst e; omega)).symm
 refine cj<|aH<|KK C<|an<|rP 3 [] I ?_
 refine aF ?_
 have AB:(vI (((i+1):Nat):Int))=(vI ((i:Int)+1)):=by exact cI om
 refine aT (M ⟨(i+1),⟨om,ui A hx hy h⟩⟩ _ _ _ U os (dy.cons U<|dy.cons U<|bo U AB<|dy.nil _) (aL [0,1,2,3]))
end
section
open Go.RowKit
theorem KA (l:List ao) (lA:OA) (lC:Nat) (hlen:l.length≤1000000):
 lq Tryz.prog 97 [(vS lA l.length lC)] [(rd lA l.length 9 (l.map ao.cells))] (fun (x:(OA)×Nat)=>(vS x.1 l.length x.2)) (fun (x:(OA)×Nat)=>True) (fun (x:(OA)×Nat)=>[(own x.1 x.2 122 9 (l.map ao.cells))]):=by
 refine dv kr Tryz.func97 U U fun L Q hQ hN=>?_
 try dsimp only
 refine WS fun _ D=>bg 1 U<|RK D<|ak fun _ E=>WS fun _ F=>rP 1 [] I ?_
 refine rS (BI U (qw Qz))<|RK F<|cE U (aQ fun B=>?_) (aP fun B=>?_)
 ·refine WS fun _ G=>mh (aB 0 U) B dc fun C=>?_
  have A:l=[]:=by simpa using C
  refine dM 122 9 ?_
  rw [show (own none 0 122 9 ([]:List (List Value)))=own none 0 122 9 (l.map ao.cells) from by rw [A]; rfl]
  refine rP 1 [] I ?_
  refine RK G<|ar ?_
  refine LX hQ (none,0) [0] [] I U U U ?_ ?_
  ·first|rfl|(rw [A]; rfl)
  ·trivial
 refine WK E<|WS fun _ H=>sO U yg U fun J=>rP 1 [] I ?_
 refine dY (es:=(List.map ao.cells [])) (C':=[own (some ⟨J,0,none⟩) 0 122 9 (List.map ao.cells []),_]) 0 U sm U (by simp [maxLen]) U ?_
 refine de (es2:=(List.map ao.cells l)) (m':=l.length) 0 U U U U3 U U sm (aB 1 U) (rN _) os (by first|(simp only [maxLen]; omega)|(simp [maxLen]; omega)) sm sm U fun AA K=>?_
 try dsimp only
 refine rP 1 [] I ?_
 refine RK H<|ar ?_
 refine LX hQ (AA,K) [0] [] I U U U ?_ ?_
 ·first|rfl|(rw [A]; rfl)
 ·trivial
theorem Kr (l:List bG) (lA:OA) (lC:Nat) (hlen:l.length≤1000000):
 lq Tryz.prog 99 [(vS lA l.length lC)] [(rd lA l.length 4 (l.map bG.cells))] (fun (x:(OA)×Nat)=>(vS x.1 l.length x.2)) (fun (x:(OA)×Nat)=>True) (fun (x:(OA)×Nat)=>[(own x.1 x.2 129 4 (l.map bG.cells))]):=by
 refine dv kr Tryz.func99 U U fun L Q hQ hN=>?_
 try dsimp only
 refine WS fun _ D=>bg 1 U<|RK D<|ak fun _ E=>WS fun _ F=>rP 1 [] I ?_
 refine rS (BI U (qw PM))<|RK F<|cE U (aQ fun B=>?_) (aP fun B=>?_)
 ·refine WS fun _ G=>mh (aB 0 U) B dc fun C=>?_
  have A:l=[]:=by simpa using C
  refine dM 129 4 ?_
  rw [show (own none 0 129 4 ([]:List (List Value)))=own none 0 129 4 (l.map bG.cells) from by rw [A]; rfl]
  refine rP 1 [] I ?_
  refine RK G<|ar ?_
  refine LX hQ (none,0) [0] [] I U U U ?_ ?_
  ·first|rfl|(rw [A]; rfl)
  ·trivial
 refine WK E<|WS fun _ H=>sO U vq U fun J=>rP 1 [] I ?_
 refine dY (es:=(List.map bG.cells [])) (C':=[own (some ⟨J,0,none⟩) 0 129 4 (List.map bG.cells []),_]) 0 U sm U (by simp [maxLen]) U ?_
 refine de (es2:=(List.map bG.cells l)) (m':=l.length) 0 U U U UG U U sm (aB 1 U) (vt _) os (by first|(simp only [maxLen]; omega)|(simp [maxLen]; omega)) sm sm U fun AA K=>?_
 try dsimp only
 refine rP 1 [] I ?_
 refine RK H<|ar ?_
 refine LX hQ (AA,K) [0] [] I U U U ?_ ?_
 ·first|rfl|(rw [A]; rfl)
 ·trivial
theorem K2 (l:List cH) (lA:OA) (lC:Nat) (hlen:l.length≤1000000):
 lq Tryz.prog 100 [(vS lA l.length lC)] [(rd lA l.length 3 (l.map cH.cells))] (fun (x:(OA)×Nat)=>(vS x.1 l.length x.2)) (fun (x:(OA)×Nat)=>True) (fun (x:(OA)×Nat)=>[(own x.1 x.2 124 3 (l.map cH.cells))]):=by
 refine dv kr Tryz.func100 U U fun L Q hQ hN=>?_
 try dsimp only
 refine WS fun _ D=>bg 1 U<|RK D<|ak fun _ E=>WS fun _ F=>rP 1 [] I ?_
 refine rS (BI U (qw Oz))<|RK F<|cE U (aQ fun B=>?_) (aP fun B=>?_)
 ·refine WS fun _ G=>mh (aB 0 U) B dc fun C=>?_
  have A:l=[]:=by simpa using C
  refine dM 124 3 ?_
  rw [show (own none 0 124 3 ([]:List (List Value)))=own none 0 124 3 (l.map cH.cells) from by rw [A]; rfl]
  refine rP 1 [] I ?_
  refine RK G<|ar ?_
  refine LX hQ (none,0) [0] [] I U U U ?_ ?_
  ·first|rfl|(rw [A]; rfl)
  ·trivial
 refine WK E<|WS fun _ H=>sO U p8 U fun J=>rP 1 [] I ?_
 refine dY (es:=(List.map cH.cells [])) (C':=[own (some ⟨J,0,none⟩) 0 124 3 (List.map cH.cells []),_]) 0 U sm U (by simp [maxLen]) U ?_
 refine de (es2:=(List.map cH.cells l)) (m':=l.length) 0 U U U SN U U sm (aB 1 U) (vp _) os (by first|(simp only [maxLen]; omega)|(simp [maxLen]; omega)) sm sm U fun AA K=>?_
 try dsimp only
 refine rP 1 [] I ?_
 refine RK H<|ar ?_
 refine LX hQ (AA,K) [0] [] I U U U ?_ ?_
 ·first|rfl|(rw [A]; rfl)
 ·trivial
theorem Jy (l:List aO) (lA:OA) (lC:Nat) (hlen:l.length≤1000000):
 lq Tryz.prog 103 [(vS lA l.length lC)] [(rd lA l.length 2 (l.map aO.cells))] (fun (x:(OA)×Nat)=>(vS x.1 l.length x.2)) (fun (x:(OA)×Nat)=>True) (fun (x:(OA)×Nat)=>[(own x.1 x.2 131 2 (l.map aO.cells))]):=by
 refine dv kr Tryz.func103 U U fun L Q hQ hN=>?_
 try dsimp only
 refine WS fun _ D=>bg 1 U<|RK D<|ak fun _ E=>WS fun _ F=>rP 1 [] I ?_
 refine rS (BI U (qw RE))<|RK F<|cE U (aQ fun B=>?_) (aP fun B=>?_)
 ·refine WS fun _ G=>mh (aB 0 U) B dc fun C=>?_
  have A:l=[]:=by simpa using C
  refine dM 131 2 ?_
  rw [show (own none 0 131 2 ([]:List (List Value)))=own none 0 131 2 (l.map aO.cells) from by rw [A]; rfl]
  refine rP 1 [] I ?_
  refine RK G<|ar ?_
  refine LX hQ (none,0) [0] [] I U U U ?_ ?_
  ·first|rfl|(rw [A]; rfl)
  ·trivial
 refine WK E<|WS fun _ H=>sO U zX U fun J=>rP 1 [] I ?_
 refine dY (es:=(List.map aO.cells [])) (C':=[own (some ⟨J,0,none⟩) 0 131 2 (List.map aO.cells []),_]) 0 U sm U (by simp [maxLen]) U ?_
 refine de (es2:=(List.map aO.cells l)) (m':=l.length) 0 U U U UC U U sm (aB 1 U) (sM _) os (by first|(simp only [maxLen]; omega)|(simp [maxLen]; omega)) sm sm U fun AA K=>?_
 try dsimp only
 refine rP 1 [] I ?_
 refine RK H<|ar ?_
 refine LX hQ (AA,K) [0] [] I U U U ?_ ?_
 ·first|rfl|(rw [A]; rfl)
 ·trivial
theorem LS (es:List (List Value)) (lA:OA) (n lC:Nat) (hlen:n≤1000000) (hes:es.length=n) (hone: ∀ v∈es.flatten,v.oneCell'=true):
 lq Tryz.prog 98 [(vS lA n lC)] [(rd lA n 2 es)] (fun (x:(OA)×Nat)=>(vS x.1 n x.2)) (fun (x:(OA)×Nat)=>True) (fun (x:(OA)×Nat)=>[(own x.1 x.2 127 2 es)]):=by
 refine dv kr Tryz.func98 U U fun L Q hQ hN=>?_
 try dsimp only
 refine WS fun _ D=>bg 1 U<|RK D<|ak fun _ E=>WS fun _ F=>rP 1 [] I ?_
 refine rS (BI U (qw Rq))<|RK F<|cE U (aQ fun B=>?_) (aP fun B=>?_)
 ·refine WS fun _ G=>mh (aB 0 U) B dc fun C=>?_
  have A:es=[]:=C
  refine dM 127 2 ?_
  rw [show (own none 0 127 2 ([]:List (List Value)))=own none 0 127 2 es from by rw [A]]
  refine rP 1 [] I ?_
  refine RK G<|ar ?_
  refine LX hQ (none,0) [0] [] I U U U ?_ ?_
  ·first|rfl|(rw [hes]; rfl)|(rw [← hes,A]; rfl)
  ·trivial
 refine WK E<|WS fun _ H=>sO U z8 U fun J=>rP 1 [] I ?_
 refine dY (es:=(List.map du.cells [])) (C':=[own (some ⟨J,0,none⟩) 0 127 2 (List.map du.cells []),_]) 0 U sm U (by simp [maxLen]) U ?_
 refine de (es2:=es) (m':=es.length) 0 U U U Vk U U sm (aB 1 U) hone (by simp; omega) (by simp [maxLen]; omega) sm U U fun AA K=>?_
 try dsimp only
 refine rP 1 [] I ?_
 refine RK H<|ar ?_
 refine LX hQ (AA,K) [0] [] I U U U ?_ ?_
 ·first|rfl|(rw [hes]; rfl)|(rw [← hes,A]; rfl)
 ·trivial
theorem I4 (es:List (List Value)) (lA:OA) (n lC:Nat) (hlen:n≤1000000) (hes:es.length=n) (hone: ∀ v∈es.flatten,v.oneCell'=true):
 lq Tryz.prog 102 [(vS lA n lC)] [(rd lA n 7 es)] (fun (x:(OA)×Nat)=>(vS x.1 n x.2)) (fun (x:(OA)×Nat)=>True) (fun (x:(OA)×Nat)=>[(own x.1 x.2 46 7 es)]):=by
 refine dv kr Tryz.func102 U U fun L Q hQ hN=>?_
 try dsimp only
 refine WS fun _ D=>bg 1 U<|RK D<|ak fun _ E=>WS fun _ F=>rP 1 [] I ?_
 refine rS (BI U (qw QY))<|RK F<|cE U (aQ fun B=>?_) (aP fun B=>?_)
 ·refine WS fun _ G=>mh (aB 0 U) B dc fun C=>?_
  have A:es=[]:=C
  refine dM 46 7 ?_
  rw [show (own none 0 46 7 ([]:List (List Value)))=own none 0 46 7 es from by rw [A]]
  refine rP 1 [] I ?_
  refine RK G<|ar ?_
  refine LX hQ (none,0) [0] [] I U U U ?_ ?_
  ·first|rfl|(rw [hes]; rfl)|(rw [← hes,A]; rfl)
  ·trivial
 refine WK E<|WS fun _ H=>sO U sE U fun J=>rP 1 [] I ?_
 refine dY (es:=(List.map bw.cells [])) (C':=[own (some ⟨J,0,none⟩) 0 46 7 (List.map bw.cells []),_]) 0 U sm U (by simp [maxLen]) U ?_
 refine de (es2:=es) (m':=es.length) 0 U U U TS U U sm (aB 1 U) hone (by simp; omega) (by simp [maxLen]; omega) sm U U fun AA K=>?_
 try dsimp only
 refine rP 1 [] I ?_
 refine RK H<|ar ?_
 refine LX hQ (AA,K) [0] [] I U U U ?_ ?_
 ·first|rfl|(rw [hes]; rfl)|(rw [← hes,A]; rfl)
 ·trivial
theorem IC (es:List (List Value)) (lA:OA) (n lC:Nat) (hlen:n≤1000000) (hes:es.length=n) (hone: ∀ v∈es.flatten,v.oneCell'=true):
 lq Tryz.prog 101 [(vS lA n lC)] [(rd lA n 1 es)] (fun (x:(OA)×Nat)=>(vS x.1 n x.2)) (fun (x:(OA)×Nat)=>True) (fun (x:(OA)×Nat)=>[(own x.1 x.2 47 1 es)]):=by
 refine dv kr Tryz.func101 U U fun L Q hQ hN=>?_
 try dsimp only
 refine WS fun _ D=>bg 1 U<|RK D<|ak fun _ E=>WS fun _ F=>rP 1 [] I ?_
 refine rS (BI U (qw S8))<|RK F<|cE U (aQ fun B=>?_) (aP fun B=>?_)
 ·refine WS fun _ G=>mh (aB 0 U) B dc fun C=>?_
  have A:es=[]:=C
  refine dM 47 1 ?_
  rw [show (own none 0 47 1 ([]:List (List Value)))=own none 0 47 1 es from by rw [A]]
  refine rP 1 [] I ?_
  refine RK G<|ar ?_
  refine LX hQ (none,0) [0] [] I U U U ?_ ?_
  ·first|rfl|(rw [hes]; rfl)|(rw [← hes,A]; rfl)
  ·trivial
 refine WK E<|WS fun _ H=>sO U pk U fun J=>rP 1 [] I ?_
 refine dY (es:=(List.map sC [])) (C':=[own (some ⟨J,0,none⟩) 0 47 1 (List.map sC []),_]) 0 U sm U (by simp [maxLen]) U ?_
 refine de (es2:=es) (m':=es.length) 0 U U U UN U U sm (aB 1 U) hone (by simp; omega) (by simp [maxLen]; omega) sm U U fun AA K=>?_
 try dsimp only
 refine rP 1 [] I ?_
 refine RK H<|ar ?_
 refine LX hQ (AA,K) [0] [] I U U U ?_ ?_
 ·first|rfl|(rw [hes]; rfl)|(rw [← hes,A]; rfl)
 ·trivial
end
section
open Go.RowKit
theorem NP (r:cd) (kA:OA) (kC:Nat) (az:List RA) (cA:OA) (cC:Nat) (bA:OA) (bC:Nat) (slA:OA) (slC:Nat) (drA:OA) (drC:Nat) (ha:List cS) (heA:OA) (heC:Nat) (hin:fy r az ha):
 lq Tryz.prog 68 [(vA (bu.cells (ou r kA kC cA cC bA bC slA slC drA drC heA heC)))] [(rd kA r.ah.aJ.length 9 (r.ah.aJ.map ao.cells)),(rd cA r.ah.ai.length 2 (List.zipWith au.cells r.ah.ai az)),(fc (aS au.gW r.ah.ai az)),(rd bA r.ah.ag.length 4 (r.ah.ag.map bG.cells)),(rd slA r.aI.length 1 (r.aI.map iC)),(rd drA r.bD.length 1 (r.bD.map iC)),(rd heA r.aq.length 1 (List.zipWith cD r.aq ha)),(fc (aS im r.aq ha))] (fun (x:(OA)×Nat×(OA)×Nat×(List RA)×(OA)×Nat×(OA)×Nat×(OA)×Nat×(OA)×Nat×(List cS))=>(vA (bu.cells (bu.mk (bJ.mk (aZ.mk (aN.mk x.1 r.ah.aJ.length x.2.1)) r.ah.dG (aN.mk x.2.2.1 r.ah.ai.length x.2.2.2.1) (aN.mk x.2.2.2.2.2.1 r.ah.ag.length x.2.2.2.2.2.2.1) r.ah.bI r.ah.cy r.ah.bL) (aN.mk x.2.2.2.2.2.2.2.1 r.aI.length x.2.2.2.2.2.2.2.2.1) (aN.mk x.2.2.2.2.2.2.2.2.2.1 r.bD.length x.2.2.2.2.2.2.2.2.2.2.1) r.dZ (aN.mk x.2.2.2.2.2.2.2.2.2.2.2.1 r.aq.length x.2.2.2.2.2.2.2.2.2.2.2.2.1))))) (fun (x:(OA)×Nat×(OA)×Nat×(List RA)×(OA)×Nat×(OA)×Nat×(OA)×Nat×(OA)×Nat×(List cS))=>(x.2.2.2.2.1.length=r.ah.ai.length∧rr r.ah.ai x.2.2.2.2.1)∧sH r.aq x.2.2.2.2.2.2.2.2.2.2.2.2.2) (fun (x:(OA)×Nat×(OA)×Nat×(List RA)×(OA)×Nat×(OA)×Nat×(OA)×Nat×(OA)×Nat×(List cS))=>[(own x.1 x.2.1 122 9 (r.ah.aJ.map ao.cells)),(own x.2.2.1 x.2.2.2.1 127 2 (List.zipWith au.cells r.ah.ai x.2.2.2.2.1)),(bp (aS au.owns r.ah.ai x.2.2.2.2.1)),(own x.2.2.2.2.2.1 x.2.2.2.2.2.2.1 129 4 (r.ah.ag.map bG.cells)),(own x.2.2.2.2.2.2.2.1 x.2.2.2.2.2.2.2.2.1 3 1 (r.aI.map iC)),(own x.2.2.2.2.2.2.2.2.2.1 x.2.2.2.2.2.2.2.2.2.2.1 3 1 (r.bD.map iC)),(own x.2.2.2.2.2.2.2.2.2.2.2.1 x.2.2.2.2.2.2.2.2.2.2.2.2.1 47 1 (List.zipWith cD r.aq x.2.2.2.2.2.2.2.2.2.2.2.2.2)),(bp (aS gR r.aq x.2.2.2.2.2.2.2.2.2.2.2.2.2))]):=by
 have C:=hin.line
 have A_:=hin.iP
 have M:=hin.has
 have BM:=hin.iR
 have BK:=hin.draw
 have BN:=dJ (r:=r)
 have Ba:=C.si
 have BX:=C.sh
 have BW:=C.sf
 have A7:=C.nO
 refine dv kr Tryz.func68 U U fun w0 Q hQ hN=>?_
 try dsimp only
 refine WS fun _ A3=>fU U fun b2=>AL U CM fun b3=>RK A3<|WS fun _ A4=>rP 2 [] I ?_
 refine RK A4<|ak fun _ A5=>dL cu [8,13,18,22,25,28] [7,11,15] [0,1,2] [0,2,3,4,5,6,7,8,9] [0,1,2,3,4,5,6,7,8,9] U U U U U<|eS U (MV U)<|eS U (MV U)<|eS U (MV U)<|eS U (MV U)<|eS U (SX (bO U U) U U)<|eS U (FA 0 U fB U)<|eS U (FA 0 U fB U)<|fS U (L1 (vS kA r.ah.aJ.length kC) 1 U cm U U)<|eS U (MV U)<|eS U (SX (bO U U) U U)<|eS U (FA 2 U fB U)<|fS U (L1 (vS cA r.ah.ai.length cC) 1 U cm U U)<|eS U (MV U)<|eS U (SX (bO U U) U U)<|eS U (FA 3 U fB U)<|fS U (L1 (vS bA r.ah.ag.length bC) 1 U cm U U)<|eS U (SX (bO U U) U U)<|eS U (FA 0 U fB U)<|eS U (FA 0 U fB U)<|eS U (SX (bO U U) U U)<|eS U (FA 2 U fB U)<|eS U (SX (bO U U) U U)<|eS U (FA 3 U fB U)<|e9 U<|iA U fun T6 A6=>?_
 refine cX (KA r.ah.aJ kA kC sd) (bh [2]) U fun y7 Bb=>?_
 obtain ⟨a9,S⟩:=y7
 try dsimp only
 refine aF (A6 _ _ (aL [1,3,4,5,6,7,8,9,10]) (aL [1,2,3,4,5,6,7,8,9,10]) ?_)
 refine iA U fun T11 Af=>?_
 refine cX (LS (List.zipWith au.cells r.ah.ai az) cA r.ah.ai.length cC sd (by exact gZ A7) (by exact Es _ _)) (bh [4]) U fun BB BO=>?_
 obtain ⟨J,K⟩:=BB
 try dsimp only
 refine aF (Af _ _ (aL [2,4,5,6,7,8,9,10,11]) (aL [2,3,4,5,6,7,8,9,10,11]) ?_)
 refine iA U fun T16 Ag=>?_
 refine cX (Kr r.ah.ag bA bC sd) (bh [7]) U fun BC BP=>?_
 obtain ⟨Y,Z⟩:=BC
 try dsimp only
 refine aF (Ag _ _ (aL [3,5,6,7,8,9,10,11,12]) (aL [3,4,5,6,7,8,9,10,11,12]) ?_)
 refine cq U fun T21 Ah=>Vh (bu.cells (bu.mk (bJ.mk (aZ.mk (aN.mk a9 r.ah.aJ.length S)) r.ah.dG (aN.mk cA r.ah.ai.length cC) (aN.mk bA r.ah.ag.length bC) r.ah.bI r.ah.cy r.ah.bL) (aN.mk slA r.aI.length slC) (aN.mk drA r.bD.length drC) r.dZ (aN.mk heA r.aq.length heC))) U UW U U<|aF (Ah _ _ (aL [3,5,6,7,8,9,10,11,12]) ?_)
 refine cq U fun T22 Ai=>Vh (bu.cells (bu.mk (bJ.mk (aZ.mk (aN.mk a9 r.ah.aJ.length S)) r.ah.dG (aN.mk J r.ah.ai.length K) (aN.mk bA r.ah.ag.length bC) r.ah.bI r.ah.cy r.ah.bL) (aN.mk slA r.aI.length slC) (aN.mk drA r.bD.length drC) r.dZ (aN.mk heA r.aq.length heC))) U Ur U U<|aF (Ai _ _ (aL [3,5,6,7,8,9,10,11,12]) ?_)
 refine cq U fun T23 Aj=>Vh (bu.cells (bu.mk (bJ.mk (aZ.mk (aN.mk a9 r.ah.aJ.length S)) r.ah.dG (aN.mk J r.ah.ai.length K) (aN.mk Y r.ah.ag.length Z) r.ah.bI r.ah.cy r.ah.bL) (aN.mk slA r.aI.length slC) (aN.mk drA r.bD.length drC) r.dZ (aN.mk heA r.aq.length heC))) U UX U U<|aF (Aj _ _ (aL [3,5,6,7,8,9,10,11,12]) ?_)
 refine fO U<|KK A5<|ak fun _ AI=>WS fun _ AK=>bg 1 U<|rS (SX (bO U U) U U)<|rP 4 [] (mc 4 U I) ?_
 refine RK AK<|ax<|og ?_
 have E:(0≤r.ah.ai.length)∧(([]:List RA).length=0)∧(rr r.ah.ai ([]:List RA)):=by exact ⟨Nat.zero_le _,rfl,fun k m a _ h=>by simp at h⟩
 refine bR (ι:={z:Nat×(List RA) // (z.1≤r.ah.ai.length)∧(z.2.length=z.1)∧(rr r.ah.ai z.2)}) [1,2,3,39] [1,3,4,5,6,7,8,9,10,11,12,13] U U (fun z=>[(40,(vI (z.1.1:Int)))]) (fun z=>[(bp (aS au.owns (r.ah.ai.take z.1.1) z.1.2)),(own J K 127 2 (List.zipWith au.cells r.ah.ai (km z.1.2 az z.1.1)))]) (fun _=>rfl) (fun _=>rfl) (fun z=>r.ah.ai.length-z.1.1) ⟨(0,([]:List RA)),E⟩ (aU U) (aL [1,3,4,5,6,7,8,9,10,11,12,13,0,2]) ?_
 clear E
 rintro ⟨⟨i,bz⟩,⟨AE,B,V⟩⟩ J26 AF
 try dsimp only at AE B V
 try dsimp only
 refine WS fun _ AM=>rP 1 [] I ?_
 refine RK AM<|ak fun _ AN=>cE U (aQ fun A0=>?_) (aP fun A0=>?_)
 ·refine WK AN<|ak fun _ AO=>ax<|WS fun _ AP=>rP 2 [] I ?_
  refine RK AP<|dL cu [13,16] [10,11,12,13,14] [0] [0,1,2,3,4,5,6,7,8,9,10,11,12] [0,1,2,3,4,5,6,7,8,9,10,11,12,13] U U U U U<|eS U (MV U)<|eS U (SX (bO U U) U U)<|eS U (FA 2 U fB U)<|eS U (L1 (vS J r.ah.ai.length K) 3 U cm U U)<|eS U (MV U)<|eS U (MV U)<|eS U (SX (bO U U) U U)<|eS U (FA 2 U fB U)<|eS U (L1 (vS J r.ah.ai.length K) 3 U cm U U)<|eS U (MV U) ?_
  obtain ⟨x,hx⟩:=aM r.ah.ai i om
  obtain ⟨xa,s⟩:=aM az i om
  have Az:(List.zipWith au.cells r.ah.ai (km bz az i))[i]? =some (au.cells x xa):=dB hx (Ak B s)
  have BZ:=(C.QQ _ _ _ hx s).2
  refine fS U (IA i U (al (n:=r.ah.ai.length) 13 U (gZ (by rw [iz B om]; exact C.nO))) z8 dc om om) ?_
  refine fS U (mK ((i*2)+1) U (al (n:=r.ah.ai.length) 13 U (gZ (by rw [iz B om]; exact C.nO))) (Nat.mul_pos om dc) fB U) ?_
  refine fS U (gh i 1 (vS xa.1 x.bx.length xa.2) U cm (al (n:=r.ah.ai.length) 13 U (gZ (by rw [iz B om]; exact C.nO))) Az U dc U) ?_
  refine fS U (IA i U (al (n:=r.ah.ai.length) 13 U (gZ (by rw [iz B om]; exact C.nO))) z8 dc om om) ?_
  refine fS U (mK ((i*2)+1) U (al (n:=r.ah.ai.length) 13 U (gZ (by rw [iz B om]; exact C.nO))) (Nat.mul_pos om dc) fB U) ?_
  refine e9 U<|iA U fun T32 Al=>?_
  refine cX (K2 x.bx xa.1 xa.2 sd) (ay (show iq _ (rd xa.1 x.bx.length 3 (x.bx.map cH.cells)).holds from (cT 6 U (bT hx s (by simp [au.gW]))))<|aK) U fun BD BQ=>?_
  obtain ⟨P,T⟩:=BD
  try dsimp only
  refine aF (Al _ _ (aL [1,2,3,4,5,6,7,8,9,10,11,12,13]) (aL [1,2,3,4,5,6,7,8,9,10,11,12,13,14]) ?_)
  refine cq U fun T37 Am=>eG (k:=i) (o:=1) (vs:=[(vS P x.bx.length T)]) (es':=(List.zipWith au.cells r.ah.ai (km (bz++[(P,T)]) az (i+1)))) (C':=[_,_,_,_,_,_,_,_,_,_,_,_,_,_,(own J K 127 2 (List.zipWith au.cells r.ah.ai (km (bz++[(P,T)]) az (i+1))))]) 14 U U U SG U U U U Az U dc (by exact xh (c:=au.cells) (b:=(P,T)) hx B s) U<|aF (Am _ _ (aL [1,2,3,4,5,6,7,8,9,10,11,12,13]) ?_)
  refine fO U<|aH<|KK AO<|an<|rP 2 [] I ?_
  refine aF<|QJ 0 U fun t=>?_
  simp only [List.length_map] at t
  refine Kk (Y':=aS au.owns (r.ah.ai.take (i+1)) (bz++[(P,T)])) 13 0 U U (rH (f:=au.owns) (b:=(P,T)) hx B) ?_
  have Av:(vI (((i+1):Nat):Int))=(vI ((i:Int)+1)):=by exact cI om
  refine aT (AF ⟨((i+1),(bz++[(P,T)])),⟨om,by simp; omega,Ji V B hx t⟩⟩ _ _ _ U os (cP 4<|bo U Av<|dy.nil _) (aL [1,2,3,4,5,6,7,8,9,10,11,12,0,13]))
 refine bB<|ae<|ae<|aA<|KK AI<|ak fun _ AQ=>?_
 have A8:bz.length=r.ah.ai.length:=by omega
 have A9:=V
 rw [show (km bz az i)=bz from wy om,show r.ah.ai.take i=r.ah.ai from List.take_of_length_le om]
 refine dL cu [2,5,8,10,12,14] [1,3,5] [0,1,2] [0,1,2,4,5,6,7,8,9,10,11,12,13] [0,1,2,3,4,5,6,7,8,9,10,11,12,13] U U U U U<|eS U (FA 7 U fB U)<|fS U (L1 (vS slA r.aI.length slC) 3 U cm U U)<|eS U (FA 8 U fB U)<|fS U (L1 (vS drA r.bD.length drC) 3 U cm U U)<|eS U (FA 10 U fB U)<|fS U (L1 (vS heA r.aq.length heC) 3 U cm U U)<|eS U (FA 7 U fB U)<|eS U (FA 8 U fB U)<|eS U (FA 10 U fB U)<|e9 U<|iA U fun T40 An=>?_
 refine cX (vH r.aI slA slC sd) (bh [8]) U fun BE BR=>?_
 obtain ⟨g,j⟩:=BE
 try dsimp only
 refine aF (An _ _ (aL [1,2,3,5,6,7,8,9,10,11,12,13,14]) (aL [1,2,3,4,5,6,7,8,9,10,11,12,13,14]) ?_)
 refine iA U fun T45 Ao=>?_
 refine cX (vH r.bD drA drC sd) (bh [10]) U fun BF BS=>?_
 obtain ⟨w,AB⟩:=BF
 try dsimp only
 refine aF (Ao _ _ (aL [2,3,4,6,7,8,9,10,11,12,13,14,15]) (aL [2,3,4,5,6,7,8,9,10,11,12,13,14,15]) ?_)
 refine iA U fun T50 Ap=>?_
 refine cX (IC (List.zipWith cD r.aq ha) heA r.aq.length heC sd (by exact fw M) (by exact HS _ _)) (bh [12]) U fun BG BT=>?_
 obtain ⟨W,X⟩:=BG
 try dsimp only
 refine aF (Ap _ _ (aL [3,4,5,7,8,9,10,11,12,13,14,15,16]) (aL [3,4,5,6,7,8,9,10,11,12,13,14,15,16]) ?_)
 refine cq U fun T55 Aq=>TQ (bu.cells (bu.mk (bJ.mk (aZ.mk (aN.mk a9 r.ah.aJ.length S)) r.ah.dG (aN.mk J r.ah.ai.length K) (aN.mk Y r.ah.ag.length Z) r.ah.bI r.ah.cy r.ah.bL) (aN.mk g r.aI.length j) (aN.mk drA r.bD.length drC) r.dZ (aN.mk heA r.aq.length heC))) U AJ U U<|aF (Aq _ _ (aL [3,4,5,7,8,9,10,11,12,13,14,15,16]) ?_)
 refine cq U fun T56 Ar=>TQ (bu.cells (bu.mk (bJ.mk (aZ.mk (aN.mk a9 r.ah.aJ.length S)) r.ah.dG (aN.mk J r.ah.ai.length K) (aN.mk Y r.ah.ag.length Z) r.ah.bI r.ah.cy r.ah.bL) (aN.mk g r.aI.length j) (aN.mk w r.bD.length AB) r.dZ (aN.mk heA r.aq.length heC))) U AJ U U<|aF (Ar _ _ (aL [3,4,5,7,8,9,10,11,12,13,14,15,16]) ?_)
 refine cq U fun T57 As=>TQ (bu.cells (bu.mk (bJ.mk (aZ.mk (aN.mk a9 r.ah.aJ.length S)) r.ah.dG (aN.mk J r.ah.ai.length K) (aN.mk Y r.ah.ag.length Z) r.ah.bI r.ah.cy r.ah.bL) (aN.mk g r.aI.length j) (aN.mk w r.bD.length AB) r.dZ (aN.mk W r.aq.length X))) U Uk U U<|aF (As _ _ (aL [3,4,5,7,8,9,10,11,12,13,14,15,16]) ?_)
 refine fO U<|KK AQ<|ak fun _ AR=>WS fun _ AS=>rP 4 [] (mc 6 U I) ?_
 refine RK AS<|ax<|og ?_
 have E:(0≤r.aq.length)∧(([]:List cS).length=0)∧(∀ (k:Nat) y (a:cS),r.aq[k]? =some y→([]:List cS)[k]? =some a→a.2.length=y.length):=by exact ⟨Nat.zero_le _,rfl,fun k y a _ q=>by simp at q⟩
 refine bR (ι:={z:Nat×(List cS) // (z.1≤r.aq.length)∧(z.2.length=z.1)∧(∀ (k:Nat) y (a:cS),r.aq[k]? =some y→z.2[k]? =some a→a.2.length=y.length)}) [1,2,74] [2,3,4,5,6,7,8,9,10,11,12,13,14,15,16,17] U U (fun z=>[(75,(vI (z.1.1:Int)))]) (fun z=>[(bp (aS gR (r.aq.take z.1.1) z.1.2)),(own W X 47 1 (List.zipWith cD r.aq (km z.1.2 ha z.1.1)))]) (fun _=>rfl) (fun _=>rfl) (fun z=>r.aq.length-z.1.1) ⟨(0,([]:List cS)),E⟩ (aU U) (aL [2,3,4,5,6,7,8,9,10,11,12,13,14,15,16,17,0,1]) ?_
 clear E
 rintro ⟨⟨h,hz⟩,⟨l,A,L⟩⟩ J60 AG
 try dsimp only at l A L
 try dsimp only
 refine WS fun _ AT=>rP 1 [] I ?_
 refine RK AT<|ak fun _ AU=>bS U (aP fun A1=>?_) (aQ fun A1=>?_)
 ·refine bB<|ae<|ae<|aA<|KK AR<|ak fun _ Ae=>?_
  have BA:sH r.aq hz:=⟨om,L⟩
  rw [show (km hz ha h)=hz from wy om,show r.aq.take h=r.aq from List.take_of_length_le om]
  refine an<|rP 1 [] (mc 5 U I) ?_
  refine O5 U sR U<|RK Ae<|ar ?_
  refine LX hQ (a9,S,J,K,bz,Y,Z,g,j,w,AB,W,X,hz) [3,15,14,2,1,0,17,16] [0] (mc 4 U I) U (by show List.all _ _=true; simp only [fI,List.all_nil,gn,kl,Bool.and_true]; rfl) U U ?_
  exact ⟨⟨A8,A9⟩,BA⟩
 refine WK AU<|ak fun _ AV=>ax<|WS fun _ AW=>rP 2 [] I ?_
 refine RK AW<|ak fun _ AX=>dL cu [8,10] [6,7,8] [0] [0,1,2,3,4,5,6,7,8,9,10,11,12,13,14,15,16] [0,1,2,3,4,5,6,7,8,9,10,11,12,13,14,15,16,17] U U U U U<|eS U (FA 10 U fB U)<|eS U (L1 (vS W r.aq.length X) 5 U cm U U)<|eS U (MV U)<|eS U (FA 10 U fB U)<|eS U (L1 (vS W r.aq.length X) 5 U cm U U)<|eS U (MV U) ?_
 obtain ⟨ht,N⟩:=aM r.aq h om
 obtain ⟨D,O⟩:=aM ha h om
 have u:(List.zipWith cD r.aq (km hz ha h))[h]? =some (cD ht D):=dB N (Ak A O)
 have AD:=hin.nu _ _ _ N O
 have e:=AD.nO
 have A_:=AD.len
 refine fS U (IA h U (al (n:=r.aq.length) 17 U (fw (by rw [iz A om]; exact M))) pk dc om om) ?_
 refine fS U (gh h 0 (vS D.1.1 ht.length D.1.2) U cm (al (n:=r.aq.length) 17 U (fw (by rw [iz A om]; exact M))) u U dc U) ?_
 refine fS U (IA h U (al (n:=r.aq.length) 17 U (fw (by rw [iz A om]; exact M))) pk dc om om) ?_
 refine e9 U<|iA U fun T67 At=>?_
 refine cX (I4 (List.zipWith aw.cells ht D.2) D.1.1 ht.length D.1.2 sd (by exact ql e) (by exact Ok _ _)) (ay (show iq _ (rd D.1.1 ht.length 7 (List.zipWith aw.cells ht D.2)).holds from (cT 13 U (bT N O bZ)))<|aK) U fun BH BU=>?_
 obtain ⟨G,H⟩:=BH
 try dsimp only
 refine aF (At _ _ (aL [1,2,3,4,5,6,7,8,9,10,11,12,13,14,15,16,17]) (aL [1,2,3,4,5,6,7,8,9,10,11,12,13,14,15,16,17,18]) ?_)
 refine cq U fun T72 Au=>eG (k:=h) (o:=0) (vs:=[(vS G ht.length H)]) (es':=(List.zipWith cD r.aq (km (hz++[((G,H),D.2)]) ha (h+1)))) (C':=[_,_,_,_,_,_,_,_,_,_,_,_,_,_,_,_,_,_,(own W X 47 1 (List.zipWith cD r.aq (km (hz++[((G,H),D.2)]) ha (h+1))))]) 18 U U U UT U U U U u U dc (by exact xh (b:=((G,H),D.2)) N A O) U<|aF (Au _ _ (aL [1,2,3,4,5,6,7,8,9,10,11,12,13,14,15,16,17]) ?_)
 refine fO U<|KK AX<|WS fun _ AY=>rP 3 [] (mc 6 U I) ?_
 have v:(List.zipWith cD r.aq (km (hz++[((G,H),D.2)]) ha (h+1)))[h]? =some (cD ht ((G,H),D.2)):=dB N (Ja A)
 refine rS (IA h U (al (n:=r.aq.length) 18 U (fw (by rw [iz (by simp; omega) om]; exact M))) pk dc om om) ?_
 refine rS (gh h 0 (vS G ht.length H) U cm (al (n:=r.aq.length) 18 U (fw (by rw [iz (by simp; omega) om]; exact M))) v U dc U) ?_
 refine rP 2 [] I ?_
 refine RK AY<|ax<|og ?_
 have E:(0≤ht.length)∧(([]:List RA).length=0):=by exact ⟨Nat.zero_le _,rfl⟩
 refine bR (ι:={z:Nat×(List RA) // (z.1≤ht.length)∧(z.2.length=z.1)}) [1,2,5,74,75,93] [2,3,4,5,6,7,8,9,10,11,12,13,14,15,16,17,18,19] U U (fun z=>[(94,(vI (z.1.1:Int)))]) (fun z=>[(bp (aS oh (ht.take z.1.1) z.1.2)),(own G H 46 7 (List.zipWith aw.cells ht (km z.1.2 D.2 z.1.1)))]) (fun _=>rfl) (fun _=>rfl) (fun z=>ht.length-z.1.1) ⟨(0,([]:List RA)),E⟩ (aU U) (aL [2,3,4,5,6,7,8,9,10,11,12,13,14,15,16,17,18,19,0,1]) ?_
 clear E
 rintro ⟨⟨i,dz⟩,⟨p,F⟩⟩ J74 AH
 try dsimp only at p F
 try dsimp only
 refine WS fun _ AZ=>rP 1 [] I ?_
 refine RK AZ<|ak fun _ Aa=>bS U (aP fun A2=>?_) (aQ fun A2=>?_)
 ·refine bB<|ae<|ae<|aA<|aH<|KK AV<|an<|rP 2 [] I ?_
  refine aF ?_
  have BL:dz.length=ht.length:=by omega
  rw [show (km dz D.2 i)=dz from wy om,show ht.take i=ht from List.take_of_length_le om]
  refine P4 (Z':=aS gR (r.aq.take (h+1)) (hz++[((G,H),dz)])) 16 18 19 U U (rH (f:=gR) (b:=((G,H),dz)) N A) ?_
  rw [K6 (y:=dz)]
  have Ax:(vI (((h+1):Nat):Int))=(vI ((h:Int)+1)):=by exact cI om
  refine aT (AG ⟨((h+1),(hz++[((G,H),dz)])),⟨om,by simp; omega,Ml N L A dso⟩⟩ _ _ _ U os (cP 3<|bo U Ax<|dy.nil _) (aL [1,2,3,4,5,6,7,8,9,10,11,12,13,14,15,16,0,17]))
 refine WK Aa<|ak fun _ Ab=>ax<|WS fun _ Ac=>rP 2 [] I ?_
 refine RK Ac<|ak fun _ Ad=>?_
 refine Eb 19 U (by rw [ql (by rw [iz F om]; exact e)]; omega) (fun BJ Bc=>?_)
 refine an<|rP 3 [] (mc 5 U I) ?_
 refine rS (IA h U (al (n:=r.aq.length) 17 U (fw (by rw [iz (by simp; omega) om]; exact M))) pk dc om om) ?_
 refine rS (gh h 0 (vS G ht.length H) U cm (al (n:=r.aq.length) 17 U (fw (by rw [iz (by simp; omega) om]; exact M))) v U dc U) ?_
 refine rP 1 [] I ?_
 obtain ⟨d,hd⟩:=aM ht i om
 obtain ⟨da,AC⟩:=aM D.2 i om
 have Ay:(List.zipWith aw.cells ht (km dz D.2 i))[i]? =some (aw.cells d da):=dB hd (Ak F AC)
 have BY:=AD.sig d (aV hd)
 refine rS (Vz i U Bc sE om om)<|rS (TP ((i*7)+4) U Bc fB U)<|bg 1 U<|RK Ad<|an<|rP 2 [] I ?_
 refine rS (SX (yj U U Bc) U U)<|rS (TP (((i*7)+4)+2) U Bc fB U) ?_
 refine rS (gh i 6 (vS da.1 d.cz.aj.length da.2) U cm (al (n:=ht.length) 19 U (ql (by rw [iz F om]; exact e))) Ay U dc U) ?_
 refine cX (Jy d.cz.aj da.1 da.2 sd) (ay (show iq _ (rd da.1 d.cz.aj.length 2 (d.cz.aj.map aO.cells)).holds from (cT 13 U (bT N O (cW _ (bT hd AC (by simp [aw.gW]))))))<|aK) U fun BI BV=>?_
 obtain ⟨R,AA⟩:=BI
 try dsimp only
 refine rS (SX (yj U U Bc) U U)<|rS (TP (((i*7)+4)+2) U Bc fB U)<|eG (k:=i) (o:=6) (vs:=[(vS R d.cz.aj.length AA)]) (es':=(List.zipWith aw.cells ht (km (dz++[(R,AA)]) D.2 (i+1)))) (C':=[_,_,_,_,_,_,_,_,_,_,_,_,_,_,_,_,_,_,_,_,(own G H 46 7 (List.zipWith aw.cells ht (km (dz++[(R,AA)]) D.2 (i+1))))]) 20 U U U Vi U U U U Ay U dc (by exact xh (c:=aw.cells) (b:=(R,AA)) hd F AC) U<|aF<|aH<|KK Ab<|an<|rP 2 [] I ?_
 refine aF<|Kk (Y':=aS oh (ht.take (i+1)) (dz++[(R,AA)])) 19 0 U U (rH (f:=oh) (b:=(R,AA)) hd F) ?_
 have Aw:(vI (((i+1):Nat):Int))=(vI ((i:Int)+1)):=by exact cI om
 refine aT (AH ⟨((i+1),(dz++[(R,AA)])),⟨om,by simp; omega⟩⟩ _ _ _ U os (cP 6<|bo U Aw<|dy.nil _) (aL [1,2,3,4,5,6,7,8,9,10,11,12,13,14,15,16,17,18,0,19]))
end
section
open Go.RowKit
theorem wj (r:cd) (kA:OA) (kC:Nat) (az:List RA) (cA:OA) (cC:Nat) (bA:OA) (bC:Nat) (slA:OA) (slC:Nat) (drA:OA) (drC:Nat) (ha:List cS) (heA:OA) (heC:Nat) (tz:List RA) (tA:OA) (tC:Nat) (ms:Value) (gw:Nat) (h i:Int) (t:aa) (hin:fy r az ha) (hok:eZ r):
 lq Tryz.prog 45 [(vP gw),(vI h),(vI i),(vA (aa.cells t))] [(rd kA r.ah.aJ.length 9 (r.ah.aJ.map ao.cells)),(rd cA r.ah.ai.length 2 (List.zipWith au.cells r.ah.ai az)),(fc (aS au.gW r.ah.ai az)),(rd bA r.ah.ag.length 4 (r.ah.ag.map bG.cells)),(rd slA r.aI.length 1 (r.aI.map iC)),(rd drA r.bD.length 1 (r.bD.map iC)),(rd heA r.aq.length 1 (List.zipWith cD r.aq ha)),(fc (aS im r.aq ha)),(rd tA ((cQ r).length) 1 (List.zipWith DA (cQ r) tz)),(fc (aS Mf (cQ r) tz)),(b_ gw 88 (fT.cells (fT.mk (ou r kA kC cA cC bA bC slA slC drA drC heA heC) (aN.mk tA ((cQ r).length) tC) ms)))] (fun (x:Bool×Int×(OA)×Nat×(OA)×Nat×(List RA)×(OA)×Nat×(OA)×Nat×(OA)×Nat×(OA)×Nat×(List cS))=>bif x.1 then (vT [(vA (bu.cells (bu.mk (bJ.mk (aZ.mk (aN.mk x.2.2.1 r.ah.aJ.length x.2.2.2.1)) r.ah.dG (aN.mk x.2.2.2.2.1 r.ah.ai.length x.2.2.2.2.2.1) (aN.mk x.2.2.2.2.2.2.2.1 r.ah.ag.length x.2.2.2.2.2.2.2.2.1) r.ah.bI r.ah.cy r.ah.bL) (aN.mk x.2.2.2.2.2.2.2.2.2.1 r.aI.length x.2.2.2.2.2.2.2.2.2.2.1) (aN.mk x.2.2.2.2.2.2.2.2.2.2.2.1 r.bD.length x.2.2.2.2.2.2.2.2.2.2.2.2.1) r.dZ (aN.mk x.2.2.2.2.2.2.2.2.2.2.2.2.2.1 ((dF r.aq h i t).length) x.2.2.2.2.2.2.2.2.2.2.2.2.2.2.1)))),(vI 0)]) else (vT [(vA (bu.cells (bu.mk (bJ.mk (aZ.mk (aN.mk none 0 0)) 0 (aN.mk none 0 0) (aN.mk none 0 0) 0 0 0) (aN.mk none 0 0) (aN.mk none 0 0) 0 (aN.mk none 0 0)))),(vI x.2.1)])) (fun (x:Bool×Int×(OA)×Nat×(OA)×Nat×(List RA)×(OA)×Nat×(OA)×Nat×(OA)×Nat×(OA)×Nat×(List cS))=>(x.1=true→((qd r h i t)=0∧(x.2.2.2.2.2.2.1.length=r.ah.ai.length∧rr r.ah.ai x.2.2.2.2.2.2.1)∧sH (dF r.aq h i t) x.2.2.2.2.2.2.2.2.2.2.2.2.2.2.2))∧(x.1=false→(x.2.1=(qd r h i t)∧ ¬ (qd r h i t)=0))) (fun (x:Bool×Int×(OA)×Nat×(OA)×Nat×(List RA)×(OA)×Nat×(OA)×Nat×(OA)×Nat×(OA)×Nat×(List cS))=>bif x.1 then [(own x.2.2.1 x.2.2.2.1 122 9 (r.ah.aJ.map ao.cells)),(own x.2.2.2.2.1 x.2.2.2.2.2.1 127 2 (List.zipWith au.cells r.ah.ai x.2.2.2.2.2.2.1)),(bp (aS au.owns r.ah.ai x.2.2.2.2.2.2.1)),(own x.2.2.2.2.2.2.2.1 x.2.2.2.2.2.2.2.2.1 129 4 (r.ah.ag.map bG.cells)),(own x.2.2.2.2.2.2.2.2.2.1 x.2.2.2.2.2.2.2.2.2.2.1 3 1 (r.aI.map iC)),(own x.2.2.2.2.2.2.2.2.2.2.2.1 x.2.2.2.2.2.2.2.2.2.2.2.2.1 3 1 (r.bD.map iC)),(own x.2.2.2.2.2.2.2.2.2.2.2.2.2.1 x.2.2.2.2.2.2.2.2.2.2.2.2.2.2.1 47 1 (List.zipWith cD (dF r.aq h i t) x.2.2.2.2.2.2.2.2.2.2.2.2.2.2.2)),(bp (aS gR (dF r.aq h i t) x.2.2.2.2.2.2.2.2.2.2.2.2.2.2.2))] else []):=by
 have AI:=hin.line
 have AV:=hin.iP
 have AX:=hin.has
 have AQ:=hin.iR
 have AM:=hin.draw
 have AR:=dJ (r:=r)
 have AZ:=hok.num
 have AY:=hok.nh
 refine dv Uq Tryz.func45 U U fun w0 Q hQ hN=>?_
 try dsimp only
 refine WS fun _ AC=>fU U fun b2=>AL U CM fun b3=>bg 1 U<|RK AC<|ak fun _ AD=>WS fun _ J=>bg 1 U<|rS (SX (bO U U) U U)<|rP 6 [] (mr 12 U I) ?_
 refine cZ (xs:=[.tmp 18]) (cs:=[(vI h)]) U cJ jd U U U U (by simp [Value.cells]) U U fun b6=>?_
 refine rS (CL (d_.eq (jT 0 ((r.aq.length:Int)-1) ([h]) (some ⟨b6,0,none⟩) 1 sd) cU) (ay (a_ 0 U U (by simp [bK]) U)<|aK) U) ?_
 refine rP 2 [] I ?_
 refine cw (t:=22) U (br fun AA=>?_) (bq fun AA=>?_)
 ·refine bg 11 U<|RK J<|aR U<|WS fun _ AE=>rS (SX (bj (xs:=[]) (cs:=(bu.cells (bu.mk (bJ.mk (aZ.mk (aN.mk none 0 0)) 0 (aN.mk none 0 0) (aN.mk none 0 0) 0 0 0) (aN.mk none 0 0) (aN.mk none 0 0) 0 (aN.mk none 0 0)))) U U (bk HH U)) U U)<|tF U sR U<|rP 1 [] I ?_
  refine RK AE<|ar ?_
  refine LX hQ (false,2,none,0,none,0,[],none,0,none,0,none,0,none,0,[]) [] [0] (mc 1 U I) U (by first|rfl|(show List.all _ _=true; simp only [cond_true,fI,List.all_nil,gn,kl,Bool.and_true]; rfl)) U ?_ ?_
  ·first|rfl|(simp only [cond_true,iW]; rfl)
  ·refine ⟨AN,fun _=>?_⟩; first|exact pO (lX (r:=r) (h:=h) (i:=i) (t:=t) om)|exact pO (lX (r:=r) (h:=h) (i:=i) (t:=t) (fun q=>absurd q.2 asm))|exact pO (sv (r:=r) (t:=t) ⟨om,asm⟩ A hd H)
 refine rP 2 [] I ?_
 refine cZ (xs:=[.tmp 24]) (cs:=[(vI i)]) U cJ jd U U U U (by simp [Value.cells]) U U fun b8=>?_
 refine rS (CL (d_.eq (zR r kA kC az cA cC bA bC slA slC drA drC ha heA heC tz tA tC ms gw ([i]) (some ⟨b8,0,none⟩) 1 hin sd) cU) (lz [4,5,6,7,8,9,10,11,12,13,14]<|ay (a_ 0 U U (by simp [bK]) U)<|aK) U) ?_
 refine rP 3 [] I ?_
 refine cw (t:=29) U (br fun AB=>?_) (bq fun AB=>?_)
 ·refine bg 4 U<|RK J<|aR U<|WS fun _ AF=>rS (SX (bj (xs:=[]) (cs:=(bu.cells (bu.mk (bJ.mk (aZ.mk (aN.mk none 0 0)) 0 (aN.mk none 0 0) (aN.mk none 0 0) 0 0 0) (aN.mk none 0 0) (aN.mk none 0 0) 0 (aN.mk none 0 0)))) U U (bk HH U)) U U)<|Hr U sR U<|rP 1 [] I ?_
  refine RK AF<|ar ?_
  refine LX hQ (false,2,none,0,none,0,[],none,0,none,0,none,0,none,0,[]) [] [0] (mc 2 U I) U (by first|rfl|(show List.all _ _=true; simp only [cond_true,fI,List.all_nil,gn,kl,Bool.and_true]; rfl)) U ?_ ?_
  ·first|rfl|(simp only [cond_true,iW]; rfl)
  ·refine ⟨AN,fun _=>?_⟩; first|exact pO (lX (r:=r) (h:=h) (i:=i) (t:=t) om)|exact pO (lX (r:=r) (h:=h) (i:=i) (t:=t) (fun q=>absurd q.2 asm))|exact pO (sv (r:=r) (t:=t) ⟨om,asm⟩ A hd H)
 refine fF 1 [] (mc 3 U I) U<|rS (CL (FL t) (aK) U)<|rP 2 [] I ?_
 refine RK J<|cE U (br fun Z=>?_) (bq fun Z=>?_)
 ·refine WS fun _ b=>rS (SX (bj (xs:=[]) (cs:=(bu.cells (bu.mk (bJ.mk (aZ.mk (aN.mk none 0 0)) 0 (aN.mk none 0 0) (aN.mk none 0 0) 0 0 0) (aN.mk none 0 0) (aN.mk none 0 0) 0 (aN.mk none 0 0)))) U U (bk HH U)) U U)<|Hr U sR U<|rP 1 [] I ?_
  refine RK b<|ar ?_
  refine LX hQ (false,2,none,0,none,0,[],none,0,none,0,none,0,none,0,[]) [] [0] (mc 2 U I) U (by first|rfl|(show List.all _ _=true; simp only [cond_true,fI,List.all_nil,gn,kl,Bool.and_true]; rfl)) U ?_ ?_
  ·first|rfl|(simp only [cond_true,iW]; rfl)
  ·refine ⟨AN,fun _=>?_⟩; first|exact pO (lX (r:=r) (h:=h) (i:=i) (t:=t) om)|exact pO (lX (r:=r) (h:=h) (i:=i) (t:=t) (fun q=>absurd q.2 asm))|exact pO (sv (r:=r) (t:=t) ⟨om,asm⟩ A hd H)
 refine WK AD<|ak fun _ e=>WS fun _ f=>bg 1 U<|rS (SX (bO U U) U U)<|rP 4 [] (mr 14 U I) ?_
 obtain ⟨ht,A⟩:=aM r.aq ((h).toNat) om
 obtain ⟨C,E⟩:=aM ha ((h).toNat) om
 have w:(List.zipWith cD r.aq ha)[(h).toNat]? =some (cD ht C):=dB A E
 refine rS (IA ((h).toNat) U (aB 10 U) pk dc om om) ?_
 have AH:=hin.nu _ _ _ A E
 have AO:=AH.nO
 have AW:=(hok.nu ht (aV A)).1
 refine rS (gh ((h).toNat) 0 (vS C.1.1 ht.length C.1.2) U Ps (aB 10 U) w U dc U)<|rP 1 [] I ?_
 obtain ⟨d,hd⟩:=aM ht ((i).toNat) om
 obtain ⟨da,K⟩:=aM C.2 ((i).toNat) om
 have AG:(List.zipWith aw.cells ht C.2)[(i).toNat]? =some (aw.cells d da):=dB hd K
 refine rS (IA ((i).toNat) U (show iq _ (rd C.1.1 ht.length 7 (List.zipWith aw.cells ht C.2)).holds from (cT 11 U (bT A E bZ))) sE dc om om)<|rS (mK (((i).toNat)*7) U (show iq _ (rd C.1.1 ht.length 7 (List.zipWith aw.cells ht C.2)).holds from (cT 11 U (bT A E bZ))) (Nat.mul_pos om dc) P0 U)<|rS (gh ((i).toNat) 0 (vB d.Out) U Vx (show iq _ (rd C.1.1 ht.length 7 (List.zipWith aw.cells ht C.2)).holds from (cT 11 U (bT A E bZ))) AG U dc U)<|RK f<|cE U (fun H=>?_) (fun H=>?_)
 ·refine WS fun _ g=>rS (SX (bj (xs:=[]) (cs:=(bu.cells (bu.mk (bJ.mk (aZ.mk (aN.mk none 0 0)) 0 (aN.mk none 0 0) (aN.mk none 0 0) 0 0 0) (aN.mk none 0 0) (aN.mk none 0 0) 0 (aN.mk none 0 0)))) U U (bk HH U)) U U)<|Hr U sR U<|rP 1 [] I ?_
  refine RK g<|ar ?_
  refine LX hQ (false,8,none,0,none,0,[],none,0,none,0,none,0,none,0,[]) [] [0] (mc 2 U I) U (by first|rfl|(show List.all _ _=true; simp only [cond_true,fI,List.all_nil,gn,kl,Bool.and_true]; rfl)) U ?_ ?_
  ·first|rfl|(simp only [cond_true,iW]; rfl)
  ·refine ⟨AN,fun _=>?_⟩; first|exact pO (lX (r:=r) (h:=h) (i:=i) (t:=t) om)|exact pO (lX (r:=r) (h:=h) (i:=i) (t:=t) (fun q=>absurd q.2 asm))|exact pO (sv (r:=r) (t:=t) ⟨om,asm⟩ A hd H)
 refine WK e<|WS fun _ j=>bg 1 U<|rS (SX (bO U U) U U)<|rP 1 [] I ?_
 refine rS (Vv (bu.cells (ou r kA kC cA cC bA bC slA slC drA drC heA heC)) 14 U RI U U U)<|cX (NP r kA kC az cA cC bA bC slA slC drA drC ha heA heC hin) (bh [4,5,6,7,8,9,10,11]) U fun AK z=>?_
 obtain ⟨L,T,M,AT,S,N,V,O,W,P,X,R,Y,G⟩:=AK
 try dsimp only
 obtain ⟨⟨s,u⟩,D⟩:=z
 try dsimp only at s u D
 have AP:=D.1
 refine AL U CM fun AS=>fW U sR U<|RK j<|ak fun _ l=>?_
 obtain ⟨B,F⟩:=aM G ((h).toNat) (by have:=D.1; omega)
 have y:(List.zipWith cD r.aq G)[(h).toNat]? =some (cD ht B):=dB A F
 have AJ:=D.2 _ _ _ A F
 refine Qt 8 A F U U ?_
 try dsimp only
 refine dh cu 9 kr<|lJ 3 [] (mc 3 U I) U<|dS (IA ((h).toNat) U (al (n:=r.aq.length) 10 U (fw D.1)) pk dc om om)<|dS (gh ((h).toNat) 0 (vS B.1.1 ht.length B.1.2) U Ps (al (n:=r.aq.length) 10 U (fw D.1)) y U dc U)<|dP 2 [] (mc 14 U I) ?_
 refine dS (SX (bj (xs:=[(1,.const (vB true)),(2,.tmp 59)]) (cs:=(bw.cells (bw.mk false true t (eK.mk 0 0 (aN.mk none 0 0))))) U U (bk Qf U)) U U) ?_
 obtain ⟨K,AU⟩:=aM B.2 ((i).toNat) om
 have v:(List.zipWith aw.cells ht B.2)[(i).toNat]? =some (aw.cells d K):=dB hd AU
 refine dS (IA ((i).toNat) U (al (n:=ht.length) 0 U (ql AJ)) sE dc om om)<|cK<|eG (k:=(i).toNat) (o:=0) (vs:=(bw.cells (bw.mk false true t (eK.mk 0 0 (aN.mk none 0 0))))) (es':=(List.zipWith aw.cells (ht.set (i).toNat (ks t)) (B.2.set (i).toNat (none,0)))) (C':=[(own B.1.1 B.1.2 46 7 (List.zipWith aw.cells (ht.set (i).toNat (ks t)) (B.2.set (i).toNat (none,0)))),_,_,_,_,_,_,_,_,_,_,_,_,_,_,_,_,_,_,_,_,_,_,_,_,_]) 0 U U U Pp U U U U v U dc (by exact qA (c:=aw.cells) (m:=ks t) (a:=(none,0))) U<|RK l<|ak fun _ p=>P1 (d':=ks t) 1 hd AU U U U ?_
 refine NM (h':=(ht.set (i).toNat (ks t))) (a':=(B.1,(B.2.set (i).toNat (none,0)))) 2 0 1 om (by have:=D.1; omega) U U ?_
 rw [← vV A,show List.zipWith cD r.aq G=List.zipWith cD (dF r.aq h i t) (G.set (h).toNat (B.1,(B.2.set (i).toNat (none,0)))) from by rw [vV A]; exact (GU A F (by rw [List.length_set])).symm]
 replace D:=PW (i:=i) (t:=t) D A F
 refine an<|fF 1 [] (mc 1 U I) U<|T_ U sR U<|rP 1 [] I ?_
 refine RK p<|ar ?_
 refine LX hQ (true,0,L,T,M,AT,S,N,V,O,W,P,X,R,Y,(G.set (h).toNat (B.1,(B.2.set (i).toNat (none,0))))) [2,3,4,5,6,7,8,0] [0] (mc 11 U I) U (by first|rfl|(show List.all _ _=true; simp only [cond_true,fI,List.all_nil,gn,kl,Bool.and_true]; rfl)) U ?_ ?_
 ·first|rfl|(simp only [cond_true,iW]; rfl)
 ·exact ⟨fun _=>⟨Oi ⟨om,Z⟩ A hd H,⟨s,u⟩,D⟩,Nh⟩
end
section
open Go.RowKit
theorem Lv (h i:Int) (t:aa) (r:cd) (kA:OA) (kC:Nat) (az:List RA) (cA:OA) (cC:Nat) (bA:OA) (bC:Nat) (slA:OA) (slC:Nat) (drA:OA) (drC:Nat) (ha:List cS) (heA:OA) (heC:Nat) (hin:fy r az ha):
 lq Tryz.prog 21 [(vA (bu.cells (ou r kA kC cA cC bA bC slA slC drA drC heA heC))),(vI h),(vI i),(vA (aa.cells t))] [(rd dD 3 2 dg),(rd kA r.ah.aJ.length 9 (r.ah.aJ.map ao.cells)),(rd cA r.ah.ai.length 2 (List.zipWith au.cells r.ah.ai az)),(fc (aS au.gW r.ah.ai az)),(rd bA r.ah.ag.length 4 (r.ah.ag.map bG.cells)),(rd slA r.aI.length 1 (r.aI.map iC)),(rd drA r.bD.length 1 (r.bD.map iC)),(rd heA r.aq.length 1 (List.zipWith cD r.aq ha)),(fc (aS im r.aq ha))] (fun (x:Bool×Int×(OA)×Nat×(OA)×Nat×(List RA)×(OA)×Nat×(OA)×Nat×(OA)×Nat×(OA)×Nat×(List cS))=>bif x.1 then (vT [(vA (bu.cells (bu.mk (bJ.mk (aZ.mk (aN.mk x.2.2.1 r.ah.aJ.length x.2.2.2.1)) r.ah.dG (aN.mk x.2.2.2.2.1 r.ah.ai.length x.2.2.2.2.2.1) (aN.mk x.2.2.2.2.2.2.2.1 r.ah.ag.length x.2.2.2.2.2.2.2.2.1) r.ah.bI r.ah.cy r.ah.bL) (aN.mk x.2.2.2.2.2.2.2.2.2.1 r.aI.length x.2.2.2.2.2.2.2.2.2.2.1) (aN.mk x.2.2.2.2.2.2.2.2.2.2.2.1 r.bD.length x.2.2.2.2.2.2.2.2.2.2.2.2.1) r.dZ (aN.mk x.2.2.2.2.2.2.2.2.2.2.2.2.2.1 ((dF r.aq h i t).length) x.2.2.2.2.2.2.2.2.2.2.2.2.2.2.1)))),(vI 0)]) else (vT [(vA (bu.cells (bu.mk (bJ.mk (aZ.mk (aN.mk none 0 0)) 0 (aN.mk none 0 0) (aN.mk none 0 0) 0 0 0) (aN.mk none 0 0) (aN.mk none 0 0) 0 (aN.mk none 0 0)))),(vI x.2.1)])) (fun (x:Bool×Int×(OA)×Nat×(OA)×Nat×(List RA)×(OA)×Nat×(OA)×Nat×(OA)×Nat×(OA)×Nat×(List cS))=>(x.1=true→((dK r h i t)=0∧(x.2.2.2.2.2.2.1.length=r.ah.ai.length∧rr r.ah.ai x.2.2.2.2.2.2.1)∧sH (dF r.aq h i t) x.2.2.2.2.2.2.2.2.2.2.2.2.2.2.2))∧(x.1=false→(x.2.1=(dK r h i t)∧ ¬ (dK r h i t)=0))) (fun (x:Bool×Int×(OA)×Nat×(OA)×Nat×(List RA)×(OA)×Nat×(OA)×Nat×(OA)×Nat×(OA)×Nat×(List cS))=>bif x.1 then [(own x.2.2.1 x.2.2.2.1 122 9 (r.ah.aJ.map ao.cells)),(own x.2.2.2.2.1 x.2.2.2.2.2.1 127 2 (List.zipWith au.cells r.ah.ai x.2.2.2.2.2.2.1)),(bp (aS au.owns r.ah.ai x.2.2.2.2.2.2.1)),(own x.2.2.2.2.2.2.2.1 x.2.2.2.2.2.2.2.2.1 129 4 (r.ah.ag.map bG.cells)),(own x.2.2.2.2.2.2.2.2.2.1 x.2.2.2.2.2.2.2.2.2.2.1 3 1 (r.aI.map iC)),(own x.2.2.2.2.2.2.2.2.2.2.2.1 x.2.2.2.2.2.2.2.2.2.2.2.2.1 3 1 (r.bD.map iC)),(own x.2.2.2.2.2.2.2.2.2.2.2.2.2.1 x.2.2.2.2.2.2.2.2.2.2.2.2.2.2.1 47 1 (List.zipWith cD (dF r.aq h i t) x.2.2.2.2.2.2.2.2.2.2.2.2.2.2.2)),(bp (aS gR (dF r.aq h i t) x.2.2.2.2.2.2.2.2.2.2.2.2.2.2.2))] else []):=by
 have u:=hin.line
 have AD:=hin.iP
 have AE:=hin.has
 have AA:=hin.iR
 have z:=hin.draw
 have e:=dJ (r:=r)
 refine dv kr Tryz.func21 U U fun w0 Q hQ hN=>?_
 try dsimp only
 refine WS fun _ s=>fU U fun b2=>fU U fun b3=>AL U CM fun b4=>bg 1 U<|RK s<|WS fun _ Y=>rP 1 [] (mc 2 U I) ?_
 refine cX (n_ r kA kC az cA cC bA bC slA slC drA drC ha heA heC hin) (bh [3,4,5,6,7,8,9,10,11]) U fun y6 g=>?_
 obtain ⟨k,AC,q,S,m,o,p⟩:=y6
 cases k
 ·obtain ⟨M,he⟩:=g.2 rfl
  try dsimp only at M he
  subst M
  try dsimp only [cond_true,cond_false,List.cons_append,List.nil_append]
  refine bg 5 U<|RK Y<|ak fun _ y=>WS fun _ AB=>rP 2 [] I ?_
  refine RK AB<|bS U (bq fun T=>?_) (br fun T=>?_)
  ·exact absurd T he
  refine WS fun _ V=>rS (SX (bj (xs:=[]) (cs:=(bu.cells (bu.mk (bJ.mk (aZ.mk (aN.mk none 0 0)) 0 (aN.mk none 0 0) (aN.mk none 0 0) 0 0 0) (aN.mk none 0 0) (aN.mk none 0 0) 0 (aN.mk none 0 0)))) U U (bk HH U)) U U)<|bg 1 U<|fW U sR U<|rP 1 [] I ?_
  refine RK V<|ar ?_
  refine LX hQ (false,(bY r),none,0,none,0,[],none,0,none,0,none,0,none,0,[]) [] [0] (mc 0 U I) U (by first|rfl|(show List.all _ _=true; simp only [cond_true,fI,List.all_nil,gn,kl,Bool.and_true]; rfl)) U ?_ ?_
  ·first|rfl|(simp only [cond_true,iW]; rfl)
  ·refine ⟨AN,fun _=>?_⟩; first|exact Jj (rT (h:=h) (i:=i) (t:=t) he) he|exact Jj (oz (h:=h) (i:=i) (t:=t) b) he
 obtain ⟨he,f⟩:=g.1 rfl
 try dsimp only [cond_true,cond_false,List.cons_append,List.nil_append]
 have b:=he
 try dsimp only at f
 have d:=(iF he).2
 refine bg 5 U<|RK Y<|ak fun _ W=>WS fun _ X=>bg 1 U<|rS (SX (cb (r:= .bool false) U U U lj) U U)<|RK X<|aX U<|WK W<|WS fun _ N=>rP 4 [] (mc 5 U I) ?_
 refine cX (wj r kA kC az cA cC bA bC slA slC drA drC ha heA heC p m o (Value.map (some S)) q h i t hin (by exact d)) (lz [8,9,10,11,12,13,14,15]<|ay (al (n:=(cQ r).length) 1 U (mI (by rw [e]; exact f)))<|ay (dR 2 U sr)<|fK 0 U U<|aK) U fun v P=>?_
 obtain ⟨l,w,A,G,B,H,R,C,AF,D,J,E,K,F,L,j⟩:=v
 cases l
 ·obtain ⟨M,he⟩:=P.2 rfl
  try dsimp only at M he
  subst M
  try dsimp only [cond_true,cond_false,List.cons_append,List.nil_append]
  refine bg 2 U<|O5 U sR U<|rP 1 [] I ?_
  refine RK N<|ar ?_
  refine LX hQ (false,(qd r h i t),none,0,none,0,[],none,0,none,0,none,0,none,0,[]) [] [0] (mc 4 U I) U (by first|rfl|(show List.all _ _=true; simp only [cond_true,fI,List.all_nil,gn,kl,Bool.and_true]; rfl)) U ?_ ?_
  ·first|rfl|(simp only [cond_true,iW]; rfl)
  ·refine ⟨AN,fun _=>?_⟩; first|exact Jj (rT (h:=h) (i:=i) (t:=t) he) he|exact Jj (oz (h:=h) (i:=i) (t:=t) b) he
 obtain ⟨O,⟨Z,a⟩,c⟩:=P.1 rfl
 try dsimp only [cond_true,cond_false,List.cons_append,List.nil_append]
 try dsimp only at O Z a c
 refine bg 2 U<|jl (vs:=(bu.cells (bu.mk (bJ.mk (aZ.mk (aN.mk A r.ah.aJ.length G)) r.ah.dG (aN.mk B r.ah.ai.length H) (aN.mk C r.ah.ag.length AF) r.ah.bI r.ah.cy r.ah.bL) (aN.mk D r.aI.length J) (aN.mk E r.bD.length K) r.dZ (aN.mk F ((dF r.aq h i t).length) L)))) (cs':=(bu.cells (bu.mk (bJ.mk (aZ.mk (aN.mk A r.ah.aJ.length G)) r.ah.dG (aN.mk B r.ah.ai.length H) (aN.mk C r.ah.ag.length AF) r.ah.bI r.ah.cy r.ah.bL) (aN.mk D r.aI.length J) (aN.mk E r.bD.length K) r.dZ (aN.mk F ((dF r.aq h i t).length) L)))) (C':=[_,_,_,_,_,_,_,_,_,_,_,_,(b_ b4 32 (bu.cells (bu.mk (bJ.mk (aZ.mk (aN.mk A r.ah.aJ.length G)) r.ah.dG (aN.mk B r.ah.ai.length H) (aN.mk C r.ah.ag.length AF) r.ah.bI r.ah.cy r.ah.bL) (aN.mk D r.aI.length J) (aN.mk E r.bD.length K) r.dZ (aN.mk F ((dF r.aq h i t).length) L)))),_,_,_,_,_,_,_,_,_,_,_]) 12 U U U sR U U U U U U U<|rP 1 [] I ?_
 refine RK N<|ar ?_
 refine LX hQ (true,0,A,G,B,H,R,C,AF,D,J,E,K,F,L,j) [0,1,2,3,4,5,6,7] [0] (mc 12 U I) U (by first|rfl|(show List.all _ _=true; simp only [cond_true,fI,List.all_nil,gn,kl,Bool.and_true]; rfl)) U ?_ ?_
 ·first|rfl|(simp only [cond_true,iW]; rfl)
 ·exact ⟨fun _=>⟨(oz he).trans O,⟨Z,a⟩,c⟩,Nh⟩
end
section
open Go.RowKit
theorem Mw (la:List Int) (laA:OA) (laC:Nat) (lb:List Int) (lbA:OA) (lbC:Nat) (h1:la.length≤1000000) (h2:lb.length≤1000000):
 d_ Tryz.prog 46 [(vS laA la.length laC),(vS lbA lb.length lbC)] [(rd laA la.length 1 (la.map iC)),(rd lbA lb.length 1 (lb.map iC))] (vB (decide (la=lb))):=by
 refine bE kr Tryz.func46 U U fun W Q hQ hN=>?_
 try dsimp only
 refine WS fun _ K=>bg 1 U<|RK K<|ak fun _ L=>WS fun _ M=>rP 5 [] I ?_
 refine RK M<|cE U (br fun hl=>?_) (bq fun hl=>?_)
 ·refine WS fun _ N=>rP 1 [] I ?_
  refine RK N<|ar<|Q1 hQ U U U ?_
  first|exact cB (cr (mY hx hy h)).symm|exact cB (fP (mX om A om)).symm|exact cB (cr (fun e=>by subst e; omega)).symm
 refine WK L<|ak fun _ O=>WS fun _ P=>rP 3 [] I ?_
 refine RK P<|ax ?_
 have B:(0≤la.length)∧(la.take 0=lb.take 0):=by simp
 refine bR (ι:={z:Nat // (z≤la.length)∧(la.take z=lb.take z)}) [0,1,12] [0,1] U U (fun z=>[(13,(vI (z.1:Int)))]) (fun z=>[]) (fun _=>rfl) (fun _=>rfl) (fun z=>la.length-z.1) ⟨0,B⟩ (aU U) (aL [0,1]) ?_
 clear B
 rintro ⟨i,⟨T,A⟩⟩ J7 J
 try dsimp only
 refine WS fun _ R=>rP 1 [] I ?_
 refine RK R<|ak fun _ S=>bS U (aP fun AB=>?_) (aQ fun AB=>?_)
 ·refine bB<|ae<|ae<|aA<|KK O<|WS fun _ G=>rP 1 [] I ?_
  refine RK G<|ar<|Q1 hQ U U U ?_
  first|exact cB (cr (mY hx hy h)).symm|exact cB (fP (mX om A om)).symm|exact cB (cr (fun e=>by subst e; omega)).symm
 refine WK S<|ak fun _ C=>ax<|WS fun _ D=>bg 2 U<|RK D<|ak fun _ E=>dh cu 9 kr<|dP 2 [] I ?_
 obtain ⟨x,hx⟩:=aM la i om
 have AA:=bQ iC hx
 refine dS (IA i U (aB 0 U) cJ dc om om)<|dS (gh i 0 (vI x) U cm (aB 0 U) AA U dc U)<|dP 2 [] I ?_
 obtain ⟨y,hy⟩:=aM lb i om
 have V:=bQ iC hy
 refine dS (IA i U (aB 1 U) cJ dc om om)<|dS (gh i 0 (vI y) U cm (aB 1 U) V U dc U)<|dP 1 [] I ?_
 refine cK<|RK E<|cE U (br fun h=>?_) (bq fun h=>?_)
 ·refine WS fun _ F=>rP 1 [] I ?_
  refine RK F<|ar<|Q1 hQ U U U ?_
  first|exact cB (cr (mY hx hy h)).symm|exact cB (fP (mX om A om)).symm|exact cB (cr (fun e=>by subst e; omega)).symm
 refine cj<|aH<|KK C<|an<|rP 2 [] I ?_
 refine aF ?_
 have H:(vI (((i+1):Nat):Int))=(vI ((i:Int)+1)):=by exact cI om
 refine aT (J ⟨(i+1),⟨om,ui A hx hy h⟩⟩ _ _ _ U os (cP 3<|bo U H<|dy.nil _) (aL [0,1]))
theorem Ht (h i:Int) (t:aa) (r:cd) (kA:OA) (kC:Nat) (az:List RA) (cA:OA) (cC:Nat) (bA:OA) (bC:Nat) (slA:OA) (slC:Nat) (drA:OA) (drC:Nat) (ha:List cS) (heA:OA) (heC:Nat) (hin:fy r az ha):
 lq Tryz.prog 23 [(vA (bu.cells (ou r kA kC cA cC bA bC slA slC drA drC heA heC))),(vI h),(vI i),(vA (aa.cells t))] [(rd dD 3 2 dg),(rd kA r.ah.aJ.length 9 (r.ah.aJ.map ao.cells)),(rd cA r.ah.ai.length 2 (List.zipWith au.cells r.ah.ai az)),(fc (aS au.gW r.ah.ai az)),(rd bA r.ah.ag.length 4 (r.ah.ag.map bG.cells)),(rd slA r.aI.length 1 (r.aI.map iC)),(rd drA r.bD.length 1 (r.bD.map iC)),(rd heA r.aq.length 1 (List.zipWith cD r.aq ha)),(fc (aS im r.aq ha))] (fun (x:(OA)×Nat)=>(vT [(vS x.1 ((cx r h i t).length) x.2),(vI (dK r h i t))])) (fun (x:(OA)×Nat)=>True) (fun (x:(OA)×Nat)=>[(own x.1 x.2 3 1 ((cx r h i t).map iC))]):=by
 have At:=hin.line
 have BH:=hin.iP
 have BI:=hin.has
 have A6:=hin.iR
 have A4:=hin.draw
 have Ab:=dJ (r:=r)
 refine dv kr Tryz.func23 U U fun w0 Q hQ hN=>?_
 try dsimp only
 refine WS fun _ As=>fU U fun b2=>fU U fun b3=>bg 2 U<|RK As<|WS fun _ AE=>rP 1 [] (mc 1 U I) ?_
 refine cX (n_ r kA kC az cA cC bA bC slA slC drA drC ha heA heC hin) (bh [2,3,4,5,6,7,8,9,10]) U fun y5 Ac=>?_
 obtain ⟨Ae,BF,v,G,f,g,zU⟩:=y5
 cases Ae
 ·obtain ⟨B,he⟩:=Ac.2 rfl
  try dsimp only at B he
  subst B
  try dsimp only [cond_true,cond_false,List.cons_append,List.nil_append]
  refine bg 5 U<|RK AE<|ak fun _ A2=>WS fun _ AA=>rP 2 [] I ?_
  refine RK AA<|bS U (bq fun w=>?_) (br fun w=>?_)
  ·exact absurd w he
  refine WS fun _ AB=>rP 1 [] I ?_
  have A:dK r h i t=bY r:=rT he
  have C:cx r h i t=[]:=xO (by rw [A]; exact he)
  refine dM 3 1 ?_
  rw [show (own none 0 3 1 ([]:List (List Value)))=own none 0 3 1 ((cx r h i t).map iC) from by rw [C]; rfl]
  refine rP 2 [] I ?_
  refine RK AB<|ar ?_
  refine LX hQ (none,0) [0] [] I U U U ?_ ?_
  ·first|rfl|(rw [A,C]; rfl)|(rw [A]; rfl)
  ·trivial
 obtain ⟨he,m⟩:=Ac.1 rfl
 try dsimp only [cond_true,cond_false,List.cons_append,List.nil_append]
 have BK:=he
 try dsimp only at m
 have AY:=(iF he).2
 refine bg 5 U<|RK AE<|ak fun _ AC=>WS fun _ AD=>bg 1 U<|rS (SX (cb (r:= .bool false) U U U lj) U U)<|RK AD<|aX U<|WK AC<|WS fun _ Z=>rP 4 [] (mc 4 U I) ?_
 refine cX (wj r kA kC az cA cC bA bC slA slC drA drC ha heA heC zU f g (Value.map (some G)) v h i t hin (by exact AY)) (lz [7,8,9,10,11,12,13,14]<|ay (al (n:=(cQ r).length) 1 U (mI (by rw [Ab]; exact m)))<|ay (dR 2 U sr)<|fK 0 U U<|aK) U fun Av d=>?_
 obtain ⟨Af,A0,L,S,M,T,o,N,BJ,O,V,P,W,R,X,Ad⟩:=Av
 cases Af
 ·obtain ⟨B,he⟩:=d.2 rfl
  try dsimp only at B he
  subst B
  try dsimp only [cond_true,cond_false,List.cons_append,List.nil_append]
  refine bg 3 U<|AL U CM fun BB=>fW U sR U<|bg 1 U<|RK Z<|ak fun _ A3=>WS fun _ AF=>rP 2 [] I ?_
  refine RK AF<|bS U (bq fun y=>?_) (br fun y=>?_)
  ·exact absurd y he
  refine WS fun _ AG=>rP 1 [] I ?_
  have A:dK r h i t=qd r h i t:=oz BK
  have C:cx r h i t=[]:=xO (by rw [A]; exact he)
  refine dM 3 1 ?_
  rw [show (own none 0 3 1 ([]:List (List Value)))=own none 0 3 1 ((cx r h i t).map iC) from by rw [C]; rfl]
  refine rP 2 [] I ?_
  refine RK AG<|ar ?_
  refine LX hQ (none,0) [0] [] I U U U ?_ ?_
  ·first|rfl|(rw [A,C]; rfl)|(rw [A]; rfl)
  ·trivial
 obtain ⟨E,⟨j,AV⟩,J⟩:=d.1 rfl
 try dsimp only [cond_true,cond_false,List.cons_append,List.nil_append]
 try dsimp only at E j AV J
 have l:dK r h i t=0:=(oz BK).trans E
 have AW:=hin.rep j AV J
 refine bg 3 U<|AL U CM fun BC=>fW U sR U<|bg 1 U<|RK Z<|ak fun _ AH=>WS fun _ AI=>bg 1 U<|rS (SX (cb (r:= .bool false) U U U lj) U U)<|RK AI<|aX U<|WK AH<|WS fun _ AJ=>rP 1 [] (mc 0 U I) ?_
 refine cX (n_ (ju r h i t) L S o M T N BJ O V P W Ad R X (by exact AW)) (fK 15 U U<|ay (al (n:=r.ah.aJ.length) 1 U sm)<|ay (al (n:=r.ah.ai.length) 2 U (gZ j))<|ay (dR 3 U iY)<|ay (al (n:=r.ah.ag.length) 4 U sm)<|ay (al (n:=r.aI.length) 5 U sm)<|ay (al (n:=r.bD.length) 6 U sm)<|ay (al (n:=(dF r.aq h i t).length) 7 U (fw J.1))<|ay (hE 8 U J)<|aK) U fun Aw e=>?_
 obtain ⟨Ah,A1,s,p,Ai,Aj,Um⟩:=Aw
 cases Ah
 ·obtain ⟨B,he⟩:=e.2 rfl
  try dsimp only at B he
  subst B
  try dsimp only [cond_true,cond_false,List.cons_append,List.nil_append]
  exact absurd (yA l) he
 obtain ⟨he,m⟩:=e.1 rfl
 try dsimp only [cond_true,cond_false,List.cons_append,List.nil_append]
 have AZ:=nm BK
 have F:=nx BK
 have Aa:=nm he
 have A5:=nx he
 refine bg 5 U<|RK AJ<|WS fun _ AK=>bg 1 U<|RK AK<|ak fun _ AM=>WS fun _ AN=>bg 1 U<|rS (SX (bO U U) U U)<|rP 2 [] (mc 13 U I) ?_
 refine cX (F5 G) (aK) U fun An A7=>?_
 try dsimp only
 refine cX (yG (aG r) G An sd) (bh [17,0]) U fun Ax A8=>?_
 obtain ⟨BA,BE⟩:=Ax
 try dsimp only
 rw [show (aG r).length=(dk ((aG r).map (·.1))).length from by rw [gp,List.length_map]]
 refine rP 1 [] I ?_
 have AX:(dk ((aG r).map (·.1))).length≤5:=by rw [gp,List.length_map]; exact F
 refine rP 1 [] I ?_
 refine RK AN<|ax<|fY 3 1 ?_
 have D:(0≤(dk ((aG r).map (·.1))).length):=by exact Nat.zero_le _
 refine bR (ι:={z:Nat×(OA)×Nat // (z.1≤(dk ((aG r).map (·.1))).length)}) [10,13,47,48] [1,3,4,5,6,8,9,10,11,12,13,14,15,16,17,18,19,22,23,24,25,26,27,28,29,30] U U (fun z=>[(15,(vS z.1.2.1 ((((dk ((aG r).map (·.1))).take z.1.1).filter (fun u=> !decide (dI (aG r) u (aD (aG r) u)=dI (aG (ju r h i t)) u (aD (aG (ju r h i t)) u)))).length) z.1.2.2)),(49,(vI (z.1.1:Int)))]) (fun z=>[(own z.1.2.1 z.1.2.2 3 1 ((((dk ((aG r).map (·.1))).take z.1.1).filter (fun u=> !decide (dI (aG r) u (aD (aG r) u)=dI (aG (ju r h i t)) u (aD (aG (ju r h i t)) u)))).map iC))]) (fun _=>rfl) (fun _=>rfl) (fun z=>(dk ((aG r).map (·.1))).length-z.1.1) ⟨(0,none,0),D⟩ (aU U) (aL [1,3,4,5,6,8,9,10,11,12,13,14,15,16,17,18,19,22,23,24,25,26,27,28,29,30,0]) ?_
 clear D
 rintro ⟨⟨k,a,c⟩,K⟩ J65 Y
 try dsimp only at K
 try dsimp only
 have BG:((((dk ((aG r).map (·.1))).take k).filter (fun u=> !decide (dI (aG r) u (aD (aG r) u)=dI (aG (ju r h i t)) u (aD (aG (ju r h i t)) u))))).length≤12:=Nat.le_trans (List.length_filter_le _ _) (by rw [List.length_take]; omega)
 refine WS fun _ AO=>rP 1 [] I ?_
 refine RK AO<|ak fun _ AP=>bS U (aP fun Ar=>?_) (aQ fun Ar=>?_)
 ·refine bB<|ae<|ae<|aA<|KK AM<|WS fun _ AS=>rP 1 [] I ?_
  have A:=l
  have C:cx r h i t=(((dk ((aG r).map (·.1))).take k).filter (fun u=> !decide (dI (aG r) u (aD (aG r) u)=dI (aG (ju r h i t)) u (aD (aG (ju r h i t)) u)))):=by rw [DM l,List.take_of_length_le om]
  rw [← C]
  refine rP 2 [] I ?_
  refine RK AS<|ar ?_
  refine LX hQ (a,c) [26] [] I U U U ?_ ?_
  ·first|rfl|(rw [A,C]; rfl)|(rw [A]; rfl)
  ·trivial
 refine WK AP<|ak fun _ b=>ax<|WS fun _ AQ=>?_
 obtain ⟨x,hx⟩:=aM (dk ((aG r).map (·.1))) k om
 have Au:=bQ iC hx
 refine rS (IA k U (al (n:=(dk ((aG r).map (·.1))).length) 0 U sm) cJ dc om om)<|rS (gh k 0 (vI x) U cm (al (n:=(dk ((aG r).map (·.1))).length) 0 U sm) Au U dc U)<|bg 1 U<|RK AQ<|WS fun _ AR=>rP 2 [] I ?_
 refine cX (Ag r kA kC cA cC bA bC slA slC drA drC heA heC f ((cQ r).length) g G v (aG r) x (by exact AZ) (by exact Cq (aV hx)) om) (bh [13,16]) U fun Ay A9=>?_
 obtain ⟨Ak,Ao⟩:=Ay
 try dsimp only
 refine rP 2 [] I ?_
 refine cX (Ag (cd.mk r.ah r.aI r.bD r.dZ (dF r.aq h i t)) L S M T N BJ O V P W R X Ai ((cQ (ju r h i t)).length) Aj p s (aG (ju r h i t)) x (by exact Aa) (by exact fun q=>by have:=H8 E x; rw [q] at this; exact Cq (aV hx) (Option.not_isSome_iff_eq_none.1 (by rw [← this]; decide))) om) (bh [2,5]) U fun Az A_=>?_
 obtain ⟨Al,Ap⟩:=Az
 try dsimp only
 refine rS (CL (Mw (dI (aG r) x (aD (aG r) x)) Ak Ao (dI (aG (ju r h i t)) x (aD (aG (ju r h i t)) x)) Al Ap (by exact Nat.le_trans xB om) (by exact Nat.le_trans xB om)) (ay (al (n:=(dI (aG r) x (aD (aG r) x)).length) 1 U sm)<|ay (al (n:=(dI (aG (ju r h i t)) x (aD (aG (ju r h i t)) x)).length) 0 U sm)<|aK) U)<|rP 1 [] I ?_
 refine RK AR<|bS U (bq fun H=>?_) (br fun H=>?_)
 ·refine cj<|aH<|KK b<|an<|rP 1 [] I ?_
  have AX:(dk ((aG r).map (·.1))).length≤5:=by rw [gp,List.length_map]; exact F
  refine rP 1 [] I ?_
  refine aF ?_
  rw [show (((dk ((aG r).map (·.1))).take k).filter (fun u=> !decide (dI (aG r) u (aD (aG r) u)=dI (aG (ju r h i t)) u (aD (aG (ju r h i t)) u))))=(((dk ((aG r).map (·.1))).take (k+1)).filter (fun u=> !decide (dI (aG r) u (aD (aG r) u)=dI (aG (ju r h i t)) u (aD (aG (ju r h i t)) u)))) from (EU hx (by simpa using H)).symm]
  have AU:(vI (((k+1):Nat):Int))=(vI ((k:Int)+1)):=by exact cI om
  refine aT (Y ⟨((k+1),a,c),(by first|omega|(simp only []; omega))⟩ _ _ _ U (by first|omega|(dsimp only; omega)) (cP 5<|bo U AU<|dy.nil _) (aL [2,3,4,5,6,7,8,9,10,11,12,13,14,15,16,17,18,19,20,21,22,23,24,25,26,27,28]))
 refine an<|rP 2 [] I ?_
 refine cZ (xs:=[.tmp 62]) (cs:=[(vI x)]) U cJ jd U U U U (by simp [Value.cells]) U U fun BD=>?_
 refine de (es2:=(List.map iC (((dk ((aG r).map (·.1))).take (k+1)).filter (fun u=> !decide (dI (aG r) u (aD (aG r) u)=dI (aG (ju r h i t)) u (aD (aG (ju r h i t)) u)))))) (m':=(((dk ((aG r).map (·.1))).take (k+1)).filter (fun u=> !decide (dI (aG r) u (aD (aG r) u)=dI (aG (ju r h i t)) u (aD (aG (ju r h i t)) u)))).length) 29 U U U pT U U sm (a_ (es:=List.map iC [x]) 0 U U (by simp [bK]) U) (j6 _) os (by simp only [maxLen]; first|omega|(simp; omega)) (by rw [wO hx (by simpa using H)]; simp) (by rw [wO hx (by simpa using H)]; simp) U fun Am Aq=>?_
 try dsimp only
 refine bg 1 U<|aF<|aH<|KK b<|an<|rP 1 [] I ?_
 have AX:(dk ((aG r).map (·.1))).length≤5:=by rw [gp,List.length_map]; exact F
 refine rP 1 [] I ?_
 refine aF ?_
 have AT:(vI (((k+1):Nat):Int))=(vI ((k:Int)+1)):=by exact cI om
 refine aT (Y ⟨((k+1),Am,Aq),(by first|omega|(simp only []; omega))⟩ _ _ _ U (by first|omega|(dsimp only; omega)) (cP 5<|bo U AT<|dy.nil _) (aL [3,4,5,6,7,8,9,10,11,12,13,14,15,16,17,18,19,20,21,22,23,24,25,26,27,28,29]))
end
section
open Go.RowKit
theorem lT (x y:Int):
 d_ Tryz.prog 22 [(vI x),(vI y)] [] (vA (aa.cells (aa.mk x y))):=by
 refine bE kr Tryz.func22 U U fun D Q hQ hN=>?_
 try dsimp only
 refine WS fun _ A=>AL U di fun C=>RK A<|WS fun _ B=>rP 2 [] I ?_
 refine rS (SX (bj (xs:=[(0,.tmp 5),(1,.tmp 6)]) (cs:=(aa.cells (aa.mk x y))) U U (bk gv U)) U U)<|fW U cv U<|RK B<|ar ?_
 exact H3 hQ [0] (mc 0 U I) U U
theorem Ai (x:Int):
 d_ Tryz.prog 60 [(vI x)] [] (vA (cM.cells (cM.mk 0 (aa.mk x x)))):=by
 refine bE kr Tryz.func60 U U fun D Q hQ hN=>?_
 try dsimp only
 refine WS fun _ A=>AL U CD fun C=>RK A<|WS fun _ B=>rP 2 [] I ?_
 refine rS (CL (lT x x) (aK) U)<|rS (SX (bj (xs:=[(1,.tmp 5)]) (cs:=(cM.cells (cM.mk 0 (aa.mk x x)))) U U (bk Rp U)) U U)<|fW U Kw U<|RK B<|ar ?_
 exact H3 hQ [0] (mc 0 U I) U U
theorem pY (x y:Int):
 d_ Tryz.prog 39 [(vI x),(vI y)] [] (vA (bw.cells (bw.mk false true (aa.mk x y) (eK.mk 0 0 (aN.mk none 0 0))))):=by
 refine bE kr Tryz.func39 U U fun D Q hQ hN=>?_
 try dsimp only
 refine WS fun _ A=>AL U Oo fun C=>RK A<|WS fun _ B=>rP 2 [] I ?_
 refine rS (CL (lT x y) (aK) U)<|rS (SX (bj (xs:=[(1,.const (vB true)),(2,.tmp 7)]) (cs:=(bw.cells (bw.mk false true (aa.mk x y) (eK.mk 0 0 (aN.mk none 0 0))))) U U (bk Qf U)) U U)<|fW U Pp U<|RK B<|ar ?_
 exact H3 hQ [0] (mc 0 U I) U U
theorem NU:
 lq Tryz.prog 37 [] [] (fun (x:(OA)×Nat×(OA)×Nat×(List RA)×(OA)×Nat)=>(vA (bJ.cells (bJ.mk (aZ.mk (aN.mk x.1 ab.ah.aJ.length x.2.1)) ab.ah.dG (aN.mk x.2.2.1 ab.ah.ai.length x.2.2.2.1) (aN.mk x.2.2.2.2.2.1 ab.ah.ag.length x.2.2.2.2.2.2) ab.ah.bI ab.ah.cy ab.ah.bL)))) (fun (x:(OA)×Nat×(OA)×Nat×(List RA)×(OA)×Nat)=>x.2.2.2.2.1.length=ab.ah.ai.length∧eE ab.ah x.2.2.2.2.1) (fun (x:(OA)×Nat×(OA)×Nat×(List RA)×(OA)×Nat)=>[(own x.1 x.2.1 122 9 (ab.ah.aJ.map ao.cells)),(own x.2.2.1 x.2.2.2.1 127 2 (List.zipWith au.cells ab.ah.ai x.2.2.2.2.1)),(bp (aS au.owns ab.ah.ai x.2.2.2.2.1)),(own x.2.2.2.2.2.1 x.2.2.2.2.2.2 129 4 (ab.ah.ag.map bG.cells))]):=by
 refine dv kr Tryz.func37 U U fun AA Q hQ hN=>?_
 try dsimp only
 refine WS fun _ E=>AL U U7 fun H=>RK E<|WS fun _ F=>bg 1 U<|RK F<|WS fun _ G=>rS (CL (lT 10000 10200) (aK) U)<|rS (CL (lT 0 100) (aK) U)<|rS (SX (bj (xs:=[(0,.const (vI 1)),(1,.tmp 2),(2,.tmp 3)]) (cs:=(ao.cells (ao.mk 1 (aa.mk 10000 10200) (aa.mk 0 100) (aa.mk 0 0) 0 0))) U U (bk RW U)) U U)<|cZ (xs:=[.tmp 4]) (cs:=(ao.cells (ao.mk 1 (aa.mk 10000 10200) (aa.mk 0 100) (aa.mk 0 0) 0 0))) U yg Fx U U U U (by simp [Value.cells,ao.aW]) U U fun B=>rS (SX (bj (xs:=[(0,.tmp 5)]) (cs:=(aZ.cells (aZ.mk (aN.mk (some ⟨B,0,none⟩) 1 1)))) U U (bk US U)) U U)<|rS (CL (lT 0 2) (aK) U)<|rS (SX (bj (xs:=[(0,.const (vI 0)),(1,.tmp 7)]) (cs:=(cH.cells (cH.mk 0 (aa.mk 0 2)))) U U (bk OD U)) U U)<|rS (CL (lT 5 6) (aK) U)<|rS (SX (bj (xs:=[(0,.const (vI 100000)),(1,.tmp 9)]) (cs:=(cH.cells (cH.mk 100000 (aa.mk 5 6)))) U U (bk OD U)) U U)<|cZ (xs:=[.tmp 8,.tmp 10]) (cs:=((cH.cells (cH.mk 0 (aa.mk 0 2)))++(cH.cells (cH.mk 100000 (aa.mk 5 6))))) U p8 ry U U U U (by simp [Value.cells,cH.aW]) U U fun A=>rS (SX (bj (xs:=[(0,.const (vI 100)),(1,.tmp 11)]) (cs:=(du.cells (du.mk 100 (aN.mk (some ⟨A,0,none⟩) 2 2)))) U U (bk RX U)) U U)<|cZ (xs:=[.tmp 12]) (cs:=(du.cells (du.mk 100 (aN.mk (some ⟨A,0,none⟩) 2 2)))) U z8 It U U U U (by simp [Value.cells,du.aW]) U U fun C=>bg 1 U<|rS (CL (Ai 1000) (aK) U)<|rS (SX (bj (xs:=[(0,.tmp 15)]) (cs:=(bG.cells (bG.mk (cM.mk 0 (aa.mk 1000 1000)) 0))) U U (bk IS U)) U U)<|bg 1 U<|rS (CL (Ai 4000) (aK) U)<|rS (SX (bj (xs:=[(0,.tmp 18)]) (cs:=(bG.cells (bG.mk (cM.mk 0 (aa.mk 4000 4000)) 0))) U U (bk IS U)) U U)<|rP 1 [] I ?_
 refine rS (CL (Ai 9000) (aK) U)<|rS (SX (bj (xs:=[(0,.tmp 21)]) (cs:=(bG.cells (bG.mk (cM.mk 0 (aa.mk 9000 9000)) 0))) U U (bk IS U)) U U)<|cZ (xs:=[.tmp 16,.tmp 19,.tmp 22]) (cs:=((bG.cells (bG.mk (cM.mk 0 (aa.mk 1000 1000)) 0))++(bG.cells (bG.mk (cM.mk 0 (aa.mk 4000 4000)) 0))++(bG.cells (bG.mk (cM.mk 0 (aa.mk 9000 9000)) 0)))) U vq QZ U U U U (by simp [Value.cells,bG.aW]) U U fun D=>rS (SX (bj (xs:=[(0,.tmp 6),(1,.const (vI 2000)),(4,.const (vI 1)),(5,.const (vI 1)),(6,.const (vI 1)),(2,.tmp 13),(3,.tmp 23)]) (cs:=(bJ.cells (bJ.mk (aZ.mk (aN.mk (some ⟨B,0,none⟩) 1 1)) 2000 (aN.mk (some ⟨C,0,none⟩) 1 1) (aN.mk (some ⟨D,0,none⟩) 3 3) 1 1 1))) U U (bk UR U)) U U) ?_
 refine dY (es:=(ab.ah.aJ.map ao.cells)) (C':=[_,_,_,(own (some ⟨B,0,none⟩) 1 122 9 (ab.ah.aJ.map ao.cells)),_]) 3 U (mJ ao.aW _) U (by show _≤maxLen; exact Nat.le_trans (m:=10) (show (1:Nat)≤10 by decide) dc) U ?_
 refine dY (es:=(yf.bx.map cH.cells)) (C':=[_,_,(own (some ⟨A,0,none⟩) 2 124 3 (yf.bx.map cH.cells)),_,_]) 2 U (mJ cH.aW _) U (by show _≤maxLen; exact Nat.le_trans (m:=10) (show (2:Nat)≤10 by decide) dc) U ?_
 refine dY (es:=(List.zipWith au.cells ab.ah.ai [((some ⟨A,0,none⟩),2)])) (C':=[_,(own (some ⟨C,0,none⟩) 1 127 2 (List.zipWith au.cells ab.ah.ai [((some ⟨A,0,none⟩),2)])),_,_,_]) 1 U (by intro x hx; change x∈[au.cells yf ((some ⟨A,0,none⟩),2)] at hx; rw [List.mem_singleton.1 hx]; rfl) U (by show _≤maxLen; exact Nat.le_trans (m:=10) (show (1:Nat)≤10 by decide) dc) U ?_
 refine dY (es:=(ab.ah.ag.map bG.cells)) (C':=[(own (some ⟨D,0,none⟩) 3 129 4 (ab.ah.ag.map bG.cells)),_,_,_,_]) 0 U (mJ bG.aW _) U (by show _≤maxLen; exact Nat.le_trans (m:=10) (show (3:Nat)≤10 by decide) dc) U ?_
 refine xN<|Ox (X:=[]) (X':=aS au.owns ab.ah.ai [((some ⟨A,0,none⟩),2)]) 0 3 U U U<|O5 U T3 U<|RK G<|ar ?_
 refine LX hQ ((some ⟨B,0,none⟩),1,(some ⟨C,0,none⟩),1,[((some ⟨A,0,none⟩),2)],(some ⟨D,0,none⟩),3) [3,2,0,1] [0] (mc 4 U I) U (by simp only [fI,List.all_nil,gn,Bool.and_true]; rfl) U U ?_
 exact ⟨U,Rj 1 dc⟩
theorem MU:
 lq Tryz.prog 38 [] [] (fun (x:(OA)×Nat)=>(vA (eK.cells (eK.mk mu.Start mu.gj (aN.mk x.1 mu.aj.length x.2))))) (fun (x:(OA)×Nat)=>True) (fun (x:(OA)×Nat)=>[(own x.1 x.2 131 2 (mu.aj.map aO.cells))]):=by
 refine dv kr Tryz.func38 U U fun E Q hQ hN=>?_
 try dsimp only
 refine WS fun _ B=>AL U U2 fun D=>RK B<|WS fun _ C=>rS (SX (bj (xs:=[(0,.const (vI 0)),(1,.const (vI 10600))]) (cs:=(aO.cells (aO.mk 0 10600))) U U (bk F7 U)) U U)<|rS (SX (bj (xs:=[(0,.const (vI 0)),(1,.const (vI 11000))]) (cs:=(aO.cells (aO.mk 0 11000))) U U (bk F7 U)) U U)<|rS (SX (bj (xs:=[(0,.const (vI 1)),(1,.const (vI 12600))]) (cs:=(aO.cells (aO.mk 1 12600))) U U (bk F7 U)) U U)<|cZ (xs:=[.tmp 1,.tmp 2,.tmp 3]) (cs:=((aO.cells (aO.mk 0 10600))++(aO.cells (aO.mk 0 11000))++(aO.cells (aO.mk 1 12600)))) U zX F1 U U U U (by simp [Value.cells,aO.aW]) U U fun A=>rS (SX (bj (xs:=[(0,.const (vI 10000)),(1,.const (vI 20000)),(2,.tmp 4)]) (cs:=(eK.cells (eK.mk 10000 20000 (aN.mk (some ⟨A,0,none⟩) 3 3)))) U U (bk Vg U)) U U)<|dY (es:=(mu.aj.map aO.cells)) (C':=[(own (some ⟨A,0,none⟩) 3 131 2 (mu.aj.map aO.cells)),_]) 0 U (mJ aO.aW _) U dc U<|tF U Ua U<|RK C<|ar<|LX hQ ((some ⟨A,0,none⟩),3) [0] [0] (mc 1 U I) U U U U ?_
 trivial
end
section
open Go.RowKit
theorem jn:
 lq Tryz.prog 19 [] [] (fun (x:(OA)×Nat×(OA)×Nat×(List RA)×(OA)×Nat×(OA)×Nat×(OA)×Nat×(OA)×Nat×(List cS))=>(vA (bu.cells (bu.mk (bJ.mk (aZ.mk (aN.mk x.1 ab.ah.aJ.length x.2.1)) ab.ah.dG (aN.mk x.2.2.1 ab.ah.ai.length x.2.2.2.1) (aN.mk x.2.2.2.2.2.1 ab.ah.ag.length x.2.2.2.2.2.2.1) ab.ah.bI ab.ah.cy ab.ah.bL) (aN.mk x.2.2.2.2.2.2.2.1 ab.aI.length x.2.2.2.2.2.2.2.2.1) (aN.mk x.2.2.2.2.2.2.2.2.2.1 ab.bD.length x.2.2.2.2.2.2.2.2.2.2.1) ab.dZ (aN.mk x.2.2.2.2.2.2.2.2.2.2.2.1 ab.aq.length x.2.2.2.2.2.2.2.2.2.2.2.2.1))))) (fun (x:(OA)×Nat×(OA)×Nat×(List RA)×(OA)×Nat×(OA)×Nat×(OA)×Nat×(OA)×Nat×(List cS))=>fy ab x.2.2.2.2.1 x.2.2.2.2.2.2.2.2.2.2.2.2.2∧x.2.2.2.2.1.length=ab.ah.ai.length∧sH ab.aq x.2.2.2.2.2.2.2.2.2.2.2.2.2) (fun (x:(OA)×Nat×(OA)×Nat×(List RA)×(OA)×Nat×(OA)×Nat×(OA)×Nat×(OA)×Nat×(List cS))=>[(own x.1 x.2.1 122 9 (ab.ah.aJ.map ao.cells)),(own x.2.2.1 x.2.2.2.1 127 2 (List.zipWith au.cells ab.ah.ai x.2.2.2.2.1)),(bp (aS au.owns ab.ah.ai x.2.2.2.2.1)),(own x.2.2.2.2.2.1 x.2.2.2.2.2.2.1 129 4 (ab.ah.ag.map bG.cells)),(own x.2.2.2.2.2.2.2.1 x.2.2.2.2.2.2.2.2.1 3 1 (ab.aI.map iC)),(own x.2.2.2.2.2.2.2.2.2.1 x.2.2.2.2.2.2.2.2.2.2.1 3 1 (ab.bD.map iC)),(own x.2.2.2.2.2.2.2.2.2.2.2.1 x.2.2.2.2.2.2.2.2.2.2.2.2.1 47 1 (List.zipWith cD ab.aq x.2.2.2.2.2.2.2.2.2.2.2.2.2)),(bp (aS gR ab.aq x.2.2.2.2.2.2.2.2.2.2.2.2.2))]):=by
 refine dv kr Tryz.func19 U U fun Y Q hQ hN=>?_
 try dsimp only
 refine WS fun _ P=>AL U CM fun W=>RK P<|WS fun _ R=>cX NU (aK) U fun X T=>?_
 obtain ⟨K,M,L,N,F,E,G⟩:=X
 try dsimp only
 obtain ⟨S,O⟩:=T
 refine cZ (xs:=[.const (vI 4),.const (vI 7),.const (vI 9)]) (cs:=[(vI 4),(vI 7),(vI 9)]) U cJ jd U U U U (by simp [Value.cells]) U U fun H=>cZ (xs:=[.const (vI 2),.const (vI 0),.const (vI 1)]) (cs:=[(vI 2),(vI 0),(vI 1)]) U cJ jd U U U U (by simp [Value.cells]) U U fun AB=>cX MU (aK) U fun AA V=>?_
 obtain ⟨A,B⟩:=AA
 try dsimp only
 refine rS (SX (bj (xs:=[(3,.tmp 4)]) (cs:=(bw.cells (bw.mk false false (aa.mk 0 0) (eK.mk mu.Start mu.gj (aN.mk A mu.aj.length B))))) U U (bk Qf U)) U U)<|rS (CL (pY 2600 2600) (aK) U)<|rS (CL (pY 2580 2609) (aK) U)<|cZ (xs:=[.tmp 5,.tmp 6,.tmp 7]) (cs:=((bw.cells (bw.mk false false (aa.mk 0 0) (eK.mk mu.Start mu.gj (aN.mk A mu.aj.length B))))++(bw.cells (bw.mk false true (aa.mk 2600 2600) (eK.mk 0 0 (aN.mk none 0 0))))++(bw.cells (bw.mk false true (aa.mk 2580 2609) (eK.mk 0 0 (aN.mk none 0 0)))))) U sE Oo U U U U (by simp [Value.cells,bw.aW]) U U fun C=>rS (CL (pY 2555 2559) (aK) U)<|rS (CL (pY 2540 2549) (aK) U)<|rS (CL (pY 2570 2575) (aK) U)<|cZ (xs:=[.tmp 9,.tmp 10,.tmp 11]) (cs:=((bw.cells (bw.mk false true (aa.mk 2555 2559) (eK.mk 0 0 (aN.mk none 0 0))))++(bw.cells (bw.mk false true (aa.mk 2540 2549) (eK.mk 0 0 (aN.mk none 0 0))))++(bw.cells (bw.mk false true (aa.mk 2570 2575) (eK.mk 0 0 (aN.mk none 0 0)))))) U sE Oo U U U U (by simp [Value.cells,bw.aW]) U U fun D=>cZ (xs:=[.tmp 8,.tmp 12]) (cs:=[(vS (some ⟨C,0,none⟩) 3 3),(vS (some ⟨D,0,none⟩) 3 3)]) U pk Up U U U U (by simp [Value.cells]) U U fun J=>rS (SX (bj (xs:=[(0,.tmp 1),(1,.tmp 2),(2,.tmp 3),(3,.const (vI 2)),(4,.tmp 13)]) (cs:=(bu.cells (bu.mk (bJ.mk (aZ.mk (aN.mk K ab.ah.aJ.length M)) ab.ah.dG (aN.mk L ab.ah.ai.length N) (aN.mk E ab.ah.ag.length G) ab.ah.bI ab.ah.cy ab.ah.bL) (aN.mk (some ⟨H,0,none⟩) 3 3) (aN.mk (some ⟨AB,0,none⟩) 3 3) 2 (aN.mk (some ⟨J,0,none⟩) 2 2)))) U U (bk HH U)) U U) ?_
 refine dY (es:=(ab.aI.map iC)) (C':=[_,_,_,_,_,(own (some ⟨H,0,none⟩) 3 3 1 (ab.aI.map iC)),_,_,_,_,_]) 5 U (mJ bK _) U (by show _≤maxLen; exact Nat.le_trans (m:=10) (show (3:Nat)≤10 by decide) dc) U ?_
 refine dY (es:=(ab.bD.map iC)) (C':=[_,_,_,_,(own (some ⟨AB,0,none⟩) 3 3 1 (ab.bD.map iC)),_,_,_,_,_,_]) 4 U (mJ bK _) U (by show _≤maxLen; exact Nat.le_trans (m:=10) (show (3:Nat)≤10 by decide) dc) U ?_
 refine dY (es:=(List.zipWith aw.cells Ro [(A,B),(none,0),(none,0)])) (C':=[_,_,(own (some ⟨C,0,none⟩) 3 46 7 (List.zipWith aw.cells Ro [(A,B),(none,0),(none,0)])),_,_,_,_,_,_,_,_]) 2 U (oJ Fb) U (by show _≤maxLen; exact Nat.le_trans (m:=10) (show (3:Nat)≤10 by decide) dc) U ?_
 refine dY (es:=(List.zipWith aw.cells Sn [(none,0),(none,0),(none,0)])) (C':=[_,(own (some ⟨D,0,none⟩) 3 46 7 (List.zipWith aw.cells Sn [(none,0),(none,0),(none,0)])),_,_,_,_,_,_,_,_,_]) 1 U (oJ Fb) U (by show _≤maxLen; exact Nat.le_trans (m:=10) (show (3:Nat)≤10 by decide) dc) U ?_
 refine dY (es:=(List.zipWith cD ab.aq [(((some ⟨C,0,none⟩),3),[(A,B),(none,0),(none,0)]),(((some ⟨D,0,none⟩),3),[(none,0),(none,0),(none,0)])])) (C':=[(own (some ⟨J,0,none⟩) 2 47 1 (List.zipWith cD ab.aq [(((some ⟨C,0,none⟩),3),[(A,B),(none,0),(none,0)]),(((some ⟨D,0,none⟩),3),[(none,0),(none,0),(none,0)])])),_,_,_,_,_,_,_,_,_,_]) 0 U (oJ Ie) U (by show _≤maxLen; exact Nat.le_trans (m:=10) (show (2:Nat)≤10 by decide) dc) U ?_
 refine dM 131 2<|dM 131 2<|dM 131 2<|dM 131 2<|dM 131 2<|vZ (C1:=[(own (some ⟨J,0,none⟩) 2 47 1 (List.zipWith cD ab.aq [(((some ⟨C,0,none⟩),3),[(A,B),(none,0),(none,0)]),(((some ⟨D,0,none⟩),3),[(none,0),(none,0),(none,0)])])),(own (some ⟨AB,0,none⟩) 3 3 1 (ab.bD.map iC)),(own (some ⟨H,0,none⟩) 3 3 1 (ab.aI.map iC)),(own K M 122 9 (ab.ah.aJ.map ao.cells)),(own L N 127 2 (List.zipWith au.cells ab.ah.ai F)),(bp (aS au.owns ab.ah.ai F)),(own E G 129 4 (ab.ah.ag.map bG.cells)),(b_ W 32 (bu.cells (bu.mk (bJ.mk (aZ.mk (aN.mk none 0 0)) 0 (aN.mk none 0 0) (aN.mk none 0 0) 0 0 0) (aN.mk none 0 0) (aN.mk none 0 0) 0 (aN.mk none 0 0))))]) (aS gR ab.aq [(((some ⟨C,0,none⟩),3),[(A,B),(none,0),(none,0)]),(((some ⟨D,0,none⟩),3),[(none,0),(none,0),(none,0)])]) [7,8,0,1,6,2,3,4,5,9,10,11,12,13,14,15] U U<|VC U sR U<|RK R<|ar ?_
 refine LX hQ (K,M,L,N,F,E,G,(some ⟨H,0,none⟩),3,(some ⟨AB,0,none⟩),3,(some ⟨J,0,none⟩),2,[(((some ⟨C,0,none⟩),3),[(A,B),(none,0),(none,0)]),(((some ⟨D,0,none⟩),3),[(none,0),(none,0),(none,0)])]) [4,5,6,7,3,2,1,0] [0] (mc 8 U I) U (by show List.all _ _=true; simp only [fI,List.all_nil,gn,kl,Bool.and_true]; rfl) U U ?_
 exact ⟨PZ O KE,S,KE⟩
end
section
open Go.RowKit
theorem JY (a b:Int) (m:g3) (gm g1:Nat) (hb: ∀ p∈m,0≤p.2.Lo∧p.2.Lo≤p.2.Hi∧p.2.Hi≤30000000):
 d_ Tryz.prog 69 [(vI a),(vI b),(vP g1)] [(hO iV gm (bM dW m)),(b_ g1 58 [(Value.map (some gm))])] (vI ((aD m a).Hi-(aD m b).Hi)):=by
 have A:=gO (i:=a) hb
 have B:=gO (i:=b) hb
 refine bE kr Tryz.func69 U U fun E Q hQ hN=>?_
 try dsimp only
 refine WS fun _ C=>bg 1 U<|RK C<|WS fun _ D=>fF 2 [] (mr 1 U I) U<|rS (SX (kJ (kV:=iV) (x:=a) (l:=m) (f:=dW) (z:=(aa.mk 0 0)) U U U nJ (dQ oG) wI (by exact j1 0 U)) U U)<|rS (SX (kE (v:=(vI (((List.lookup a m).getD (aa.mk 0 0)).Hi))) U U fB Ao U) U U)<|rP 2 [] (mr 1 U I) ?_
 refine rS (SX (kJ (kV:=iV) (x:=b) (l:=m) (f:=dW) (z:=(aa.mk 0 0)) U U U nJ (dQ oG) wI (by exact j1 0 U)) U U)<|rS (SX (kE (v:=(vI (((List.lookup b m).getD (aa.mk 0 0)).Hi))) U U fB Ao U) U U) ?_
 unfold aD at A B
 simp only [dA] at A B
 refine rP 2 [] I ?_
 refine RK D<|ar ?_
 exact Q1 hQ U U U U
theorem NX (heatX:Int) (r:cd) (kA:OA) (kC:Nat) (az:List RA) (cA:OA) (cC:Nat) (bA:OA) (bC:Nat) (slA:OA) (slC:Nat) (drA:OA) (drC:Nat) (ha:List cS) (heA:OA) (heC:Nat) (hin:fy r az ha):
 lq Tryz.prog 47 [(vA (bu.cells (ou r kA kC cA cC bA bC slA slC drA drC heA heC))),(vI heatX)] [(rd dD 3 2 dg),(rd kA r.ah.aJ.length 9 (r.ah.aJ.map ao.cells)),(rd cA r.ah.ai.length 2 (List.zipWith au.cells r.ah.ai az)),(fc (aS au.gW r.ah.ai az)),(rd bA r.ah.ag.length 4 (r.ah.ag.map bG.cells)),(rd slA r.aI.length 1 (r.aI.map iC)),(rd drA r.bD.length 1 (r.bD.map iC)),(rd heA r.aq.length 1 (List.zipWith cD r.aq ha)),(fc (aS im r.aq ha))] (fun (x:(OA)×Nat)=>(vT [(vS x.1 ((gX r heatX).length) x.2),(vI (iH r heatX))])) (fun (x:(OA)×Nat)=>True) (fun (x:(OA)×Nat)=>[(own x.1 x.2 3 1 ((gX r heatX).map iC))]):=by
 have AU:=hin.line
 have Ao:=hin.iP
 have Ap:=hin.has
 have Ae:=hin.iR
 have AD:=hin.draw
 have AG:=dJ (r:=r)
 refine dv kr Tryz.func47 U U fun w0 Q hQ hN=>?_
 try dsimp only
 refine WS fun _ AT=>fU U fun b2=>bg 2 U<|RK AT<|Av U<|WS fun _ e=>rP 1 [] (mc 0 U I) ?_
 refine cX (n_ r kA kC az cA cC bA bC slA slC drA drC ha heA heC hin) (bh [1,2,3,4,5,6,7,8,9]) U fun y4 AH=>?_
 obtain ⟨AI,Al,AQ,AP,AY,AJ,AK⟩:=y4
 cases AI
 ·obtain ⟨AE,he⟩:=AH.2 rfl
  try dsimp only at AE he
  subst AE
  try dsimp only [cond_true,cond_false,List.cons_append,List.nil_append]
  refine bg 5 U<|RK e<|ak fun _ Ad=>WS fun _ R=>rP 2 [] I ?_
  refine RK R<|bS U (bq fun P=>?_) (br fun P=>?_)
  ·exact absurd P he
  refine WS fun _ S=>rP 1 [] I ?_
  have A:iH r heatX=bY r:=DP he
  have B:gX r heatX=[]:=yM (by rw [A]; exact he)
  refine dM 3 1 ?_
  rw [show (own none 0 3 1 ([]:List (List Value)))=own none 0 3 1 ((gX r heatX).map iC) from by rw [B]; rfl]
  refine rP 2 [] I ?_
  refine RK S<|ar ?_
  refine LX hQ (none,0) [0] [] I U U U ?_ ?_
  ·first|rfl|(rw [A,B]; rfl)|(rw [A]; rfl)|(rw [A,B,jU]; rfl)
  ·trivial
 obtain ⟨he,AW⟩:=AH.1 rfl
 try dsimp only [cond_true,cond_false,List.cons_append,List.nil_append]
 have G:=(iF he).2
 have Aq:=G.v8
 have An:=G.x_
 refine bg 5 U<|RK e<|ak fun _ T=>WS fun _ Ar=>bg 1 U<|rS (SX (cb (r:= .bool false) U U U lj) U U)<|RK Ar<|aX U<|WK T<|ak fun _ V=>WS fun _ W=>rP 4 [] (mc 4 U I) ?_
 refine cZ (xs:=[.tmp 25]) (cs:=[(vI heatX)]) U cJ jd U U U U (by simp [Value.cells]) U U fun AN=>?_
 refine rS (CL (d_.eq (jT 0 (r.aq.length:Int) ([heatX]) (some ⟨AN,0,none⟩) 1 sd) cU) (ay (a_ 0 U U (by simp [bK]) U)<|aK) U) ?_
 refine rP 1 [] I ?_
 refine RK W<|cE U (br fun AR=>?_) (bq fun AR=>?_)
 ·refine WS fun _ X=>?_
  have A:iH r heatX=2:=DY he om
  have B:gX r heatX=[]:=yM (by rw [A]; decide)
  refine dM 3 1 ?_
  rw [show (own none 0 3 1 ([]:List (List Value)))=own none 0 3 1 ((gX r heatX).map iC) from by rw [B]; rfl]
  refine rP 2 [] I ?_
  refine RK X<|ar ?_
  refine LX hQ (none,0) [0] [] I U U U ?_ ?_
  ·first|rfl|(rw [A,B]; rfl)|(rw [A]; rfl)|(rw [A,B,jU]; rfl)
  ·trivial
 refine WK V<|ak fun _ Y=>WS fun _ Z=>rP 2 [] I ?_
 refine RK Z<|cE U (aQ fun D=>?_) (aP fun D=>?_)
 ·refine WS fun _ b=>rP 2 [] (mc 5 U I) ?_
  refine cX (vH r.bD drA drC sd) (bh [12]) U fun Ab Af=>?_
  obtain ⟨N,O⟩:=Ab
  try dsimp only
  have A:iH r heatX=0:=zf he om
  have B:gX r heatX=r.bD:=vf A D
  rw [show (own N O 3 1 (r.bD.map iC))=(own N O 3 1 ((gX r heatX).map iC)) from by rw [vf A D]]
  refine rP 2 [] I ?_
  refine RK b<|ar ?_
  refine LX hQ (N,O) [0] [] I U U U ?_ ?_
  ·first|rfl|(rw [A,B]; rfl)|(rw [A]; rfl)|(rw [A,B,jU]; rfl)
  ·trivial
 refine WK Y<|WS fun _ d=>?_
 obtain ⟨n,rfl⟩: ∃ n:Nat,heatX=(n:Int):=⟨heatX.toNat,om⟩
 refine rP 2 [] I ?_
 refine cX (OP r kA kC az cA cC bA bC slA slC drA drC ha heA heC AK AY AJ (Value.map (some AP)) AQ n hin om sd (by exact G.zB)) (lz [7,8,9,10,11,12,13,14]<|ay (al (n:=(cQ r).length) 2 U (mI (by rw [AG]; exact AW)))<|ay (dR 3 U sr)<|fK 1 U U<|aK) U fun C Ag=>?_
 try dsimp only
 refine AL U Sq fun At=>HW U Ms U U<|RK d<|WS fun _ g=>bg 1 U<|RK g<|ak fun _ h=>zF<|KK h<|ak fun _ j=>WS fun _ k=>rP 4 [] (mc 7 U I) ?_
 refine RK k<|ax<|fY 3 1 ?_
 have F:(0≤r.bD.length):=by exact Nat.zero_le _
 refine bR (ι:={z:Nat×(OA)×Nat // (z.1≤r.bD.length)}) [1,2,6,8,38,39] [1,2,5,6,7,8,9,10,11,12,13,14,15,16,17] U U (fun z=>[(9,(vS z.1.2.1 (((r.bD.take z.1.1).filter fun u=>(List.lookup u (eL r n)).isSome).length) z.1.2.2)),(40,(vI (z.1.1:Int)))]) (fun z=>[(own z.1.2.1 z.1.2.2 3 1 (((r.bD.take z.1.1).filter fun u=>(List.lookup u (eL r n)).isSome).map iC))]) (fun _=>rfl) (fun _=>rfl) (fun z=>r.bD.length-z.1.1) ⟨(0,none,0),F⟩ (aU U) (aL [1,2,5,6,7,8,9,10,11,12,13,14,15,16,17,0]) ?_
 clear F
 rintro ⟨⟨i,a,c⟩,K⟩ J38 L
 try dsimp only at K
 try dsimp only
 refine WS fun _ m=>rP 1 [] I ?_
 refine RK m<|ak fun _ o=>bS U (aP fun AS=>?_) (aQ fun AS=>?_)
 ·refine bB<|ae<|ae<|aA<|KK j<|ak fun _ v=>?_
  rw [show r.bD.take i=r.bD from List.take_of_length_le om]
  refine an<|rP 1 [] I ?_
  have AV:=Fq he (show n≤r.aq.length by omega)
  have AF:=Nat.le_trans (List.length_filter_le (fun u=>(List.lookup u (eL r n)).isSome) r.bD) AD
  have Am:(eD (fun u=>(aD (eL r n) u).Hi) (r.bD.filter fun u=>(List.lookup u (eL r n)).isSome)).length≤12:=by rw [kh]; exact AF
  refine rS (FU U) ?_
  refine cX (yk (r.bD.filter fun u=>(List.lookup u (eL r n)).isSome) a c (Value.func (.func 69) [].toArray [(vP At)].toArray) (fun u=>(aD (eL r n) u).Hi) (fc [(hO iV C (bM dW (eL r n))),(b_ At 58 [(Value.map (some C))])]) (by intro AZ Aa _; exact m8 (fi:=[]) (ca:=[(vP At)]) (lR (JY AZ Aa (eL r n) C At (by first|assumption|omega)) (bh [0,1]))) (by exact Tl AV) (by exact AF)) (ay (al (n:=(r.bD.filter fun u=>(List.lookup u (eL r n)).isSome).length) 15 U sm)<|ay (lV (bh [1,0]))<|aK) U fun Ac Ah=>?_
  obtain ⟨H,J⟩:=Ac
  try dsimp only
  refine bg 1 U<|RK v<|WS fun _ w=>rP 5 [] (mc 6 U I) ?_
  refine rS (MN U)<|Lt 0 U fun AC=>?_
  simp only [List.length_map] at AC
  refine rS (TH (((min r.dZ (((eD (fun u=>(aD (eL r n) u).Hi) (r.bD.filter fun u=>(List.lookup u (eL r n)).isSome)).length:Nat):Int))).toNat) U cJ om (by first|omega|exact Nat.zero_le _|(simp; omega))) ?_
  refine iN 0 U U U U (Gy (eD (fun u=>(aD (eL r n) u).Hi) (r.bD.filter fun u=>(List.lookup u (eL r n)).isSome)) H J (((min r.dZ (((eD (fun u=>(aD (eL r n) u).Hi) (r.bD.filter fun u=>(List.lookup u (eL r n)).isSome)).length:Nat):Int))).toNat) om om) U j8 U (fun As Ai=>?_)
  try dsimp only
  refine RK w<|WS fun _ y=>rP 1 [] I ?_
  have A:iH r (n:Int)=0:=zf he om
  have B:gX r (n:Int)=(rp (((min r.dZ (((eD (fun u=>(aD (eL r n) u).Hi) (r.bD.filter fun u=>(List.lookup u (eL r n)).isSome)).length:Nat):Int))).toNat) (eD (fun u=>(aD (eL r n) u).Hi) (r.bD.filter fun u=>(List.lookup u (eL r n)).isSome))):=by rw [u0 A D]; exact (yD rfl om).symm
  rw [show (own H J 3 1 ((rp (((min r.dZ (((eD (fun u=>(aD (eL r n) u).Hi) (r.bD.filter fun u=>(List.lookup u (eL r n)).isSome)).length:Nat):Int))).toNat) (eD (fun u=>(aD (eL r n) u).Hi) (r.bD.filter fun u=>(List.lookup u (eL r n)).isSome))).map iC))=(own H J 3 1 ((gX r (n:Int)).map iC)) from by rw [u0 A D]; exact congrArg (fun z=>own _ _ _ _ (List.map iC z)) (yD rfl om)]
  refine rP 2 [] I ?_
  refine RK y<|ar ?_
  refine LX hQ (H,J) [0] [] I U U U ?_ ?_
  ·first|rfl|(rw [A,B]; rfl)|(rw [A]; rfl)|(rw [A,B,jU]; rfl)
  ·trivial
 refine WK o<|ak fun _ M=>ax<|WS fun _ p=>?_
 obtain ⟨x,hx⟩:=aM r.bD i om
 have AX:=bQ iC hx
 refine rS (IA i U (aB 12 U) cJ dc om om)<|rS (gh i 0 (vI x) U cm (aB 12 U) AX U dc U)<|bg 1 U<|RK p<|ak fun _ q=>WS fun _ s=>fF 2 [] (mc 0 U I) U<|rS (SX (kz (kV:=iV) (x:=x) (l:=(eL r n)) (f:=dW) (z:=(aa.mk 0 0)) U U U nJ (dQ oG) wI (by exact aB 1 U)) U U)<|bg 3 U<|AL U di fun Aj=>fW U cv U<|bg 1 U<|RK s<|WS fun _ t=>rP 2 [] I ?_
 refine RK t<|cE U (fun E=>?_) (fun E=>?_)
 ·rw [Bool.not_eq_true'] at E
  refine bB<|ae<|aA<|KK M<|an<|rP 2 [] I ?_
  refine aF ?_
  rw [show ((r.bD.take i).filter fun u=>(List.lookup u (eL r n)).isSome)=((r.bD.take (i+1)).filter fun u=>(List.lookup u (eL r n)).isSome) from (EU hx E).symm]
  have AA:(vI (((i+1):Nat):Int))=(vI ((i:Int)+1)):=by exact cI om
  refine aT (L ⟨((i+1),a,c),(by first|omega|(simp only []; omega))⟩ _ _ _ U os (cP 7<|bo U AA<|dy.nil _) (aL [1,2,3,4,5,6,7,8,9,10,11,12,13,14,15,16]))
 rw [Bool.not_eq_false'] at E
 refine WK q<|an<|rP 2 [] I ?_
 refine cZ (xs:=[.tmp 53]) (cs:=[(vI x)]) U cJ jd U U U U (by simp [Value.cells]) U U fun Ak=>?_
 refine de (es2:=(List.map iC ((r.bD.take (i+1)).filter fun u=>(List.lookup u (eL r n)).isSome))) (m':=((r.bD.take (i+1)).filter fun u=>(List.lookup u (eL r n)).isSome).length) 17 U U U pT U U sm (a_ (es:=List.map iC [x]) 0 U U (by simp [bK]) U) (j6 _) (by have:=List.length_filter_le (fun u=>(List.lookup u (eL r n)).isSome) (r.bD.take i); rw [List.length_take] at this; first|omega|(simp; omega)) (by have:=List.length_filter_le (fun u=>(List.lookup u (eL r n)).isSome) (r.bD.take i); rw [List.length_take] at this; simp only [maxLen]; first|omega|(simp; omega)) (by rw [wO hx E]; simp) sm U fun AM AO=>?_
 try dsimp only
 refine bg 1 U<|aF<|aH<|KK M<|an<|rP 2 [] I ?_
 refine aF ?_
 have AB:(vI (((i+1):Nat):Int))=(vI ((i:Int)+1)):=by exact cI om
 refine aT (L ⟨((i+1),AM,AO),(by first|omega|(simp only []; omega))⟩ _ _ _ U os (cP 7<|bo U AB<|dy.nil _) (aL [2,3,4,5,6,7,8,9,10,11,12,13,14,15,16,17]))
end
section
open Go.RowKit
theorem yp (i lo hi:Int) (r:cd) (kA:OA) (kC:Nat) (az:List RA) (cA:OA) (cC:Nat) (bA:OA) (bC:Nat) (slA:OA) (slC:Nat) (drA:OA) (drC:Nat) (ha:List cS) (heA:OA) (heC:Nat) (hin:fy r az ha):
 d_ Tryz.prog 24 [(vA (bu.cells (ou r kA kC cA cC bA bC slA slC drA drC heA heC))),(vI i),(vI lo),(vI hi)] [(rd dD 3 2 dg),(rd kA r.ah.aJ.length 9 (r.ah.aJ.map ao.cells)),(rd cA r.ah.ai.length 2 (List.zipWith au.cells r.ah.ai az)),(fc (aS au.gW r.ah.ai az)),(rd bA r.ah.ag.length 4 (r.ah.ag.map bG.cells)),(rd slA r.aI.length 1 (r.aI.map iC)),(rd drA r.bD.length 1 (r.bD.map iC)),(rd heA r.aq.length 1 (List.zipWith cD r.aq ha)),(fc (aS im r.aq ha))] (vB (decide (jX r i=0∧qC r i=aa.mk lo hi))):=by
 have E:=hin.line
 have AA:=hin.iP
 have J:=hin.has
 have G:=hin.iR
 have F:=hin.draw
 have H:=dJ (r:=r)
 refine bE kr Tryz.func24 U U fun M Q hQ hN=>?_
 try dsimp only
 refine WS fun _ C=>fU U fun K=>bg 1 U<|RK C<|WS fun _ D=>fF 2 [] (mc 0 U I) U<|rS (CL (OF i r kA kC az cA cC bA bC slA slC drA drC ha heA heC hin) (bh [1,2,3,4,5,6,7,8,9]) U)<|bg 3 U<|AL U di fun L=>fW U cv U<|bg 1 U<|RK D<|ak fun _ B=>dh cu 10 kr<|dP 3 [] I ?_
 refine jg (t:=19) U (aP fun A=>?_) (aQ fun A=>?_)
 ·refine dP 7 [] I ?_
  refine cK<|RK B<|ar<|Q1 hQ U U U ?_
  first|exact cB (cr fun q=>A q.1).symm|exact cB (decide_eq_decide.2 ⟨fun q=>⟨A,q⟩,fun q=>q.2⟩)
 refine lJ 3 [] (mc 0 U I) U<|dS (CL (lT lo hi) (aK) U)<|dS (BI U (sT _ _ (qC r i) (aa.mk lo hi)))<|dP 2 [] I ?_
 refine cK<|RK B<|ar<|Q1 hQ U U U ?_
 first|exact cB (cr fun q=>A q.1).symm|exact cB (decide_eq_decide.2 ⟨fun q=>⟨A,q⟩,fun q=>q.2⟩)
theorem zu (i:Int) (want:List Int) (wantA:OA) (wantC:Nat) (r:cd) (kA:OA) (kC:Nat) (az:List RA) (cA:OA) (cC:Nat) (bA:OA) (bC:Nat) (slA:OA) (slC:Nat) (drA:OA) (drC:Nat) (ha:List cS) (heA:OA) (heC:Nat) (hin:fy r az ha) (hwl:want.length≤12):
 d_ Tryz.prog 25 [(vA (bu.cells (ou r kA kC cA cC bA bC slA slC drA drC heA heC))),(vI i),(vS wantA want.length wantC)] [(rd wantA want.length 1 (want.map iC)),(rd dD 3 2 dg),(rd kA r.ah.aJ.length 9 (r.ah.aJ.map ao.cells)),(rd cA r.ah.ai.length 2 (List.zipWith au.cells r.ah.ai az)),(fc (aS au.gW r.ah.ai az)),(rd bA r.ah.ag.length 4 (r.ah.ag.map bG.cells)),(rd slA r.aI.length 1 (r.aI.map iC)),(rd drA r.bD.length 1 (r.bD.map iC)),(rd heA r.aq.length 1 (List.zipWith cD r.aq ha)),(fc (aS im r.aq ha))] (vB (decide (jX r i=0∧ig r i=want))):=by
 have E:=hin.line
 have K:=hin.iP
 have L:=hin.has
 have G:=hin.iR
 have F:=hin.draw
 have H:=dJ (r:=r)
 have M:=v_ (r:=r) (i:=i)
 refine bE kr Tryz.func25 U U fun R Q hQ hN=>?_
 try dsimp only
 refine WS fun _ C=>fU U fun P=>bg 1 U<|RK C<|WS fun _ D=>rP 2 [] (mc 0 U I) ?_
 refine cX (Fy i r kA kC az cA cC bA bC slA slC drA drC ha heA heC hin) (bh [2,3,4,5,6,7,8,9,10]) U fun O N=>?_
 obtain ⟨AA,J⟩:=O
 try dsimp only
 refine bg 5 U<|RK D<|WS fun _ B=>rP 3 [] I ?_
 refine cf (t:=17) U (aP fun A=>?_) (aQ fun A=>?_)
 ·refine rP 5 [] I ?_
  refine RK B<|ar<|Q1 hQ U U U ?_
  first|exact cB (cr fun q=>A q.1).symm|exact cB (decide_eq_decide.2 ⟨fun q=>⟨A,q⟩,fun q=>q.2⟩)
 refine bg 2 U<|rS (CL (nQ (ig r i) AA J want wantA wantC om om) (ay (al (n:=(ig r i).length) 0 U sm)<|fK 2 U U<|aK) U)<|rP 2 [] I ?_
 refine RK B<|ar<|Q1 hQ U U U ?_
 first|exact cB (cr fun q=>A q.1).symm|exact cB (decide_eq_decide.2 ⟨fun q=>⟨A,q⟩,fun q=>q.2⟩)
theorem za (heatX:Int) (want:List Int) (wantA:OA) (wantC:Nat) (hwl:want.length≤12):
 d_ Tryz.prog 28 [(vI heatX),(vS wantA want.length wantC)] [(rd dD 3 2 dg),(rd wantA want.length 1 (want.map iC))] (vB (decide (iH ab heatX=0∧gX ab heatX=want))):=by
 have b:=Dp (r:=ab) (h:=heatX) dc
 refine bE kr Tryz.func28 U U fun d Q hQ hN=>?_
 try dsimp only
 refine WS fun _ V=>rP 1 [] I ?_
 refine RK V<|WS fun _ W=>cX jn (aK) U fun c Y=>?_
 obtain ⟨N,S,P,AA,R,C,G,D,H,E,AB,F,J,M⟩:=c
 try dsimp only
 obtain ⟨L,X,K⟩:=Y
 refine rP 1 [] I ?_
 refine cX (NX heatX ab N S R P AA C G D H E AB M F J (by exact L)) (fK 8 U U<|ay (al (n:=ab.ah.aJ.length) 0 U sm)<|ay (al (n:=ab.ah.ai.length) 1 U (gZ X))<|ay (dR 2 U iY)<|ay (al (n:=ab.ah.ag.length) 3 U sm)<|ay (al (n:=ab.aI.length) 4 U sm)<|ay (al (n:=ab.bD.length) 5 U sm)<|ay (al (n:=ab.aq.length) 6 U (fw K.1))<|ay (hE 7 U K)<|aK) U fun Z a=>?_
 obtain ⟨O,T⟩:=Z
 try dsimp only
 refine bg 5 U<|RK W<|WS fun _ B=>rP 3 [] I ?_
 refine cf (t:=15) U (aP fun A=>?_) (aQ fun A=>?_)
 ·refine rP 5 [] I ?_
  refine RK B<|ar<|Q1 hQ U U U ?_
  first|exact cB (cr fun q=>A q.1).symm|exact cB (decide_eq_decide.2 ⟨fun q=>⟨A,q⟩,fun q=>q.2⟩)
 refine bg 2 U<|rS (CL (nQ (gX ab heatX) O T want wantA wantC om om) (ay (al (n:=(gX ab heatX).length) 0 U sm)<|fK 10 U U<|aK) U)<|rP 2 [] I ?_
 refine RK B<|ar<|Q1 hQ U U U ?_
 first|exact cB (cr fun q=>A q.1).symm|exact cB (decide_eq_decide.2 ⟨fun q=>⟨A,q⟩,fun q=>q.2⟩)
theorem CJ (a b:Int) (x y:Int):
 d_ Tryz.prog 26 [(vI a),(vI b),(Value.int .u8 x),(Value.int .u8 y)] [(rd dD 3 2 dg)] (vB (decide (((l_ ab a b=0∧ph ab a b=x)∧l_ ab a b=0)∧lk ab a b=y))):=by
 refine bE kr Tryz.func26 U U fun w Q hQ hN=>?_
 try dsimp only
 refine WS fun _ p=>rP 1 [] I ?_
 refine RK p<|WS fun _ r=>cX jn (aK) U fun v s=>?_
 obtain ⟨j,m,k,o,l,J,V,L,X,N,Z,P,d,h⟩:=v
 try dsimp only
 obtain ⟨F,G,E⟩:=s
 refine bg 2 U<|rS (CL (w5 a b ab j m l k o J V L X N Z h P d (by exact F)) (fK 8 U U<|ay (al (n:=ab.ah.aJ.length) 0 U sm)<|ay (al (n:=ab.ah.ai.length) 1 U (gZ G))<|ay (dR 2 U iY)<|ay (al (n:=ab.ah.ag.length) 3 U sm)<|ay (al (n:=ab.aI.length) 4 U sm)<|ay (al (n:=ab.bD.length) 5 U sm)<|ay (al (n:=ab.aq.length) 6 U (fw E.1))<|ay (hE 7 U E)<|aK) U)<|p_ (C1:=[(rd dD 3 2 dg)]) [8] U U<|rP 5 [] I ?_
 refine RK r<|WS fun _ f=>cX jn (aK) U fun u g=>?_
 obtain ⟨H,T,AB,AA,S,K,W,M,Y,O,c,R,e,i⟩:=u
 try dsimp only
 obtain ⟨F,G,E⟩:=g
 refine bg 2 U<|rS (CL (EP a b ab H T S AB AA K W M Y O c i R e (by exact F)) (fK 8 U U<|ay (al (n:=ab.ah.aJ.length) 0 U sm)<|ay (al (n:=ab.ah.ai.length) 1 U (gZ G))<|ay (dR 2 U iY)<|ay (al (n:=ab.ah.ag.length) 3 U sm)<|ay (al (n:=ab.aI.length) 4 U sm)<|ay (al (n:=ab.bD.length) 5 U sm)<|ay (al (n:=ab.aq.length) 6 U (fw E.1))<|ay (hE 7 U E)<|aK) U)<|bg 5 U<|RK f<|WS fun _ D=>rP 3 [] I ?_
 refine cf (t:=29) U (aP fun A=>?_) (aQ fun A=>?_)
 ·refine rP 14 [] I ?_
  refine RK D<|ar<|Q1 hQ U U U ?_
  first|exact cB (cr fun q=>A q.1.1.1).symm|exact cB (cr fun q=>B q.1.1.2).symm|exact cB (cr fun q=>C q.1.2).symm|exact cB (decide_eq_decide.2 ⟨fun q=>⟨⟨⟨A,B⟩,C⟩,q⟩,fun q=>q.2⟩)
 refine bg 2 U<|rS (BI U l8)<|rP 2 [] I ?_
 refine cf (t:=34) U (aP fun B=>?_) (aQ fun B=>?_)
 ·refine rP 9 [] I ?_
  refine RK D<|ar<|Q1 hQ U U U ?_
  first|exact cB (cr fun q=>A q.1.1.1).symm|exact cB (cr fun q=>B q.1.1.2).symm|exact cB (cr fun q=>C q.1.2).symm|exact cB (decide_eq_decide.2 ⟨fun q=>⟨⟨⟨A,B⟩,C⟩,q⟩,fun q=>q.2⟩)
 refine rP 4 [] I ?_
 refine cf (t:=38) U (aP fun C=>?_) (aQ fun C=>?_)
 ·refine rP 5 [] I ?_
  refine RK D<|ar<|Q1 hQ U U U ?_
  first|exact cB (cr fun q=>A q.1.1.1).symm|exact cB (cr fun q=>B q.1.1.2).symm|exact cB (cr fun q=>C q.1.2).symm|exact cB (decide_eq_decide.2 ⟨fun q=>⟨⟨⟨A,B⟩,C⟩,q⟩,fun q=>q.2⟩)
 refine bg 2 U<|rS (BI U l8)<|rP 2 [] I ?_
 refine RK D<|ar<|Q1 hQ U U U ?_
 first|exact cB (cr fun q=>A q.1.1.1).symm|exact cB (cr fun q=>B q.1.1.2).symm|exact cB (cr fun q=>C q.1.2).symm|exact cB (decide_eq_decide.2 ⟨fun q=>⟨⟨⟨A,B⟩,C⟩,q⟩,fun q=>q.2⟩)
end
section
open Go.RowKit
theorem LL:
 d_ Tryz.prog 6 [] [(rd dD 3 2 dg)] (vB true):=by
 have BU:=vh (r:=ab)
 have BJ:=vh (r:=eY)
 have Fb:=Bw (r:=ab) (h:=0) (i:=2) (t:=aa.mk 2590 2599)
 have Fa:ab.aI.length=3:=rfl
 refine bE kr Tryz.func6 U U fun w0 Q hQ hN=>?_
 try dsimp only
 refine WS fun _ FO=>rP 1 [] I ?_
 refine RK FO<|WS fun _ FP=>cX jn (aK) U fun y3 FR=>?_
 obtain ⟨BK,BM,BL,BN,FN,Aa,Az,Ae,A3,Ai,A7,Am,BA,FD⟩:=y3
 try dsimp only
 obtain ⟨Y,e,a⟩:=FR
 refine rS (CL (I_ 0 0 ab BK BM FN BL BN Aa Az Ae A3 Ai A7 FD Am BA (by exact Y)) (fK 8 U U<|ay (al (n:=ab.ah.aJ.length) 0 U sm)<|ay (al (n:=ab.ah.ai.length) 1 U (gZ e))<|ay (dR 2 U iY)<|ay (al (n:=ab.ah.ag.length) 3 U sm)<|ay (al (n:=ab.aI.length) 4 U sm)<|ay (al (n:=ab.bD.length) 5 U sm)<|ay (al (n:=ab.aq.length) 6 U (fw a.1))<|ay (hE 7 U a)<|aK) U)<|bg 1 U<|p_ (C1:=[(rd dD 3 2 dg)]) [8] U U<|bg 2 U<|AL U di fun f=>fW U cv U<|rP 1 [] I ?_
 refine RK FP<|WS fun _ E2=>cX jn (aK) U fun FS E9=>?_
 obtain ⟨AT,At,AX,Aw,Er,Ab,A0,Af,A4,Aj,A8,An,BB,FE⟩:=FS
 try dsimp only
 obtain ⟨Y,e,a⟩:=E9
 refine cX (FV ab AT At Er AX Aw Ab A0 Af A4 Aj A8 FE An BB (by exact Y)) (fK 9 U U<|ay (al (n:=ab.ah.aJ.length) 0 U sm)<|ay (al (n:=ab.ah.ai.length) 1 U (gZ e))<|ay (dR 2 U iY)<|ay (al (n:=ab.ah.ag.length) 3 U sm)<|ay (al (n:=ab.aI.length) 4 U sm)<|ay (al (n:=ab.bD.length) 5 U sm)<|ay (al (n:=ab.aq.length) 6 U (fw a.1))<|ay (hE 7 U a)<|aK) U fun FT E_=>?_
 obtain ⟨O,T,Fc⟩:=FT
 try dsimp only
 have EM:=E_
 have Bf:=EM
 refine bg 1 U<|p_ (C1:=[(own T Fc 29 1 (List.zipWith j5 (bH ab) O)),(bp (aS nc (bH ab) O)),(b_ f 38 (aa.cells (df ab 0 0))),(rd dD 3 2 dg)]) [0,1,10,11] U U<|rP 4 [] I ?_
 refine RK E2<|WS fun _ E3=>cX jn (aK) U fun FU FA=>?_
 obtain ⟨AU,Au,AY,Ax,Es,Ac,A1,Ag,A5,Ak,A9,Ao,BC,FF⟩:=FU
 try dsimp only
 obtain ⟨Y,e,a⟩:=FA
 refine rS (CL (lT 2590 2599) (aK) U)<|cX (Lv 0 2 (aa.mk 2590 2599) ab AU Au Es AY Ax Ac A1 Ag A5 Ak A9 FF Ao BC (by exact Y)) (fK 11 U U<|ay (al (n:=ab.ah.aJ.length) 0 U sm)<|ay (al (n:=ab.ah.ai.length) 1 U (gZ e))<|ay (dR 2 U iY)<|ay (al (n:=ab.ah.ag.length) 3 U sm)<|ay (al (n:=ab.aI.length) 4 U sm)<|ay (al (n:=ab.bD.length) 5 U sm)<|ay (al (n:=ab.aq.length) 6 U (fw a.1))<|ay (hE 7 U a)<|aK) U fun FW Bi=>?_
 obtain ⟨FG,FZ,A,G,B,H,P,C,Fd,D,J,E,K,F,L,R⟩:=FW
 cases FG
 ·obtain ⟨E7,he⟩:=Bi.2 rfl
  try dsimp only at E7 he
  subst E7
  try dsimp only [cond_true,cond_false,List.cons_append,List.nil_append]
  exact absurd Bd he
 obtain ⟨E8,⟨BT,E6⟩,BO⟩:=Bi.1 rfl
 try dsimp only [cond_true,cond_false,List.cons_append,List.nil_append]
 try dsimp only at E8 BT E6 BO
 have Bh:fy eY _ _:=fy.rep Y BT E6 BO
 refine bg 1 U<|p_ (C1:=[(own A G 122 9 (ab.ah.aJ.map ao.cells)),(own B H 127 2 (List.zipWith au.cells ab.ah.ai P)),(bp (aS au.owns ab.ah.ai P)),(own C Fd 129 4 (ab.ah.ag.map bG.cells)),(own D J 3 1 (ab.aI.map iC)),(own E K 3 1 (ab.bD.map iC)),(own F L 47 1 (List.zipWith cD (dF ab.aq 0 2 (aa.mk 2590 2599)) R)),(bp (aS gR (dF ab.aq 0 2 (aa.mk 2590 2599)) R)),(own T Fc 29 1 (List.zipWith j5 (bH ab) O)),(bp (aS nc (bH ab) O)),(b_ f 38 (aa.cells (df ab 0 0))),(rd dD 3 2 dg)]) [0,1,2,3,4,5,6,7,16,17,18,19] U U<|bg 2 U<|AL U CM fun k=>fW U sR U<|bg 1 U<|RK E3<|WS fun _ E4=>rP 1 [] (mc 0 U I) ?_
 refine cX (FV eY A G P B H C Fd D J E K R F L (by exact Bh)) (fK 12 U U<|ay (al (n:=ab.ah.aJ.length) 1 U (by rw [List.length_map]; rfl))<|ay (al (n:=ab.ah.ai.length) 2 U (gZ BT))<|ay (dR 3 U iY)<|ay (al (n:=ab.ah.ag.length) 4 U (by rw [List.length_map]; rfl))<|ay (al (n:=ab.aI.length) 5 U (by rw [List.length_map]; rfl))<|ay (al (n:=ab.bD.length) 6 U (by rw [List.length_map]; rfl))<|ay (al (n:=(dF ab.aq 0 2 (aa.mk 2590 2599)).length) 7 U (fw BO.1))<|ay (hE 8 U BO)<|aK) U fun FX FB=>?_
 obtain ⟨S,W,X⟩:=FX
 try dsimp only
 have EM:=FB
 have Bg:=EM
 refine rP 5 [] I ?_
 refine RK E4<|WS fun _ E5=>cX jn (aK) U fun FY FC=>?_
 obtain ⟨AV,Av,AZ,Ay,Et,Ad,A2,Ah,A6,Al,A_,Ap,BD,ES⟩:=FY
 try dsimp only
 obtain ⟨Y,e,a⟩:=FC
 refine rS (CL (lT 2590 2599) (aK) U)<|cX (Ht 0 2 (aa.mk 2590 2599) ab AV Av Et AZ Ay Ad A2 Ah A6 Al A_ ES Ap BD (by exact Y)) (fK 22 U U<|ay (al (n:=ab.ah.aJ.length) 0 U sm)<|ay (al (n:=ab.ah.ai.length) 1 U (gZ e))<|ay (dR 2 U iY)<|ay (al (n:=ab.ah.ag.length) 3 U sm)<|ay (al (n:=ab.aI.length) 4 U sm)<|ay (al (n:=ab.bD.length) 5 U sm)<|ay (al (n:=ab.aq.length) 6 U (fw a.1))<|ay (hE 7 U a)<|aK) U fun FH FQ=>?_
 obtain ⟨M,N⟩:=FH
 try dsimp only
 refine bg 1 U<|p_ (C1:=[(own M N 3 1 ((cx ab 0 2 (aa.mk 2590 2599)).map iC)),(own W X 29 1 (List.zipWith j5 (bH eY) S)),(bp (aS nc (bH eY) S)),(b_ k 32 (bu.cells (bu.mk (bJ.mk (aZ.mk (aN.mk A ab.ah.aJ.length G)) ab.ah.dG (aN.mk B ab.ah.ai.length H) (aN.mk C ab.ah.ag.length Fd) ab.ah.bI ab.ah.cy ab.ah.bL) (aN.mk D ab.aI.length J) (aN.mk E ab.bD.length K) ab.dZ (aN.mk F ((dF ab.aq 0 2 (aa.mk 2590 2599)).length) L)))),(own A G 122 9 (ab.ah.aJ.map ao.cells)),(own B H 127 2 (List.zipWith au.cells ab.ah.ai P)),(bp (aS au.owns ab.ah.ai P)),(own C Fd 129 4 (ab.ah.ag.map bG.cells)),(own D J 3 1 (ab.aI.map iC)),(own E K 3 1 (ab.bD.map iC)),(own F L 47 1 (List.zipWith cD (dF ab.aq 0 2 (aa.mk 2590 2599)) R)),(bp (aS gR (dF ab.aq 0 2 (aa.mk 2590 2599)) R)),(own T Fc 29 1 (List.zipWith j5 (bH ab) O)),(bp (aS nc (bH ab) O)),(b_ f 38 (aa.cells (df ab 0 0))),(rd dD 3 2 dg)]) [0,9,10,11,12,13,14,15,16,17,18,19,20,21,22,23] U U<|rP 4 [] I ?_
 refine RK E5<|ak fun _ Cp=>pq cu [0,1,2,3,4,5,6,7] [8,9,10,11,12,13,14,15,16,17,18,19,20,21,22,23,24,25,26,27,28,29,30,31,32,33,34,35,36,37,38,39,40,41,42,43,44,45,46,47,48,49,50,51,52,53,54,55,56,57,58,59,60,61,62,63,64,65,66,67,68,69,70,71,72,73] [false,false,false,false,false,false,false,false] [] [(own M N 3 1 ((cx ab 0 2 (aa.mk 2590 2599)).map iC)),(own W X 29 1 (List.zipWith j5 (bH eY) S)),(bp (aS nc (bH eY) S)),(b_ k 32 (bu.cells (bu.mk (bJ.mk (aZ.mk (aN.mk A ab.ah.aJ.length G)) ab.ah.dG (aN.mk B ab.ah.ai.length H) (aN.mk C ab.ah.ag.length Fd) ab.ah.bI ab.ah.cy ab.ah.bL) (aN.mk D ab.aI.length J) (aN.mk E ab.bD.length K) ab.dZ (aN.mk F ((dF ab.aq 0 2 (aa.mk 2590 2599)).length) L)))),(own A G 122 9 (ab.ah.aJ.map ao.cells)),(own B H 127 2 (List.zipWith au.cells ab.ah.ai P)),(bp (aS au.owns ab.ah.ai P)),(own C Fd 129 4 (ab.ah.ag.map bG.cells)),(own D J 3 1 (ab.aI.map iC)),(own E K 3 1 (ab.bD.map iC)),(own F L 47 1 (List.zipWith cD (dF ab.aq 0 2 (aa.mk 2590 2599)) R)),(bp (aS gR (dF ab.aq 0 2 (aa.mk 2590 2599)) R)),(own T Fc 29 1 (List.zipWith j5 (bH ab) O)),(bp (aS nc (bH ab) O)),(b_ f 38 (aa.cells (df ab 0 0))),(rd dD 3 2 dg).ro] [] kr (aL [0,1,2,3,4,5,6,7,8,9,10,11,12,13,14,15]) (aL [])<|eS U (MV U)<|eS U (BI U l8)<|eS U (MV U)<|L5 (t:=40) U (aP fun Eu=>?_) (aQ fun Eu=>?_)
 ·exact absurd (O7.1) Eu
 refine eS U (LW 14 U cm U U)<|eS U (CL (lT 2596 2602) (aK) U)<|eS U (BI U (sT _ _ (df ab 0 0) (aa.mk 2596 2602)))<|eS U (PK U)<|eS U (MV U)<|e9 U<|N1 8<|NO U U [9,10,11,12,13,14,15,16,17,18,19,20,21,22,23,24,25,26,27,28,29,30,31,32,33,34,35,36,37,38,39,40,41,42,43,44,45,46,47,48,49,50,51,52,53,54,55,56,57,58,59,60,61,62,63,64,65,66,67,68,69,70,71,72,73] fun T106 Cq=>cf (t:=45) U (aP fun Ev=>?_) (aQ fun Ev=>?_)
 ·exact absurd (O7.2) Ev
 refine cX jn (aK) U fun FI EN=>?_
 obtain ⟨Bj,CI,Bo,CQ,CD,Bt,CV,Bz,Ca,B4,Cf,B9,Ck,ET⟩:=FI
 try dsimp only
 obtain ⟨Y,e,a⟩:=EN
 refine RD Cq 8 U<|N1 9<|NO U U [10,11,12,13,14,15,16,17,18,19,20,21,22,23,24,25,26,27,28,29,30,31,32,33,34,35,36,37,38,39,40,41,42,43,44,45,46,47,48,49,50,51,52,53,54,55,56,57,58,59,60,61,62,63,64,65,66,67,68,69,70,71,72,73] fun T123 Cr=>rS (CL (yp 0 514 515 ab Bj CI CD Bo CQ Bt CV Bz Ca B4 Cf ET B9 Ck (by exact Y)) (fK 23 U U<|ay (al (n:=ab.ah.aJ.length) 0 U sm)<|ay (al (n:=ab.ah.ai.length) 1 U (gZ e))<|ay (dR 2 U iY)<|ay (al (n:=ab.ah.ag.length) 3 U sm)<|ay (al (n:=ab.aI.length) 4 U sm)<|ay (al (n:=ab.bD.length) 5 U sm)<|ay (al (n:=ab.aq.length) 6 U (fw a.1))<|ay (hE 7 U a)<|aK) U)<|RD Cr 8 U<|N1 10<|NO U U [11,12,13,14,15,16,17,18,19,20,21,22,23,24,25,26,27,28,29,30,31,32,33,34,35,36,37,38,39,40,41,42,43,44,45,46,47,48,49,50,51,52,53,54,55,56,57,58,59,60,61,62,63,64,65,66,67,68,69,70,71,72,73] fun T124 Cs=>p_ (C1:=[(own M N 3 1 ((cx ab 0 2 (aa.mk 2590 2599)).map iC)),(own W X 29 1 (List.zipWith j5 (bH eY) S)),(bp (aS nc (bH eY) S)),(b_ k 32 (bu.cells (bu.mk (bJ.mk (aZ.mk (aN.mk A ab.ah.aJ.length G)) ab.ah.dG (aN.mk B ab.ah.ai.length H) (aN.mk C ab.ah.ag.length Fd) ab.ah.bI ab.ah.cy ab.ah.bL) (aN.mk D ab.aI.length J) (aN.mk E ab.bD.length K) ab.dZ (aN.mk F ((dF ab.aq 0 2 (aa.mk 2590 2599)).length) L)))),(own A G 122 9 (ab.ah.aJ.map ao.cells)),(own B H 127 2 (List.zipWith au.cells ab.ah.ai P)),(bp (aS au.owns ab.ah.ai P)),(own C Fd 129 4 (ab.ah.ag.map bG.cells)),(own D J 3 1 (ab.aI.map iC)),(own E K 3 1 (ab.bD.map iC)),(own F L 47 1 (List.zipWith cD (dF ab.aq 0 2 (aa.mk 2590 2599)) R)),(bp (aS gR (dF ab.aq 0 2 (aa.mk 2590 2599)) R)),(own T Fc 29 1 (List.zipWith j5 (bH ab) O)),(bp (aS nc (bH ab) O)),(b_ f 38 (aa.cells (df ab 0 0))),(rd dD 3 2 dg)]) [8,9,10,11,12,13,14,15,16,17,18,19,20,21,22,23] U U<|rS (PK U)<|RD Cs 0 U<|N1 11<|NO U U [12,13,14,15,16,17,18,19,20,21,22,23,24,25,26,27,28,29,30,31,32,33,34,35,36,37,38,39,40,41,42,43,44,45,46,47,48,49,50,51,52,53,54,55,56,57,58,59,60,61,62,63,64,65,66,67,68,69,70,71,72,73] fun T125 Ct=>rS (MV U)<|RD Ct 0 U ?_
 refine w8 (V:=OA×Nat×OA×Nat×List RA×OA×Nat×OA×Nat×OA×Nat×OA×Nat×List cS×Nat) (fun (u,AG,w,AI,l,y,AK,AA,AN,AC,AP,AE,AR,p,d)=>fy ab l p∧l.length=ab.ah.ai.length∧sH ab.aq p) (fun (u,AG,w,AI,l,y,AK,AA,AN,AC,AP,AE,AR,p,d)=>[(1,(vP f)),(2,(vI (fR ab 0 0))),(3,(vS T ((bH ab).length) Fc)),(4,(vI (bY ab))),(5,(vP k)),(6,(vI 0)),(7,(vS W ((bH eY).length) X)),(8,(vI (bY eY))),(9,(vS M ((cx ab 0 2 (aa.mk 2590 2599)).length) N)),(10,(vI (dK ab 0 2 (aa.mk 2590 2599)))),(11,(vT [(vA (aa.cells (df ab 0 0))),(vI (fR ab 0 0))])),(12,(vA (bu.cells (bu.mk (bJ.mk (aZ.mk (aN.mk BK ab.ah.aJ.length BM)) ab.ah.dG (aN.mk BL ab.ah.ai.length BN) (aN.mk Aa ab.ah.ag.length Az) ab.ah.bI ab.ah.cy ab.ah.bL) (aN.mk Ae ab.aI.length A3) (aN.mk Ai ab.bD.length A7) ab.dZ (aN.mk Am ab.aq.length BA))))),(13,(vT [(vA (aa.cells (df ab 0 0))),(vI (fR ab 0 0))])),(14,(vA (aa.cells (df ab 0 0)))),(15,(vI (fR ab 0 0))),(16,(vT [(vS T ((bH ab).length) Fc),(vI (bY ab))])),(17,(vA (bu.cells (bu.mk (bJ.mk (aZ.mk (aN.mk AT ab.ah.aJ.length At)) ab.ah.dG (aN.mk AX ab.ah.ai.length Aw) (aN.mk Ab ab.ah.ag.length A0) ab.ah.bI ab.ah.cy ab.ah.bL) (aN.mk Af ab.aI.length A4) (aN.mk Aj ab.bD.length A8) ab.dZ (aN.mk An ab.aq.length BB))))),(18,(vT [(vS T ((bH ab).length) Fc),(vI (bY ab))])),(19,(vS T ((bH ab).length) Fc)),(20,(vI (bY ab))),(21,(vT [(vA (bu.cells (bu.mk (bJ.mk (aZ.mk (aN.mk A ab.ah.aJ.length G)) ab.ah.dG (aN.mk B ab.ah.ai.length H) (aN.mk C ab.ah.ag.length Fd) ab.ah.bI ab.ah.cy ab.ah.bL) (aN.mk D ab.aI.length J) (aN.mk E ab.bD.length K) ab.dZ (aN.mk F ((dF ab.aq 0 2 (aa.mk 2590 2599)).length) L)))),(vI 0)])),(22,(vA (bu.cells (bu.mk (bJ.mk (aZ.mk (aN.mk AU ab.ah.aJ.length Au)) ab.ah.dG (aN.mk AY ab.ah.ai.length Ax) (aN.mk Ac ab.ah.ag.length A1) ab.ah.bI ab.ah.cy ab.ah.bL) (aN.mk Ag ab.aI.length A5) (aN.mk Ak ab.bD.length A9) ab.dZ (aN.mk Ao ab.aq.length BC))))),(23,(vA (aa.cells (aa.mk 2590 2599)))),(24,(vT [(vA (bu.cells (bu.mk (bJ.mk (aZ.mk (aN.mk A ab.ah.aJ.length G)) ab.ah.dG (aN.mk B ab.ah.ai.length H) (aN.mk C ab.ah.ag.length Fd) ab.ah.bI ab.ah.cy ab.ah.bL) (aN.mk D ab.aI.length J) (aN.mk E ab.bD.length K) ab.dZ (aN.mk F ((dF ab.aq 0 2 (aa.mk 2590 2599)).length) L)))),(vI 0)])),(25,(vA (bu.cells (bu.mk (bJ.mk (aZ.mk (aN.mk A ab.ah.aJ.length G)) ab.ah.dG (aN.mk B ab.ah.ai.length H) (aN.mk C ab.ah.ag.length Fd) ab.ah.bI ab.ah.cy ab.ah.bL) (aN.mk D ab.aI.length J) (aN.mk E ab.bD.length K) ab.dZ (aN.mk F ((dF ab.aq 0 2 (aa.mk 2590 2599)).length) L))))),(26,(vI 0)),(27,(vT [(vS W ((bH eY).length) X),(vI (bY eY))])),(28,(vA (bu.cells (bu.mk (bJ.mk (aZ.mk (aN.mk A ab.ah.aJ.length G)) ab.ah.dG (aN.mk B ab.ah.ai.length H) (aN.mk C ab.ah.ag.length Fd) ab.ah.bI ab.ah.cy ab.ah.bL) (aN.mk D ab.aI.length J) (aN.mk E ab.bD.length K) ab.dZ (aN.mk F ((dF ab.aq 0 2 (aa.mk 2590 2599)).length) L))))),(29,(vT [(vS W ((bH eY).length) X),(vI (bY eY))])),(30,(vS W ((bH eY).length) X)),(31,(vI (bY eY))),(32,(vT [(vS M ((cx ab 0 2 (aa.mk 2590 2599)).length) N),(vI (dK ab 0 2 (aa.mk 2590 2599)))])),(33,(vA (bu.cells (bu.mk (bJ.mk (aZ.mk (aN.mk AV ab.ah.aJ.length Av)) ab.ah.dG (aN.mk AZ ab.ah.ai.length Ay) (aN.mk Ad ab.ah.ag.length A2) ab.ah.bI ab.ah.cy ab.ah.bL) (aN.mk Ah ab.aI.length A6) (aN.mk Al ab.bD.length A_) ab.dZ (aN.mk Ap ab.aq.length BD))))),(34,(vA (aa.cells (aa.mk 2590 2599)))),(35,(vT [(vS M ((cx ab 0 2 (aa.mk 2590 2599)).length) N),(vI (dK ab 0 2 (aa.mk 2590 2599)))])),(36,(vS M ((cx ab 0 2 (aa.mk 2590 2599)).length) N)),(37,(vI (dK ab 0 2 (aa.mk 2590 2599)))),(49,(vB true)),(50,(vA (bu.cells (bu.mk (bJ.mk (aZ.mk (aN.mk u ab.ah.aJ.length AG)) ab.ah.dG (aN.mk w ab.ah.ai.length AI) (aN.mk y ab.ah.ag.length AK) ab.ah.bI ab.ah.cy ab.ah.bL) (aN.mk AA ab.aI.length AN) (aN.mk AC ab.bD.length AP) ab.dZ (aN.mk AE ab.aq.length AR))))),(51,(vS (some ⟨d,0,none⟩) 2 2))]) (fun (u,AG,w,AI,l,y,AK,AA,AN,AC,AP,AE,AR,p,d)=>[(b_ d 3 [(vI 1),(vI 2)]),(own u AG 122 9 (ab.ah.aJ.map ao.cells)),(own w AI 127 2 (List.zipWith au.cells ab.ah.ai l)),(bp (aS au.owns ab.ah.ai l)),(own y AK 129 4 (ab.ah.ag.map bG.cells)),(own AA AN 3 1 (ab.aI.map iC)),(own AC AP 3 1 (ab.bD.map iC)),(own AE AR 47 1 (List.zipWith cD ab.aq p)),(bp (aS gR ab.aq p)),(own M N 3 1 ((cx ab 0 2 (aa.mk 2590 2599)).map iC)),(own W X 29 1 (List.zipWith j5 (bH eY) S)),(bp (aS nc (bH eY) S)),(b_ k 32 (bu.cells (bu.mk (bJ.mk (aZ.mk (aN.mk A ab.ah.aJ.length G)) ab.ah.dG (aN.mk B ab.ah.ai.length H) (aN.mk C ab.ah.ag.length Fd) ab.ah.bI ab.ah.cy ab.ah.bL) (aN.mk D ab.aI.length J) (aN.mk E ab.bD.length K) ab.dZ (aN.mk F ((dF ab.aq 0 2 (aa.mk 2590 2599)).length) L)))),(own A G 122 9 (ab.ah.aJ.map ao.cells)),(own B H 127 2 (List.zipWith au.cells ab.ah.ai P)),(bp (aS au.owns ab.ah.ai P)),(own C Fd 129 4 (ab.ah.ag.map bG.cells)),(own D J 3 1 (ab.aI.map iC)),(own E K 3 1 (ab.bD.map iC)),(own F L 47 1 (List.zipWith cD (dF ab.aq 0 2 (aa.mk 2590 2599)) R)),(bp (aS gR (dF ab.aq 0 2 (aa.mk 2590 2599)) R)),(own T Fc 29 1 (List.zipWith j5 (bH ab) O)),(bp (aS nc (bH ab) O)),(b_ f 38 (aa.cells (df ab 0 0))),(rd dD 3 2 dg).ro]) 60 [14,15,16,17,18,19,20,21,22,23,24,25,26,27,28,29,30,31,32,33,34,35,36,37,38,39,40,41,42,43,44,45,46,47,48,49,50,51,52,53,54,55,56,57,58,59,60,61,62,63,64,65,66,67,68,69,70,71,72,73] (fun hJ=>?_) ?_
 ·refine i_ [12,13] kr (eN ?_<|eN ?_<|kM)
  rotate_left 1
  ·refine NO U U [12,14,15,16,17,18,19,20,21,22,23,24,25,26,27,28,29,30,31,32,33,34,35,36,37,38,39,40,41,42,43,44,45,46,47,48,49,50,51,52,53,54,55,56,57,58,59,60,61,62,63,64,65,66,67,68,69,70,71,72,73] fun T162 Cw=>cf (t:=49) U (aP fun BP=>?_) (aQ fun BP=>?_)
   ·exact absurd (⟨lZ.1,lZ.2.1⟩) BP
   refine cZ (xs:=[.const (vI 1),.const (vI 2)]) (cs:=[(vI 1),(vI 2)]) U cJ jd U U U U (by simp [Value.cells]) U U fun EZ=>RD Cw 1 U<|N1 12<|NO U U [14,15,16,17,18,19,20,21,22,23,24,25,26,27,28,29,30,31,32,33,34,35,36,37,38,39,40,41,42,43,44,45,46,47,48,49,50,51,52,53,54,55,56,57,58,59,60,61,62,63,64,65,66,67,68,69,70,71,72,73] fun T164 Cx=>cX jn (aK) U fun FK EP=>?_
   obtain ⟨Bl,CN,Bq,CS,CF,Bv,CX,B1,Cc,B6,Ch,CA,Cm,EV⟩:=FK
   try dsimp only
   obtain ⟨Y,e,a⟩:=EP
   refine RD Cx 9 U ?_
   exact jK hJ (Bl,CN,Bq,CS,CF,Bv,CX,B1,Cc,B6,Ch,CA,Cm,EV,EZ) ⟨Y,e,a⟩ [8,0,1,2,3,4,5,6,7,9,10,11,12,13,14,15,16,17,18,19,20,21,22,23,24] U U U
  refine NO U U [13,14,15,16,17,18,19,20,21,22,23,24,25,26,27,28,29,30,31,32,33,34,35,36,37,38,39,40,41,42,43,44,45,46,47,48,49,50,51,52,53,54,55,56,57,58,59,60,61,62,63,64,65,66,67,68,69,70,71,72,73] fun T143 Cu=>cf (t:=49) U (aP fun BP=>?_) (aQ fun BP=>?_)
  ·exact absurd (⟨lZ.1,lZ.2.1⟩) BP
  refine cX jn (aK) U fun FJ EO=>?_
  obtain ⟨Bk,CK,Bp,CR,CE,Bu,CW,B0,Cb,B5,Cg,B_,Cl,EU⟩:=FJ
  try dsimp only
  obtain ⟨Y,e,a⟩:=EO
  refine RD Cu 8 U<|N1 13<|NO U U [14,15,16,17,18,19,20,21,22,23,24,25,26,27,28,29,30,31,32,33,34,35,36,37,38,39,40,41,42,43,44,45,46,47,48,49,50,51,52,53,54,55,56,57,58,59,60,61,62,63,64,65,66,67,68,69,70,71,72,73] fun T160 Cv=>cZ (xs:=[.const (vI 1),.const (vI 2)]) (cs:=[(vI 1),(vI 2)]) U cJ jd U U U U (by simp [Value.cells]) U U fun EY=>RD Cv 9 U ?_
  exact jK hJ (Bk,CK,Bp,CR,CE,Bu,CW,B0,Cb,B5,Cg,B_,Cl,EU,EY) ⟨Y,e,a⟩ [0,1,2,3,4,5,6,7,8,9,10,11,12,13,14,15,16,17,18,19,20,21,22,23,24] U U U
 rintro ⟨u,AG,w,AI,l,y,AK,AA,AN,AC,AP,AE,AR,p,d⟩ ⟨Y,e,a⟩
 try dsimp only
 refine N1 14<|NO U U [15,16,17,18,19,20,21,22,23,24,25,26,27,28,29,30,31,32,33,34,35,36,37,38,39,40,41,42,43,44,45,46,47,48,49,50,51,52,53,54,55,56,57,58,59,60,61,62,63,64,65,66,67,68,69,70,71,72,73] fun T181 Cy=>rS (CL (zu 0 ([1,2]) (some ⟨d,0,none⟩) 2 ab u AG l w AI y AK AA AN AC AP p AE AR (by exact Y) dc) (ay (a_ 0 U U (by simp [bK]) U)<|fK 24 U U<|ay (al (n:=ab.ah.aJ.length) 1 U sm)<|ay (al (n:=ab.ah.ai.length) 2 U (gZ e))<|ay (dR 3 U iY)<|ay (al (n:=ab.ah.ag.length) 4 U sm)<|ay (al (n:=ab.aI.length) 5 U sm)<|ay (al (n:=ab.bD.length) 6 U sm)<|ay (al (n:=ab.aq.length) 7 U (fw a.1))<|ay (hE 8 U a)<|aK) U)<|RD Cy 9 U<|N1 15<|NO U U [16,17,18,19,20,21,22,23,24,25,26,27,28,29,30,31,32,33,34,35,36,37,38,39,40,41,42,43,44,45,46,47,48,49,50,51,52,53,54,55,56,57,58,59,60,61,62,63,64,65,66,67,68,69,70,71,72,73] fun T182 Cz=>p_ (C1:=[(b_ d 3 [(vI 1),(vI 2)]),(own M N 3 1 ((cx ab 0 2 (aa.mk 2590 2599)).map iC)),(own W X 29 1 (List.zipWith j5 (bH eY) S)),(bp (aS nc (bH eY) S)),(b_ k 32 (bu.cells (bu.mk (bJ.mk (aZ.mk (aN.mk A ab.ah.aJ.length G)) ab.ah.dG (aN.mk B ab.ah.ai.length H) (aN.mk C ab.ah.ag.length Fd) ab.ah.bI ab.ah.cy ab.ah.bL) (aN.mk D ab.aI.length J) (aN.mk E ab.bD.length K) ab.dZ (aN.mk F ((dF ab.aq 0 2 (aa.mk 2590 2599)).length) L)))),(own A G 122 9 (ab.ah.aJ.map ao.cells)),(own B H 127 2 (List.zipWith au.cells ab.ah.ai P)),(bp (aS au.owns ab.ah.ai P)),(own C Fd 129 4 (ab.ah.ag.map bG.cells)),(own D J 3 1 (ab.aI.map iC)),(own E K 3 1 (ab.bD.map iC)),(own F L 47 1 (List.zipWith cD (dF ab.aq 0 2 (aa.mk 2590 2599)) R)),(bp (aS gR (dF ab.aq 0 2 (aa.mk 2590 2599)) R)),(own T Fc 29 1 (List.zipWith j5 (bH ab) O)),(bp (aS nc (bH ab) O)),(b_ f 38 (aa.cells (df ab 0 0))),(rd dD 3 2 dg)]) [0,9,10,11,12,13,14,15,16,17,18,19,20,21,22,23,24] U U<|rS (PK U)<|RD Cz 1 U<|N1 16<|NO U U [17,18,19,20,21,22,23,24,25,26,27,28,29,30,31,32,33,34,35,36,37,38,39,40,41,42,43,44,45,46,47,48,49,50,51,52,53,54,55,56,57,58,59,60,61,62,63,64,65,66,67,68,69,70,71,72,73] fun T183 C0=>rS (MV U)<|RD C0 1 U ?_
 refine w8 (V:=OA×Nat×OA×Nat×List RA×OA×Nat×OA×Nat×OA×Nat×OA×Nat×List cS×Nat) (fun (v,AH,x,AJ,o,z,AM,AB,AO,AD,AQ,AF,AS,q,g)=>fy ab o q∧o.length=ab.ah.ai.length∧sH ab.aq q) (fun (v,AH,x,AJ,o,z,AM,AB,AO,AD,AQ,AF,AS,q,g)=>[(1,(vP f)),(2,(vI (fR ab 0 0))),(3,(vS T ((bH ab).length) Fc)),(4,(vI (bY ab))),(5,(vP k)),(6,(vI 0)),(7,(vS W ((bH eY).length) X)),(8,(vI (bY eY))),(9,(vS M ((cx ab 0 2 (aa.mk 2590 2599)).length) N)),(10,(vI (dK ab 0 2 (aa.mk 2590 2599)))),(11,(vT [(vA (aa.cells (df ab 0 0))),(vI (fR ab 0 0))])),(12,(vA (bu.cells (bu.mk (bJ.mk (aZ.mk (aN.mk BK ab.ah.aJ.length BM)) ab.ah.dG (aN.mk BL ab.ah.ai.length BN) (aN.mk Aa ab.ah.ag.length Az) ab.ah.bI ab.ah.cy ab.ah.bL) (aN.mk Ae ab.aI.length A3) (aN.mk Ai ab.bD.length A7) ab.dZ (aN.mk Am ab.aq.length BA))))),(13,(vT [(vA (aa.cells (df ab 0 0))),(vI (fR ab 0 0))])),(14,(vA (aa.cells (df ab 0 0)))),(15,(vI (fR ab 0 0))),(16,(vT [(vS T ((bH ab).length) Fc),(vI (bY ab))])),(17,(vA (bu.cells (bu.mk (bJ.mk (aZ.mk (aN.mk AT ab.ah.aJ.length At)) ab.ah.dG (aN.mk AX ab.ah.ai.length Aw) (aN.mk Ab ab.ah.ag.length A0) ab.ah.bI ab.ah.cy ab.ah.bL) (aN.mk Af ab.aI.length A4) (aN.mk Aj ab.bD.length A8) ab.dZ (aN.mk An ab.aq.length BB))))),(18,(vT [(vS T ((bH ab).length) Fc),(vI (bY ab))])),(19,(vS T ((bH ab).length) Fc)),(20,(vI (bY ab))),(21,(vT [(vA (bu.cells (bu.mk (bJ.mk (aZ.mk (aN.mk A ab.ah.aJ.length G)) ab.ah.dG (aN.mk B ab.ah.ai.length H) (aN.mk C ab.ah.ag.length Fd) ab.ah.bI ab.ah.cy ab.ah.bL) (aN.mk D ab.aI.length J) (aN.mk E ab.bD.length K) ab.dZ (aN.mk F ((dF ab.aq 0 2 (aa.mk 2590 2599)).length) L)))),(vI 0)])),(22,(vA (bu.cells (bu.mk (bJ.mk (aZ.mk (aN.mk AU ab.ah.aJ.length Au)) ab.ah.dG (aN.mk AY ab.ah.ai.length Ax) (aN.mk Ac ab.ah.ag.length A1) ab.ah.bI ab.ah.cy ab.ah.bL) (aN.mk Ag ab.aI.length A5) (aN.mk Ak ab.bD.length A9) ab.dZ (aN.mk Ao ab.aq.length BC))))),(23,(vA (aa.cells (aa.mk 2590 2599)))),(24,(vT [(vA (bu.cells (bu.mk (bJ.mk (aZ.mk (aN.mk A ab.ah.aJ.length G)) ab.ah.dG (aN.mk B ab.ah.ai.length H) (aN.mk C ab.ah.ag.length Fd) ab.ah.bI ab.ah.cy ab.ah.bL) (aN.mk D ab.aI.length J) (aN.mk E ab.bD.length K) ab.dZ (aN.mk F ((dF ab.aq 0 2 (aa.mk 2590 2599)).length) L)))),(vI 0)])),(25,(vA (bu.cells (bu.mk (bJ.mk (aZ.mk (aN.mk A ab.ah.aJ.length G)) ab.ah.dG (aN.mk B ab.ah.ai.length H) (aN.mk C ab.ah.ag.length Fd) ab.ah.bI ab.ah.cy ab.ah.bL) (aN.mk D ab.aI.length J) (aN.mk E ab.bD.length K) ab.dZ (aN.mk F ((dF ab.aq 0 2 (aa.mk 2590 2599)).length) L))))),(26,(vI 0)),(27,(vT [(vS W ((bH eY).length) X),(vI (bY eY))])),(28,(vA (bu.cells (bu.mk (bJ.mk (aZ.mk (aN.mk A ab.ah.aJ.length G)) ab.ah.dG (aN.mk B ab.ah.ai.length H) (aN.mk C ab.ah.ag.length Fd) ab.ah.bI ab.ah.cy ab.ah.bL) (aN.mk D ab.aI.length J) (aN.mk E ab.bD.length K) ab.dZ (aN.mk F ((dF ab.aq 0 2 (aa.mk 2590 2599)).length) L))))),(29,(vT [(vS W ((bH eY).length) X),(vI (bY eY))])),(30,(vS W ((bH eY).length) X)),(31,(vI (bY eY))),(32,(vT [(vS M ((cx ab 0 2 (aa.mk 2590 2599)).length) N),(vI (dK ab 0 2 (aa.mk 2590 2599)))])),(33,(vA (bu.cells (bu.mk (bJ.mk (aZ.mk (aN.mk AV ab.ah.aJ.length Av)) ab.ah.dG (aN.mk AZ ab.ah.ai.length Ay) (aN.mk Ad ab.ah.ag.length A2) ab.ah.bI ab.ah.cy ab.ah.bL) (aN.mk Ah ab.aI.length A6) (aN.mk Al ab.bD.length A_) ab.dZ (aN.mk Ap ab.aq.length BD))))),(34,(vA (aa.cells (aa.mk 2590 2599)))),(35,(vT [(vS M ((cx ab 0 2 (aa.mk 2590 2599)).length) N),(vI (dK ab 0 2 (aa.mk 2590 2599)))])),(36,(vS M ((cx ab 0 2 (aa.mk 2590 2599)).length) N)),(37,(vI (dK ab 0 2 (aa.mk 2590 2599)))),(54,(vB true)),(55,(vA (bu.cells (bu.mk (bJ.mk (aZ.mk (aN.mk v ab.ah.aJ.length AH)) ab.ah.dG (aN.mk x ab.ah.ai.length AJ) (aN.mk z ab.ah.ag.length AM) ab.ah.bI ab.ah.cy ab.ah.bL) (aN.mk AB ab.aI.length AO) (aN.mk AD ab.bD.length AQ) ab.dZ (aN.mk AF ab.aq.length AS))))),(56,(vS (some ⟨g,0,none⟩) 2 2))]) (fun (v,AH,x,AJ,o,z,AM,AB,AO,AD,AQ,AF,AS,q,g)=>[(b_ g 3 [(vI 2),(vI 3)]),(own v AH 122 9 (ab.ah.aJ.map ao.cells)),(own x AJ 127 2 (List.zipWith au.cells ab.ah.ai o)),(bp (aS au.owns ab.ah.ai o)),(own z AM 129 4 (ab.ah.ag.map bG.cells)),(own AB AO 3 1 (ab.aI.map iC)),(own AD AQ 3 1 (ab.bD.map iC)),(own AF AS 47 1 (List.zipWith cD ab.aq q)),(bp (aS gR ab.aq q)),(b_ d 3 [(vI 1),(vI 2)]),(own M N 3 1 ((cx ab 0 2 (aa.mk 2590 2599)).map iC)),(own W X 29 1 (List.zipWith j5 (bH eY) S)),(bp (aS nc (bH eY) S)),(b_ k 32 (bu.cells (bu.mk (bJ.mk (aZ.mk (aN.mk A ab.ah.aJ.length G)) ab.ah.dG (aN.mk B ab.ah.ai.length H) (aN.mk C ab.ah.ag.length Fd) ab.ah.bI ab.ah.cy ab.ah.bL) (aN.mk D ab.aI.length J) (aN.mk E ab.bD.length K) ab.dZ (aN.mk F ((dF ab.aq 0 2 (aa.mk 2590 2599)).length) L)))),(own A G 122 9 (ab.ah.aJ.map ao.cells)),(own B H 127 2 (List.zipWith au.cells ab.ah.ai P)),(bp (aS au.owns ab.ah.ai P)),(own C Fd 129 4 (ab.ah.ag.map bG.cells)),(own D J 3 1 (ab.aI.map iC)),(own E K 3 1 (ab.bD.map iC)),(own F L 47 1 (List.zipWith cD (dF ab.aq 0 2 (aa.mk 2590 2599)) R)),(bp (aS gR (dF ab.aq 0 2 (aa.mk 2590 2599)) R)),(own T Fc 29 1 (List.zipWith j5 (bH ab) O)),(bp (aS nc (bH ab) O)),(b_ f 38 (aa.cells (df ab 0 0))),(rd dD 3 2 dg).ro]) 55 [19,20,21,22,23,24,25,26,27,28,29,30,31,32,33,34,35,36,37,38,39,40,41,42,43,44,45,46,47,48,49,50,51,52,53,54,55,56,57,58,59,60,61,62,63,64,65,66,67,68,69,70,71,72,73] (fun hJ=>?_) ?_
 ·refine i_ [17,18] kr (eN ?_<|eN ?_<|kM)
  rotate_left 1
  ·refine NO U U [17,19,20,21,22,23,24,25,26,27,28,29,30,31,32,33,34,35,36,37,38,39,40,41,42,43,44,45,46,47,48,49,50,51,52,53,54,55,56,57,58,59,60,61,62,63,64,65,66,67,68,69,70,71,72,73] fun T220 C4=>cf (t:=54) U (aP fun BQ=>?_) (aQ fun BQ=>?_)
   ·exact absurd (⟨lZ.1,lZ.2.2⟩) BQ
   refine cZ (xs:=[.const (vI 2),.const (vI 3)]) (cs:=[(vI 2),(vI 3)]) U cJ jd U U U U (by simp [Value.cells]) U U fun Eb=>RD C4 2 U<|N1 17<|NO U U [19,20,21,22,23,24,25,26,27,28,29,30,31,32,33,34,35,36,37,38,39,40,41,42,43,44,45,46,47,48,49,50,51,52,53,54,55,56,57,58,59,60,61,62,63,64,65,66,67,68,69,70,71,72,73] fun T222 C5=>cX jn (aK) U fun FM ER=>?_
   obtain ⟨Bn,CP,Bs,CU,CH,By,CZ,B3,Ce,B8,Cj,CC,Co,EX⟩:=FM
   try dsimp only
   obtain ⟨Y,e,a⟩:=ER
   refine RD C5 10 U ?_
   exact jK hJ (Bn,CP,Bs,CU,CH,By,CZ,B3,Ce,B8,Cj,CC,Co,EX,Eb) ⟨Y,e,a⟩ [8,0,1,2,3,4,5,6,7,9,10,11,12,13,14,15,16,17,18,19,20,21,22,23,24,25] U U U
  refine NO U U [18,19,20,21,22,23,24,25,26,27,28,29,30,31,32,33,34,35,36,37,38,39,40,41,42,43,44,45,46,47,48,49,50,51,52,53,54,55,56,57,58,59,60,61,62,63,64,65,66,67,68,69,70,71,72,73] fun T201 C2=>cf (t:=54) U (aP fun BQ=>?_) (aQ fun BQ=>?_)
  ·exact absurd (⟨lZ.1,lZ.2.2⟩) BQ
  refine cX jn (aK) U fun FL EQ=>?_
  obtain ⟨Bm,CO,Br,CT,CG,Bx,CY,B2,Cd,B7,Ci,CB,Cn,EW⟩:=FL
  try dsimp only
  obtain ⟨Y,e,a⟩:=EQ
  refine RD C2 9 U<|N1 18<|NO U U [19,20,21,22,23,24,25,26,27,28,29,30,31,32,33,34,35,36,37,38,39,40,41,42,43,44,45,46,47,48,49,50,51,52,53,54,55,56,57,58,59,60,61,62,63,64,65,66,67,68,69,70,71,72,73] fun T218 C3=>cZ (xs:=[.const (vI 2),.const (vI 3)]) (cs:=[(vI 2),(vI 3)]) U cJ jd U U U U (by simp [Value.cells]) U U fun Ea=>RD C3 10 U ?_
  exact jK hJ (Bm,CO,Br,CT,CG,Bx,CY,B2,Cd,B7,Ci,CB,Cn,EW,Ea) ⟨Y,e,a⟩ [0,1,2,3,4,5,6,7,8,9,10,11,12,13,14,15,16,17,18,19,20,21,22,23,24,25] U U U
 rintro ⟨v,AH,x,AJ,o,z,AM,AB,AO,AD,AQ,AF,AS,q,g⟩ ⟨Y,e,a⟩
 try dsimp only
 refine N1 19<|NO U U [20,21,22,23,24,25,26,27,28,29,30,31,32,33,34,35,36,37,38,39,40,41,42,43,44,45,46,47,48,49,50,51,52,53,54,55,56,57,58,59,60,61,62,63,64,65,66,67,68,69,70,71,72,73] fun T239 C6=>rS (CL (zu 2 ([2,3]) (some ⟨g,0,none⟩) 2 ab v AH o x AJ z AM AB AO AD AQ q AF AS (by exact Y) dc) (ay (a_ 0 U U (by simp [bK]) U)<|fK 25 U U<|ay (al (n:=ab.ah.aJ.length) 1 U sm)<|ay (al (n:=ab.ah.ai.length) 2 U (gZ e))<|ay (dR 3 U iY)<|ay (al (n:=ab.ah.ag.length) 4 U sm)<|ay (al (n:=ab.aI.length) 5 U sm)<|ay (al (n:=ab.bD.length) 6 U sm)<|ay (al (n:=ab.aq.length) 7 U (fw a.1))<|ay (hE 8 U a)<|aK) U)<|RD C6 10 U<|N1 20<|NO U U [21,22,23,24,25,26,27,28,29,30,31,32,33,34,35,36,37,38,39,40,41,42,43,44,45,46,47,48,49,50,51,52,53,54,55,56,57,58,59,60,61,62,63,64,65,66,67,68,69,70,71,72,73] fun T240 C7=>p_ (C1:=[(b_ g 3 [(vI 2),(vI 3)]),(b_ d 3 [(vI 1),(vI 2)]),(own M N 3 1 ((cx ab 0 2 (aa.mk 2590 2599)).map iC)),(own W X 29 1 (List.zipWith j5 (bH eY) S)),(bp (aS nc (bH eY) S)),(b_ k 32 (bu.cells (bu.mk (bJ.mk (aZ.mk (aN.mk A ab.ah.aJ.length G)) ab.ah.dG (aN.mk B ab.ah.ai.length H) (aN.mk C ab.ah.ag.length Fd) ab.ah.bI ab.ah.cy ab.ah.bL) (aN.mk D ab.aI.length J) (aN.mk E ab.bD.length K) ab.dZ (aN.mk F ((dF ab.aq 0 2 (aa.mk 2590 2599)).length) L)))),(own A G 122 9 (ab.ah.aJ.map ao.cells)),(own B H 127 2 (List.zipWith au.cells ab.ah.ai P)),(bp (aS au.owns ab.ah.ai P)),(own C Fd 129 4 (ab.ah.ag.map bG.cells)),(own D J 3 1 (ab.aI.map iC)),(own E K 3 1 (ab.bD.map iC)),(own F L 47 1 (List.zipWith cD (dF ab.aq 0 2 (aa.mk 2590 2599)) R)),(bp (aS gR (dF ab.aq 0 2 (aa.mk 2590 2599)) R)),(own T Fc 29 1 (List.zipWith j5 (bH ab) O)),(bp (aS nc (bH ab) O)),(b_ f 38 (aa.cells (df ab 0 0))),(rd dD 3 2 dg)]) [0,9,10,11,12,13,14,15,16,17,18,19,20,21,22,23,24,25] U U<|rS (PK U)<|RD C7 2 U<|N1 21<|NO U U [22,23,24,25,26,27,28,29,30,31,32,33,34,35,36,37,38,39,40,41,42,43,44,45,46,47,48,49,50,51,52,53,54,55,56,57,58,59,60,61,62,63,64,65,66,67,68,69,70,71,72,73] fun T241 C8=>rS (MV U)<|RD C8 2 U<|N1 22<|NO U U [23,24,25,26,27,28,29,30,31,32,33,34,35,36,37,38,39,40,41,42,43,44,45,46,47,48,49,50,51,52,53,54,55,56,57,58,59,60,61,62,63,64,65,66,67,68,69,70,71,72,73] fun T242 C9=>cf (t:=59) U (aP fun Ew=>?_) (aQ fun Ew=>?_)
 ·exact absurd (⟨AW.1,AW.2.2⟩) Ew
 refine rS (CL (CJ 1 2 2 0) (bh [17]) U)<|RD C9 2 U<|N1 23<|NO U U [24,25,26,27,28,29,30,31,32,33,34,35,36,37,38,39,40,41,42,43,44,45,46,47,48,49,50,51,52,53,54,55,56,57,58,59,60,61,62,63,64,65,66,67,68,69,70,71,72,73] fun T243 C_=>rS (PK U)<|RD C_ 2 U<|N1 24<|NO U U [25,26,27,28,29,30,31,32,33,34,35,36,37,38,39,40,41,42,43,44,45,46,47,48,49,50,51,52,53,54,55,56,57,58,59,60,61,62,63,64,65,66,67,68,69,70,71,72,73] fun T244 DA=>rS (MV U)<|RD DA 2 U<|N1 25<|NO U U [26,27,28,29,30,31,32,33,34,35,36,37,38,39,40,41,42,43,44,45,46,47,48,49,50,51,52,53,54,55,56,57,58,59,60,61,62,63,64,65,66,67,68,69,70,71,72,73] fun T245 DB=>cf (t:=62) U (aP fun Ex=>?_) (aQ fun Ex=>?_)
 ·exact absurd (⟨⟨⟨zK.1,zK.2.1⟩,zK.1⟩,zK.2.2⟩) Ex
 refine rS (CL (CJ 0 1 0 1) (bh [17]) U)<|RD DB 2 U<|N1 26<|NO U U [27,28,29,30,31,32,33,34,35,36,37,38,39,40,41,42,43,44,45,46,47,48,49,50,51,52,53,54,55,56,57,58,59,60,61,62,63,64,65,66,67,68,69,70,71,72,73] fun T246 DC=>rS (PK U)<|RD DC 2 U<|N1 27<|NO U U [28,29,30,31,32,33,34,35,36,37,38,39,40,41,42,43,44,45,46,47,48,49,50,51,52,53,54,55,56,57,58,59,60,61,62,63,64,65,66,67,68,69,70,71,72,73] fun T247 DD=>rS (MV U)<|RD DD 2 U<|N1 28<|NO U U [29,30,31,32,33,34,35,36,37,38,39,40,41,42,43,44,45,46,47,48,49,50,51,52,53,54,55,56,57,58,59,60,61,62,63,64,65,66,67,68,69,70,71,72,73] fun T248 DE=>cf (t:=65) U (aP fun Ey=>?_) (aQ fun Ey=>?_)
 ·exact absurd (⟨⟨⟨zP.1,zP.2.1⟩,zP.1⟩,zP.2.2⟩) Ey
 refine rS (MV U)<|RD DE 2 U<|N1 29<|NO U U [30,31,32,33,34,35,36,37,38,39,40,41,42,43,44,45,46,47,48,49,50,51,52,53,54,55,56,57,58,59,60,61,62,63,64,65,66,67,68,69,70,71,72,73] fun T249 DF=>rS (BI U l8)<|RD DF 2 U<|N1 30<|NO U U [31,32,33,34,35,36,37,38,39,40,41,42,43,44,45,46,47,48,49,50,51,52,53,54,55,56,57,58,59,60,61,62,63,64,65,66,67,68,69,70,71,72,73] fun T250 DG=>rS (PK U)<|RD DG 2 U<|N1 31<|NO U U [32,33,34,35,36,37,38,39,40,41,42,43,44,45,46,47,48,49,50,51,52,53,54,55,56,57,58,59,60,61,62,63,64,65,66,67,68,69,70,71,72,73] fun T251 DH=>rS (MV U)<|RD DH 2 U ?_
 refine w8 (V:=Nat×Nat) (fun (Z,j)=>True) (fun (Z,j)=>[(1,(vP f)),(2,(vI (fR ab 0 0))),(3,(vS T ((bH ab).length) Fc)),(4,(vI (bY ab))),(5,(vP k)),(6,(vI 0)),(7,(vS W ((bH eY).length) X)),(8,(vI (bY eY))),(9,(vS M ((cx ab 0 2 (aa.mk 2590 2599)).length) N)),(10,(vI (dK ab 0 2 (aa.mk 2590 2599)))),(11,(vT [(vA (aa.cells (df ab 0 0))),(vI (fR ab 0 0))])),(12,(vA (bu.cells (bu.mk (bJ.mk (aZ.mk (aN.mk BK ab.ah.aJ.length BM)) ab.ah.dG (aN.mk BL ab.ah.ai.length BN) (aN.mk Aa ab.ah.ag.length Az) ab.ah.bI ab.ah.cy ab.ah.bL) (aN.mk Ae ab.aI.length A3) (aN.mk Ai ab.bD.length A7) ab.dZ (aN.mk Am ab.aq.length BA))))),(13,(vT [(vA (aa.cells (df ab 0 0))),(vI (fR ab 0 0))])),(14,(vA (aa.cells (df ab 0 0)))),(15,(vI (fR ab 0 0))),(16,(vT [(vS T ((bH ab).length) Fc),(vI (bY ab))])),(17,(vA (bu.cells (bu.mk (bJ.mk (aZ.mk (aN.mk AT ab.ah.aJ.length At)) ab.ah.dG (aN.mk AX ab.ah.ai.length Aw) (aN.mk Ab ab.ah.ag.length A0) ab.ah.bI ab.ah.cy ab.ah.bL) (aN.mk Af ab.aI.length A4) (aN.mk Aj ab.bD.length A8) ab.dZ (aN.mk An ab.aq.length BB))))),(18,(vT [(vS T ((bH ab).length) Fc),(vI (bY ab))])),(19,(vS T ((bH ab).length) Fc)),(20,(vI (bY ab))),(21,(vT [(vA (bu.cells (bu.mk (bJ.mk (aZ.mk (aN.mk A ab.ah.aJ.length G)) ab.ah.dG (aN.mk B ab.ah.ai.length H) (aN.mk C ab.ah.ag.length Fd) ab.ah.bI ab.ah.cy ab.ah.bL) (aN.mk D ab.aI.length J) (aN.mk E ab.bD.length K) ab.dZ (aN.mk F ((dF ab.aq 0 2 (aa.mk 2590 2599)).length) L)))),(vI 0)])),(22,(vA (bu.cells (bu.mk (bJ.mk (aZ.mk (aN.mk AU ab.ah.aJ.length Au)) ab.ah.dG (aN.mk AY ab.ah.ai.length Ax) (aN.mk Ac ab.ah.ag.length A1) ab.ah.bI ab.ah.cy ab.ah.bL) (aN.mk Ag ab.aI.length A5) (aN.mk Ak ab.bD.length A9) ab.dZ (aN.mk Ao ab.aq.length BC))))),(23,(vA (aa.cells (aa.mk 2590 2599)))),(24,(vT [(vA (bu.cells (bu.mk (bJ.mk (aZ.mk (aN.mk A ab.ah.aJ.length G)) ab.ah.dG (aN.mk B ab.ah.ai.length H) (aN.mk C ab.ah.ag.length Fd) ab.ah.bI ab.ah.cy ab.ah.bL) (aN.mk D ab.aI.length J) (aN.mk E ab.bD.length K) ab.dZ (aN.mk F ((dF ab.aq 0 2 (aa.mk 2590 2599)).length) L)))),(vI 0)])),(25,(vA (bu.cells (bu.mk (bJ.mk (aZ.mk (aN.mk A ab.ah.aJ.length G)) ab.ah.dG (aN.mk B ab.ah.ai.length H) (aN.mk C ab.ah.ag.length Fd) ab.ah.bI ab.ah.cy ab.ah.bL) (aN.mk D ab.aI.length J) (aN.mk E ab.bD.length K) ab.dZ (aN.mk F ((dF ab.aq 0 2 (aa.mk 2590 2599)).length) L))))),(26,(vI 0)),(27,(vT [(vS W ((bH eY).length) X),(vI (bY eY))])),(28,(vA (bu.cells (bu.mk (bJ.mk (aZ.mk (aN.mk A ab.ah.aJ.length G)) ab.ah.dG (aN.mk B ab.ah.ai.length H) (aN.mk C ab.ah.ag.length Fd) ab.ah.bI ab.ah.cy ab.ah.bL) (aN.mk D ab.aI.length J) (aN.mk E ab.bD.length K) ab.dZ (aN.mk F ((dF ab.aq 0 2 (aa.mk 2590 2599)).length) L))))),(29,(vT [(vS W ((bH eY).length) X),(vI (bY eY))])),(30,(vS W ((bH eY).length) X)),(31,(vI (bY eY))),(32,(vT [(vS M ((cx ab 0 2 (aa.mk 2590 2599)).length) N),(vI (dK ab 0 2 (aa.mk 2590 2599)))])),(33,(vA (bu.cells (bu.mk (bJ.mk (aZ.mk (aN.mk AV ab.ah.aJ.length Av)) ab.ah.dG (aN.mk AZ ab.ah.ai.length Ay) (aN.mk Ad ab.ah.ag.length A2) ab.ah.bI ab.ah.cy ab.ah.bL) (aN.mk Ah ab.aI.length A6) (aN.mk Al ab.bD.length A_) ab.dZ (aN.mk Ap ab.aq.length BD))))),(34,(vA (aa.cells (aa.mk 2590 2599)))),(35,(vT [(vS M ((cx ab 0 2 (aa.mk 2590 2599)).length) N),(vI (dK ab 0 2 (aa.mk 2590 2599)))])),(36,(vS M ((cx ab 0 2 (aa.mk 2590 2599)).length) N)),(37,(vI (dK ab 0 2 (aa.mk 2590 2599)))),(69,(vB true)),(70,(vS T ((bH ab).length) Fc)),(71,(vS (some ⟨Z,0,none⟩) 3 3)),(72,(vS (some ⟨j,0,none⟩) 1 1))]) (fun (Z,j)=>[(b_ j 29 [(vS (some ⟨Z,0,none⟩) 3 3)]),(b_ Z 3 [(vI 0),(vI 1),(vI 2)]),(b_ g 3 [(vI 2),(vI 3)]),(b_ d 3 [(vI 1),(vI 2)]),(own M N 3 1 ((cx ab 0 2 (aa.mk 2590 2599)).map iC)),(own W X 29 1 (List.zipWith j5 (bH eY) S)),(bp (aS nc (bH eY) S)),(b_ k 32 (bu.cells (bu.mk (bJ.mk (aZ.mk (aN.mk A ab.ah.aJ.length G)) ab.ah.dG (aN.mk B ab.ah.ai.length H) (aN.mk C ab.ah.ag.length Fd) ab.ah.bI ab.ah.cy ab.ah.bL) (aN.mk D ab.aI.length J) (aN.mk E ab.bD.length K) ab.dZ (aN.mk F ((dF ab.aq 0 2 (aa.mk 2590 2599)).length) L)))),(own A G 122 9 (ab.ah.aJ.map ao.cells)),(own B H 127 2 (List.zipWith au.cells ab.ah.ai P)),(bp (aS au.owns ab.ah.ai P)),(own C Fd 129 4 (ab.ah.ag.map bG.cells)),(own D J 3 1 (ab.aI.map iC)),(own E K 3 1 (ab.bD.map iC)),(own F L 47 1 (List.zipWith cD (dF ab.aq 0 2 (aa.mk 2590 2599)) R)),(bp (aS gR (dF ab.aq 0 2 (aa.mk 2590 2599)) R)),(own T Fc 29 1 (List.zipWith j5 (bH ab) O)),(bp (aS nc (bH ab) O)),(b_ f 38 (aa.cells (df ab 0 0))),(rd dD 3 2 dg).ro]) 39 [35,36,37,38,39,40,41,42,43,44,45,46,47,48,49,50,51,52,53,54,55,56,57,58,59,60,61,62,63,64,65,66,67,68,69,70,71,72,73] (fun hJ=>?_) ?_
 ·refine i_ [32,33] kr (eN ?_<|eN ?_<|kM)
  ·refine NO U U [33,34,35,36,37,38,39,40,41,42,43,44,45,46,47,48,49,50,51,52,53,54,55,56,57,58,59,60,61,62,63,64,65,66,67,68,69,70,71,72,73] fun T254 DI=>cf (t:=69) U (aP fun BR=>?_) (aQ fun BR=>?_)
   ·exact absurd (qi) BR
   refine rS (MV U)<|RD DI 2 U<|N1 33<|NO U U [34,35,36,37,38,39,40,41,42,43,44,45,46,47,48,49,50,51,52,53,54,55,56,57,58,59,60,61,62,63,64,65,66,67,68,69,70,71,72,73] fun T255 DJ=>cZ (xs:=[.const (vI 0),.const (vI 1),.const (vI 2)]) (cs:=[(vI 0),(vI 1),(vI 2)]) U cJ jd U U U U (by simp [Value.cells]) U U fun BV=>RD DJ 3 U<|N1 34<|NO U U [35,36,37,38,39,40,41,42,43,44,45,46,47,48,49,50,51,52,53,54,55,56,57,58,59,60,61,62,63,64,65,66,67,68,69,70,71,72,73] fun T257 DK=>cZ (xs:=[.tmp 71]) (cs:=[(vS (some ⟨BV,0,none⟩) 3 3)]) U pC vl U U U U (by simp [Value.cells]) U U fun Ec=>RD DK 4 U ?_
   exact jK hJ (BV,Ec) trivial [0,1,2,3,4,5,6,7,8,9,10,11,12,13,14,15,16,17,18,19] U U U
  refine NO U U [32,34,35,36,37,38,39,40,41,42,43,44,45,46,47,48,49,50,51,52,53,54,55,56,57,58,59,60,61,62,63,64,65,66,67,68,69,70,71,72,73] fun T259 DL=>cf (t:=69) U (aP fun BR=>?_) (aQ fun BR=>?_)
  ·exact absurd (qi) BR
  refine cZ (xs:=[.const (vI 0),.const (vI 1),.const (vI 2)]) (cs:=[(vI 0),(vI 1),(vI 2)]) U cJ jd U U U U (by simp [Value.cells]) U U fun BF=>RD DL 3 U<|i_ [32,34] kr (eN ?_<|eN ?_<|kM)
  rotate_left 1
  ·refine NO U U [32,35,36,37,38,39,40,41,42,43,44,45,46,47,48,49,50,51,52,53,54,55,56,57,58,59,60,61,62,63,64,65,66,67,68,69,70,71,72,73] fun T264 DO=>cZ (xs:=[.tmp 71]) (cs:=[(vS (some ⟨BF,0,none⟩) 3 3)]) U pC vl U U U U (by simp [Value.cells]) U U fun Ee=>RD DO 4 U<|N1 32<|NO U U [35,36,37,38,39,40,41,42,43,44,45,46,47,48,49,50,51,52,53,54,55,56,57,58,59,60,61,62,63,64,65,66,67,68,69,70,71,72,73] fun T266 DP=>rS (MV U)<|RD DP 4 U ?_
   exact jK hJ (BF,Ee) trivial [0,1,2,3,4,5,6,7,8,9,10,11,12,13,14,15,16,17,18,19] U U U
  refine NO U U [34,35,36,37,38,39,40,41,42,43,44,45,46,47,48,49,50,51,52,53,54,55,56,57,58,59,60,61,62,63,64,65,66,67,68,69,70,71,72,73] fun T261 DM=>rS (MV U)<|RD DM 3 U<|N1 34<|NO U U [35,36,37,38,39,40,41,42,43,44,45,46,47,48,49,50,51,52,53,54,55,56,57,58,59,60,61,62,63,64,65,66,67,68,69,70,71,72,73] fun T262 DN=>cZ (xs:=[.tmp 71]) (cs:=[(vS (some ⟨BF,0,none⟩) 3 3)]) U pC vl U U U U (by simp [Value.cells]) U U fun Ed=>RD DN 4 U ?_
  exact jK hJ (BF,Ed) trivial [0,1,2,3,4,5,6,7,8,9,10,11,12,13,14,15,16,17,18,19] U U U
 rintro ⟨Z,j⟩-
 try dsimp only
 refine N1 35<|NO U U [36,37,38,39,40,41,42,43,44,45,46,47,48,49,50,51,52,53,54,55,56,57,58,59,60,61,62,63,64,65,66,67,68,69,70,71,72,73] fun T267 DQ=>?_
 refine dY (es:=(([0,1,2]:List Int).map iC)) (C':=[_,(own (some ⟨Z,0,none⟩) 3 3 1 (([0,1,2]:List Int).map iC)),_,_,_,_,_,_,_,_,_,_,_,_,_,_,_,_,_,_]) 1 U (mJ bK _) U (by show _≤maxLen; exact Nat.le_trans (m:=10) (show (3:Nat)≤10 by decide) dc) U ?_
 refine dY (es:=(List.zipWith j5 [([0,1,2]:List Int)] [((some ⟨Z,0,none⟩),3)])) (C':=[(own (some ⟨j,0,none⟩) 1 29 1 (List.zipWith j5 [([0,1,2]:List Int)] [((some ⟨Z,0,none⟩),3)])),_,_,_,_,_,_,_,_,_,_,_,_,_,_,_,_,_,_,_]) 0 U (oJ I0) U (by show _≤maxLen; exact Nat.le_trans (m:=10) (show (1:Nat)≤10 by decide) dc) U ?_
 refine vZ (C1:=[(own (some ⟨j,0,none⟩) 1 29 1 (List.zipWith j5 [([0,1,2]:List Int)] [((some ⟨Z,0,none⟩),3)])),(b_ g 3 [(vI 2),(vI 3)]),(b_ d 3 [(vI 1),(vI 2)]),(own M N 3 1 ((cx ab 0 2 (aa.mk 2590 2599)).map iC)),(own W X 29 1 (List.zipWith j5 (bH eY) S)),(bp (aS nc (bH eY) S)),(b_ k 32 (bu.cells (bu.mk (bJ.mk (aZ.mk (aN.mk A ab.ah.aJ.length G)) ab.ah.dG (aN.mk B ab.ah.ai.length H) (aN.mk C ab.ah.ag.length Fd) ab.ah.bI ab.ah.cy ab.ah.bL) (aN.mk D ab.aI.length J) (aN.mk E ab.bD.length K) ab.dZ (aN.mk F ((dF ab.aq 0 2 (aa.mk 2590 2599)).length) L)))),(own A G 122 9 (ab.ah.aJ.map ao.cells)),(own B H 127 2 (List.zipWith au.cells ab.ah.ai P)),(bp (aS au.owns ab.ah.ai P)),(own C Fd 129 4 (ab.ah.ag.map bG.cells)),(own D J 3 1 (ab.aI.map iC)),(own E K 3 1 (ab.bD.map iC)),(own F L 47 1 (List.zipWith cD (dF ab.aq 0 2 (aa.mk 2590 2599)) R)),(bp (aS gR (dF ab.aq 0 2 (aa.mk 2590 2599)) R)),(own T Fc 29 1 (List.zipWith j5 (bH ab) O)),(bp (aS nc (bH ab) O)),(b_ f 38 (aa.cells (df ab 0 0))),(rd dD 3 2 dg)]) (aS nc [([0,1,2]:List Int)] [((some ⟨Z,0,none⟩),3)]) [1,0,2,3,4,5,6,7,8,9,10,11,12,13,14,15,16,17,18,19] U U<|rS (CL (u7 (bH ab) ([([0,1,2]:List Int)]) O T Fc ([((some ⟨Z,0,none⟩),3)]) (some ⟨j,0,none⟩) 1 (by first|exact BU.1|exact BJ.1) dc (by first|exact BU.2|exact BJ.2) dc (by exact Bf) (by rfl)) (ay (al (n:=(bH ab).length) 16 U (k6 Bf))<|ay (dR 17 U F2)<|ay (al (n:=([([0,1,2]:List Int)]).length) 1 U sm)<|ay (dR 0 U F2)<|aK) U)<|RD DQ 4 U<|N1 36<|NO U U [37,38,39,40,41,42,43,44,45,46,47,48,49,50,51,52,53,54,55,56,57,58,59,60,61,62,63,64,65,66,67,68,69,70,71,72,73] fun T268 DR=>rS (PK U)<|RD DR 4 U<|N1 37<|NO U U [38,39,40,41,42,43,44,45,46,47,48,49,50,51,52,53,54,55,56,57,58,59,60,61,62,63,64,65,66,67,68,69,70,71,72,73] fun T269 DS=>rS (MV U)<|RD DS 4 U<|N1 38<|NO U U [39,40,41,42,43,44,45,46,47,48,49,50,51,52,53,54,55,56,57,58,59,60,61,62,63,64,65,66,67,68,69,70,71,72,73] fun T270 DT=>cf (t:=75) U (aP fun Ez=>?_) (aQ fun Ez=>?_)
 ·exact absurd (Ng) Ez
 refine rS (MV U)<|RD DT 4 U<|N1 39<|NO U U [40,41,42,43,44,45,46,47,48,49,50,51,52,53,54,55,56,57,58,59,60,61,62,63,64,65,66,67,68,69,70,71,72,73] fun T271 DU=>rS (SX (cb (r:= .bool true) U U U l8) U U)<|RD DU 4 U<|N1 40<|NO U U [41,42,43,44,45,46,47,48,49,50,51,52,53,54,55,56,57,58,59,60,61,62,63,64,65,66,67,68,69,70,71,72,73] fun T272 DV=>rS (PK U)<|RD DV 4 U<|N1 41<|NO U U [42,43,44,45,46,47,48,49,50,51,52,53,54,55,56,57,58,59,60,61,62,63,64,65,66,67,68,69,70,71,72,73] fun T273 DW=>rS (MV U)<|RD DW 4 U<|N1 42<|NO U U [43,44,45,46,47,48,49,50,51,52,53,54,55,56,57,58,59,60,61,62,63,64,65,66,67,68,69,70,71,72,73] fun T274 DX=>rS (LW 7 U cm U U)<|RD DX 4 U<|N1 43<|NO U U [44,45,46,47,48,49,50,51,52,53,54,55,56,57,58,59,60,61,62,63,64,65,66,67,68,69,70,71,72,73] fun T275 DY=>?_
 refine rS (CL (yp 2 516 516 eY A G P B H C Fd D J E K R F L (by exact Bh)) (fK 19 U U<|ay (al (n:=ab.ah.aJ.length) 8 U (by rw [List.length_map]; rfl))<|ay (al (n:=ab.ah.ai.length) 9 U (gZ BT))<|ay (dR 10 U iY)<|ay (al (n:=ab.ah.ag.length) 11 U (by rw [List.length_map]; rfl))<|ay (al (n:=ab.aI.length) 12 U (by rw [List.length_map]; rfl))<|ay (al (n:=ab.bD.length) 13 U (by rw [List.length_map]; rfl))<|ay (al (n:=(dF ab.aq 0 2 (aa.mk 2590 2599)).length) 14 U (fw BO.1))<|ay (hE 15 U BO)<|aK) U) ?_
 refine RD DY 4 U<|N1 44<|NO U U [45,46,47,48,49,50,51,52,53,54,55,56,57,58,59,60,61,62,63,64,65,66,67,68,69,70,71,72,73] fun T276 DZ=>rS (PK U)<|RD DZ 4 U<|N1 45<|NO U U [46,47,48,49,50,51,52,53,54,55,56,57,58,59,60,61,62,63,64,65,66,67,68,69,70,71,72,73] fun T277 Da=>rS (MV U)<|RD Da 4 U<|N1 46<|NO U U [47,48,49,50,51,52,53,54,55,56,57,58,59,60,61,62,63,64,65,66,67,68,69,70,71,72,73] fun T278 Db=>cf (t:=83) U (aP fun E0=>?_) (aQ fun E0=>?_)
 ·exact absurd (Lc) E0
 refine rS (MV U)<|RD Db 4 U<|N1 47<|NO U U [48,49,50,51,52,53,54,55,56,57,58,59,60,61,62,63,64,65,66,67,68,69,70,71,72,73] fun T279 Dc=>rS (BI U l8)<|RD Dc 4 U<|N1 48<|NO U U [49,50,51,52,53,54,55,56,57,58,59,60,61,62,63,64,65,66,67,68,69,70,71,72,73] fun T280 Dd=>rS (PK U)<|RD Dd 4 U<|N1 49<|NO U U [50,51,52,53,54,55,56,57,58,59,60,61,62,63,64,65,66,67,68,69,70,71,72,73] fun T281 De=>rS (MV U)<|RD De 4 U ?_
 refine w8 (V:=Nat×Nat×Nat) (fun (b,c,s)=>True) (fun (b,c,s)=>[(1,(vP f)),(2,(vI (fR ab 0 0))),(3,(vS T ((bH ab).length) Fc)),(4,(vI (bY ab))),(5,(vP k)),(6,(vI 0)),(7,(vS W ((bH eY).length) X)),(8,(vI (bY eY))),(9,(vS M ((cx ab 0 2 (aa.mk 2590 2599)).length) N)),(10,(vI (dK ab 0 2 (aa.mk 2590 2599)))),(11,(vT [(vA (aa.cells (df ab 0 0))),(vI (fR ab 0 0))])),(12,(vA (bu.cells (bu.mk (bJ.mk (aZ.mk (aN.mk BK ab.ah.aJ.length BM)) ab.ah.dG (aN.mk BL ab.ah.ai.length BN) (aN.mk Aa ab.ah.ag.length Az) ab.ah.bI ab.ah.cy ab.ah.bL) (aN.mk Ae ab.aI.length A3) (aN.mk Ai ab.bD.length A7) ab.dZ (aN.mk Am ab.aq.length BA))))),(13,(vT [(vA (aa.cells (df ab 0 0))),(vI (fR ab 0 0))])),(14,(vA (aa.cells (df ab 0 0)))),(15,(vI (fR ab 0 0))),(16,(vT [(vS T ((bH ab).length) Fc),(vI (bY ab))])),(17,(vA (bu.cells (bu.mk (bJ.mk (aZ.mk (aN.mk AT ab.ah.aJ.length At)) ab.ah.dG (aN.mk AX ab.ah.ai.length Aw) (aN.mk Ab ab.ah.ag.length A0) ab.ah.bI ab.ah.cy ab.ah.bL) (aN.mk Af ab.aI.length A4) (aN.mk Aj ab.bD.length A8) ab.dZ (aN.mk An ab.aq.length BB))))),(18,(vT [(vS T ((bH ab).length) Fc),(vI (bY ab))])),(19,(vS T ((bH ab).length) Fc)),(20,(vI (bY ab))),(21,(vT [(vA (bu.cells (bu.mk (bJ.mk (aZ.mk (aN.mk A ab.ah.aJ.length G)) ab.ah.dG (aN.mk B ab.ah.ai.length H) (aN.mk C ab.ah.ag.length Fd) ab.ah.bI ab.ah.cy ab.ah.bL) (aN.mk D ab.aI.length J) (aN.mk E ab.bD.length K) ab.dZ (aN.mk F ((dF ab.aq 0 2 (aa.mk 2590 2599)).length) L)))),(vI 0)])),(22,(vA (bu.cells (bu.mk (bJ.mk (aZ.mk (aN.mk AU ab.ah.aJ.length Au)) ab.ah.dG (aN.mk AY ab.ah.ai.length Ax) (aN.mk Ac ab.ah.ag.length A1) ab.ah.bI ab.ah.cy ab.ah.bL) (aN.mk Ag ab.aI.length A5) (aN.mk Ak ab.bD.length A9) ab.dZ (aN.mk Ao ab.aq.length BC))))),(23,(vA (aa.cells (aa.mk 2590 2599)))),(24,(vT [(vA (bu.cells (bu.mk (bJ.mk (aZ.mk (aN.mk A ab.ah.aJ.length G)) ab.ah.dG (aN.mk B ab.ah.ai.length H) (aN.mk C ab.ah.ag.length Fd) ab.ah.bI ab.ah.cy ab.ah.bL) (aN.mk D ab.aI.length J) (aN.mk E ab.bD.length K) ab.dZ (aN.mk F ((dF ab.aq 0 2 (aa.mk 2590 2599)).length) L)))),(vI 0)])),(25,(vA (bu.cells (bu.mk (bJ.mk (aZ.mk (aN.mk A ab.ah.aJ.length G)) ab.ah.dG (aN.mk B ab.ah.ai.length H) (aN.mk C ab.ah.ag.length Fd) ab.ah.bI ab.ah.cy ab.ah.bL) (aN.mk D ab.aI.length J) (aN.mk E ab.bD.length K) ab.dZ (aN.mk F ((dF ab.aq 0 2 (aa.mk 2590 2599)).length) L))))),(26,(vI 0)),(27,(vT [(vS W ((bH eY).length) X),(vI (bY eY))])),(28,(vA (bu.cells (bu.mk (bJ.mk (aZ.mk (aN.mk A ab.ah.aJ.length G)) ab.ah.dG (aN.mk B ab.ah.ai.length H) (aN.mk C ab.ah.ag.length Fd) ab.ah.bI ab.ah.cy ab.ah.bL) (aN.mk D ab.aI.length J) (aN.mk E ab.bD.length K) ab.dZ (aN.mk F ((dF ab.aq 0 2 (aa.mk 2590 2599)).length) L))))),(29,(vT [(vS W ((bH eY).length) X),(vI (bY eY))])),(30,(vS W ((bH eY).length) X)),(31,(vI (bY eY))),(32,(vT [(vS M ((cx ab 0 2 (aa.mk 2590 2599)).length) N),(vI (dK ab 0 2 (aa.mk 2590 2599)))])),(33,(vA (bu.cells (bu.mk (bJ.mk (aZ.mk (aN.mk AV ab.ah.aJ.length Av)) ab.ah.dG (aN.mk AZ ab.ah.ai.length Ay) (aN.mk Ad ab.ah.ag.length A2) ab.ah.bI ab.ah.cy ab.ah.bL) (aN.mk Ah ab.aI.length A6) (aN.mk Al ab.bD.length A_) ab.dZ (aN.mk Ap ab.aq.length BD))))),(34,(vA (aa.cells (aa.mk 2590 2599)))),(35,(vT [(vS M ((cx ab 0 2 (aa.mk 2590 2599)).length) N),(vI (dK ab 0 2 (aa.mk 2590 2599)))])),(36,(vS M ((cx ab 0 2 (aa.mk 2590 2599)).length) N)),(37,(vI (dK ab 0 2 (aa.mk 2590 2599)))),(71,(vS (some ⟨Z,0,none⟩) 3 3)),(87,(vB true)),(88,(vS W ((bH eY).length) X)),(89,(vS (some ⟨b,0,none⟩) 2 2)),(90,(vS (some ⟨c,0,none⟩) 1 1)),(91,(vS (some ⟨s,0,none⟩) 2 2))]) (fun (b,c,s)=>[(b_ s 29 [(vS (some ⟨b,0,none⟩) 2 2),(vS (some ⟨c,0,none⟩) 1 1)]),(b_ c 3 [(vI 2)]),(b_ b 3 [(vI 0),(vI 1)]),(bp (aS nc [([0,1,2]:List Int)] [((some ⟨Z,0,none⟩),3)])),(own (some ⟨j,0,none⟩) 1 29 1 (List.zipWith j5 [([0,1,2]:List Int)] [((some ⟨Z,0,none⟩),3)])),(b_ g 3 [(vI 2),(vI 3)]),(b_ d 3 [(vI 1),(vI 2)]),(own M N 3 1 ((cx ab 0 2 (aa.mk 2590 2599)).map iC)),(own W X 29 1 (List.zipWith j5 (bH eY) S)),(bp (aS nc (bH eY) S)),(b_ k 32 (bu.cells (bu.mk (bJ.mk (aZ.mk (aN.mk A ab.ah.aJ.length G)) ab.ah.dG (aN.mk B ab.ah.ai.length H) (aN.mk C ab.ah.ag.length Fd) ab.ah.bI ab.ah.cy ab.ah.bL) (aN.mk D ab.aI.length J) (aN.mk E ab.bD.length K) ab.dZ (aN.mk F ((dF ab.aq 0 2 (aa.mk 2590 2599)).length) L)))),(own A G 122 9 (ab.ah.aJ.map ao.cells)),(own B H 127 2 (List.zipWith au.cells ab.ah.ai P)),(bp (aS au.owns ab.ah.ai P)),(own C Fd 129 4 (ab.ah.ag.map bG.cells)),(own D J 3 1 (ab.aI.map iC)),(own E K 3 1 (ab.bD.map iC)),(own F L 47 1 (List.zipWith cD (dF ab.aq 0 2 (aa.mk 2590 2599)) R)),(bp (aS gR (dF ab.aq 0 2 (aa.mk 2590 2599)) R)),(own T Fc 29 1 (List.zipWith j5 (bH ab) O)),(bp (aS nc (bH ab) O)),(b_ f 38 (aa.cells (df ab 0 0))),(rd dD 3 2 dg).ro]) 20 [54,55,56,57,58,59,60,61,62,63,64,65,66,67,68,69,70,71,72,73] (fun hJ=>?_) ?_
 ·refine i_ [50,51,52] kr (eN ?_<|eN ?_<|eN ?_<|kM)
  ·refine NO U U [51,52,53,54,55,56,57,58,59,60,61,62,63,64,65,66,67,68,69,70,71,72,73] fun T285 Df=>cf (t:=87) U (aP fun BE=>?_) (aQ fun BE=>?_)
   ·exact absurd (xj) BE
   refine rS (MV U)<|RD Df 4 U<|i_ [51,52] kr (eN ?_<|eN ?_<|kM)
   rotate_left 1
   ·refine NO U U [51,53,54,55,56,57,58,59,60,61,62,63,64,65,66,67,68,69,70,71,72,73] fun T292 Dj=>cZ (xs:=[.const (vI 2)]) (cs:=[(vI 2)]) U cJ jd U U U U (by simp [Value.cells]) U U fun BY=>RD Dj 5 U<|N1 51<|NO U U [53,54,55,56,57,58,59,60,61,62,63,64,65,66,67,68,69,70,71,72,73] fun T294 Dk=>cZ (xs:=[.const (vI 0),.const (vI 1)]) (cs:=[(vI 0),(vI 1)]) U cJ jd U U U U (by simp [Value.cells]) U U fun BZ=>RD Dk 6 U<|N1 53<|NO U U [54,55,56,57,58,59,60,61,62,63,64,65,66,67,68,69,70,71,72,73] fun T296 Dl=>cZ (xs:=[.tmp 89,.tmp 90]) (cs:=[(vS (some ⟨BZ,0,none⟩) 2 2),(vS (some ⟨BY,0,none⟩) 1 1)]) U pC vl U U U U (by simp [Value.cells]) U U fun Eg=>RD Dl 7 U ?_
    exact jK hJ (BZ,BY,Eg) trivial [0,2,1,3,4,5,6,7,8,9,10,11,12,13,14,15,16,17,18,19,20,21,22] U U U
   refine NO U U [52,53,54,55,56,57,58,59,60,61,62,63,64,65,66,67,68,69,70,71,72,73] fun T286 Dg=>cZ (xs:=[.const (vI 0),.const (vI 1)]) (cs:=[(vI 0),(vI 1)]) U cJ jd U U U U (by simp [Value.cells]) U U fun BW=>RD Dg 5 U<|N1 52<|NO U U [53,54,55,56,57,58,59,60,61,62,63,64,65,66,67,68,69,70,71,72,73] fun T288 Dh=>cZ (xs:=[.const (vI 2)]) (cs:=[(vI 2)]) U cJ jd U U U U (by simp [Value.cells]) U U fun BX=>RD Dh 6 U<|N1 53<|NO U U [54,55,56,57,58,59,60,61,62,63,64,65,66,67,68,69,70,71,72,73] fun T290 Di=>cZ (xs:=[.tmp 89,.tmp 90]) (cs:=[(vS (some ⟨BW,0,none⟩) 2 2),(vS (some ⟨BX,0,none⟩) 1 1)]) U pC vl U U U U (by simp [Value.cells]) U U fun Ef=>RD Di 7 U ?_
   exact jK hJ (BW,BX,Ef) trivial [0,1,2,3,4,5,6,7,8,9,10,11,12,13,14,15,16,17,18,19,20,21,22] U U U
  ·refine NO U U [50,52,53,54,55,56,57,58,59,60,61,62,63,64,65,66,67,68,69,70,71,72,73] fun T298 Dm=>cf (t:=87) U (aP fun BE=>?_) (aQ fun BE=>?_)
   ·exact absurd (xj) BE
   refine cZ (xs:=[.const (vI 0),.const (vI 1)]) (cs:=[(vI 0),(vI 1)]) U cJ jd U U U U (by simp [Value.cells]) U U fun Aq=>RD Dm 5 U<|i_ [50,52] kr (eN ?_<|eN ?_<|kM)
   ·refine NO U U [52,53,54,55,56,57,58,59,60,61,62,63,64,65,66,67,68,69,70,71,72,73] fun T300 Dn=>rS (MV U)<|RD Dn 5 U<|N1 52<|NO U U [53,54,55,56,57,58,59,60,61,62,63,64,65,66,67,68,69,70,71,72,73] fun T301 Do=>cZ (xs:=[.const (vI 2)]) (cs:=[(vI 2)]) U cJ jd U U U U (by simp [Value.cells]) U U fun Ba=>RD Do 6 U<|N1 53<|NO U U [54,55,56,57,58,59,60,61,62,63,64,65,66,67,68,69,70,71,72,73] fun T303 Dp=>cZ (xs:=[.tmp 89,.tmp 90]) (cs:=[(vS (some ⟨Aq,0,none⟩) 2 2),(vS (some ⟨Ba,0,none⟩) 1 1)]) U pC vl U U U U (by simp [Value.cells]) U U fun Eh=>RD Dp 7 U ?_
    exact jK hJ (Aq,Ba,Eh) trivial [0,1,2,3,4,5,6,7,8,9,10,11,12,13,14,15,16,17,18,19,20,21,22] U U U
   refine NO U U [50,53,54,55,56,57,58,59,60,61,62,63,64,65,66,67,68,69,70,71,72,73] fun T305 Dq=>cZ (xs:=[.const (vI 2)]) (cs:=[(vI 2)]) U cJ jd U U U U (by simp [Value.cells]) U U fun BG=>RD Dq 6 U<|i_ [50,53] kr (eN ?_<|eN ?_<|kM)
   rotate_left 1
   ·refine NO U U [50,54,55,56,57,58,59,60,61,62,63,64,65,66,67,68,69,70,71,72,73] fun T310 Dt=>cZ (xs:=[.tmp 89,.tmp 90]) (cs:=[(vS (some ⟨Aq,0,none⟩) 2 2),(vS (some ⟨BG,0,none⟩) 1 1)]) U pC vl U U U U (by simp [Value.cells]) U U fun Ej=>RD Dt 7 U<|N1 50<|NO U U [54,55,56,57,58,59,60,61,62,63,64,65,66,67,68,69,70,71,72,73] fun T312 Du=>rS (MV U)<|RD Du 7 U ?_
    exact jK hJ (Aq,BG,Ej) trivial [0,1,2,3,4,5,6,7,8,9,10,11,12,13,14,15,16,17,18,19,20,21,22] U U U
   refine NO U U [53,54,55,56,57,58,59,60,61,62,63,64,65,66,67,68,69,70,71,72,73] fun T307 Dr=>rS (MV U)<|RD Dr 6 U<|N1 53<|NO U U [54,55,56,57,58,59,60,61,62,63,64,65,66,67,68,69,70,71,72,73] fun T308 Ds=>cZ (xs:=[.tmp 89,.tmp 90]) (cs:=[(vS (some ⟨Aq,0,none⟩) 2 2),(vS (some ⟨BG,0,none⟩) 1 1)]) U pC vl U U U U (by simp [Value.cells]) U U fun Ei=>RD Ds 7 U ?_
   exact jK hJ (Aq,BG,Ei) trivial [0,1,2,3,4,5,6,7,8,9,10,11,12,13,14,15,16,17,18,19,20,21,22] U U U
  refine NO U U [50,51,53,54,55,56,57,58,59,60,61,62,63,64,65,66,67,68,69,70,71,72,73] fun T313 Dv=>cf (t:=87) U (aP fun BE=>?_) (aQ fun BE=>?_)
  ·exact absurd (xj) BE
  refine cZ (xs:=[.const (vI 2)]) (cs:=[(vI 2)]) U cJ jd U U U U (by simp [Value.cells]) U U fun Ar=>RD Dv 5 U<|i_ [50,51] kr (eN ?_<|eN ?_<|kM)
  ·refine NO U U [51,53,54,55,56,57,58,59,60,61,62,63,64,65,66,67,68,69,70,71,72,73] fun T315 Dw=>rS (MV U)<|RD Dw 5 U<|N1 51<|NO U U [53,54,55,56,57,58,59,60,61,62,63,64,65,66,67,68,69,70,71,72,73] fun T316 Dx=>cZ (xs:=[.const (vI 0),.const (vI 1)]) (cs:=[(vI 0),(vI 1)]) U cJ jd U U U U (by simp [Value.cells]) U U fun Bb=>RD Dx 6 U<|N1 53<|NO U U [54,55,56,57,58,59,60,61,62,63,64,65,66,67,68,69,70,71,72,73] fun T318 Dy=>cZ (xs:=[.tmp 89,.tmp 90]) (cs:=[(vS (some ⟨Bb,0,none⟩) 2 2),(vS (some ⟨Ar,0,none⟩) 1 1)]) U pC vl U U U U (by simp [Value.cells]) U U fun Ek=>RD Dy 7 U ?_
   exact jK hJ (Bb,Ar,Ek) trivial [0,2,1,3,4,5,6,7,8,9,10,11,12,13,14,15,16,17,18,19,20,21,22] U U U
  refine NO U U [50,53,54,55,56,57,58,59,60,61,62,63,64,65,66,67,68,69,70,71,72,73] fun T320 Dz=>cZ (xs:=[.const (vI 0),.const (vI 1)]) (cs:=[(vI 0),(vI 1)]) U cJ jd U U U U (by simp [Value.cells]) U U fun BH=>RD Dz 6 U<|i_ [50,53] kr (eN ?_<|eN ?_<|kM)
  rotate_left 1
  ·refine NO U U [50,54,55,56,57,58,59,60,61,62,63,64,65,66,67,68,69,70,71,72,73] fun T325 D2=>cZ (xs:=[.tmp 89,.tmp 90]) (cs:=[(vS (some ⟨BH,0,none⟩) 2 2),(vS (some ⟨Ar,0,none⟩) 1 1)]) U pC vl U U U U (by simp [Value.cells]) U U fun Em=>RD D2 7 U<|N1 50<|NO U U [54,55,56,57,58,59,60,61,62,63,64,65,66,67,68,69,70,71,72,73] fun T327 D3=>rS (MV U)<|RD D3 7 U ?_
   exact jK hJ (BH,Ar,Em) trivial [0,2,1,3,4,5,6,7,8,9,10,11,12,13,14,15,16,17,18,19,20,21,22] U U U
  refine NO U U [53,54,55,56,57,58,59,60,61,62,63,64,65,66,67,68,69,70,71,72,73] fun T322 D0=>rS (MV U)<|RD D0 6 U<|N1 53<|NO U U [54,55,56,57,58,59,60,61,62,63,64,65,66,67,68,69,70,71,72,73] fun T323 D1=>cZ (xs:=[.tmp 89,.tmp 90]) (cs:=[(vS (some ⟨BH,0,none⟩) 2 2),(vS (some ⟨Ar,0,none⟩) 1 1)]) U pC vl U U U U (by simp [Value.cells]) U U fun El=>RD D1 7 U ?_
  exact jK hJ (BH,Ar,El) trivial [0,2,1,3,4,5,6,7,8,9,10,11,12,13,14,15,16,17,18,19,20,21,22] U U U
 rintro ⟨b,c,s⟩-
 try dsimp only
 refine N1 54<|NO U U [55,56,57,58,59,60,61,62,63,64,65,66,67,68,69,70,71,72,73] fun T328 D4=>?_
 refine dY (es:=(([0,1]:List Int).map iC)) (C':=[_,_,(own (some ⟨b,0,none⟩) 2 3 1 (([0,1]:List Int).map iC)),_,_,_,_,_,_,_,_,_,_,_,_,_,_,_,_,_,_,_,_]) 2 U (mJ bK _) U (by show _≤maxLen; exact Nat.le_trans (m:=10) (show (2:Nat)≤10 by decide) dc) U ?_
 refine dY (es:=(([2]:List Int).map iC)) (C':=[_,(own (some ⟨c,0,none⟩) 1 3 1 (([2]:List Int).map iC)),_,_,_,_,_,_,_,_,_,_,_,_,_,_,_,_,_,_,_,_,_]) 1 U (mJ bK _) U (by show _≤maxLen; exact Nat.le_trans (m:=10) (show (1:Nat)≤10 by decide) dc) U ?_
 refine dY (es:=(List.zipWith j5 [([0,1]:List Int),([2]:List Int)] [((some ⟨b,0,none⟩),2),((some ⟨c,0,none⟩),1)])) (C':=[(own (some ⟨s,0,none⟩) 2 29 1 (List.zipWith j5 [([0,1]:List Int),([2]:List Int)] [((some ⟨b,0,none⟩),2),((some ⟨c,0,none⟩),1)])),_,_,_,_,_,_,_,_,_,_,_,_,_,_,_,_,_,_,_,_,_,_]) 0 U (oJ I0) U (by show _≤maxLen; exact Nat.le_trans (m:=10) (show (2:Nat)≤10 by decide) dc) U ?_
 refine vZ (C1:=[(own (some ⟨s,0,none⟩) 2 29 1 (List.zipWith j5 [([0,1]:List Int),([2]:List Int)] [((some ⟨b,0,none⟩),2),((some ⟨c,0,none⟩),1)])),(bp (aS nc [([0,1,2]:List Int)] [((some ⟨Z,0,none⟩),3)])),(own (some ⟨j,0,none⟩) 1 29 1 (List.zipWith j5 [([0,1,2]:List Int)] [((some ⟨Z,0,none⟩),3)])),(b_ g 3 [(vI 2),(vI 3)]),(b_ d 3 [(vI 1),(vI 2)]),(own M N 3 1 ((cx ab 0 2 (aa.mk 2590 2599)).map iC)),(own W X 29 1 (List.zipWith j5 (bH eY) S)),(bp (aS nc (bH eY) S)),(b_ k 32 (bu.cells (bu.mk (bJ.mk (aZ.mk (aN.mk A ab.ah.aJ.length G)) ab.ah.dG (aN.mk B ab.ah.ai.length H) (aN.mk C ab.ah.ag.length Fd) ab.ah.bI ab.ah.cy ab.ah.bL) (aN.mk D ab.aI.length J) (aN.mk E ab.bD.length K) ab.dZ (aN.mk F ((dF ab.aq 0 2 (aa.mk 2590 2599)).length) L)))),(own A G 122 9 (ab.ah.aJ.map ao.cells)),(own B H 127 2 (List.zipWith au.cells ab.ah.ai P)),(bp (aS au.owns ab.ah.ai P)),(own C Fd 129 4 (ab.ah.ag.map bG.cells)),(own D J 3 1 (ab.aI.map iC)),(own E K 3 1 (ab.bD.map iC)),(own F L 47 1 (List.zipWith cD (dF ab.aq 0 2 (aa.mk 2590 2599)) R)),(bp (aS gR (dF ab.aq 0 2 (aa.mk 2590 2599)) R)),(own T Fc 29 1 (List.zipWith j5 (bH ab) O)),(bp (aS nc (bH ab) O)),(b_ f 38 (aa.cells (df ab 0 0))),(rd dD 3 2 dg)]) (aS nc [([0,1]:List Int),([2]:List Int)] [((some ⟨b,0,none⟩),2),((some ⟨c,0,none⟩),1)]) [2,1,0,3,4,5,6,7,8,9,10,11,12,13,14,15,16,17,18,19,20,21,22] U U<|rS (CL (u7 (bH eY) ([([0,1]:List Int),([2]:List Int)]) S W X ([((some ⟨b,0,none⟩),2),((some ⟨c,0,none⟩),1)]) (some ⟨s,0,none⟩) 2 (by first|exact BU.1|exact BJ.1) dc (by first|exact BU.2|exact BJ.2) dc (by exact Bg) (by rfl)) (ay (al (n:=(bH eY).length) 7 U (k6 Bg))<|ay (dR 8 U F2)<|ay (al (n:=([([0,1]:List Int),([2]:List Int)]).length) 1 U sm)<|ay (dR 0 U F2)<|aK) U)<|RD D4 6 U<|N1 55<|NO U U [56,57,58,59,60,61,62,63,64,65,66,67,68,69,70,71,72,73] fun T329 D5=>rS (PK U)<|RD D5 6 U<|N1 56<|NO U U [57,58,59,60,61,62,63,64,65,66,67,68,69,70,71,72,73] fun T330 D6=>rS (MV U)<|RD D6 6 U<|N1 57<|NO U U [58,59,60,61,62,63,64,65,66,67,68,69,70,71,72,73] fun T331 D7=>cf (t:=94) U (aP fun E1=>?_) (aQ fun E1=>?_)
 ·exact absurd (Jx) E1
 refine rS (MV U)<|RD D7 6 U<|N1 58<|NO U U [59,60,61,62,63,64,65,66,67,68,69,70,71,72,73] fun T332 D8=>rS (BI U l8)<|RD D8 6 U<|N1 59<|NO U U [60,61,62,63,64,65,66,67,68,69,70,71,72,73] fun T333 D9=>rS (PK U)<|RD D9 6 U<|N1 60<|NO U U [61,62,63,64,65,66,67,68,69,70,71,72,73] fun T334 D_=>rS (MV U)<|RD D_ 6 U ?_
 refine w8 (V:=Nat) (fun As=>True) (fun As=>[(1,(vP f)),(2,(vI (fR ab 0 0))),(3,(vS T ((bH ab).length) Fc)),(4,(vI (bY ab))),(5,(vP k)),(6,(vI 0)),(7,(vS W ((bH eY).length) X)),(8,(vI (bY eY))),(9,(vS M ((cx ab 0 2 (aa.mk 2590 2599)).length) N)),(10,(vI (dK ab 0 2 (aa.mk 2590 2599)))),(11,(vT [(vA (aa.cells (df ab 0 0))),(vI (fR ab 0 0))])),(12,(vA (bu.cells (bu.mk (bJ.mk (aZ.mk (aN.mk BK ab.ah.aJ.length BM)) ab.ah.dG (aN.mk BL ab.ah.ai.length BN) (aN.mk Aa ab.ah.ag.length Az) ab.ah.bI ab.ah.cy ab.ah.bL) (aN.mk Ae ab.aI.length A3) (aN.mk Ai ab.bD.length A7) ab.dZ (aN.mk Am ab.aq.length BA))))),(13,(vT [(vA (aa.cells (df ab 0 0))),(vI (fR ab 0 0))])),(14,(vA (aa.cells (df ab 0 0)))),(15,(vI (fR ab 0 0))),(16,(vT [(vS T ((bH ab).length) Fc),(vI (bY ab))])),(17,(vA (bu.cells (bu.mk (bJ.mk (aZ.mk (aN.mk AT ab.ah.aJ.length At)) ab.ah.dG (aN.mk AX ab.ah.ai.length Aw) (aN.mk Ab ab.ah.ag.length A0) ab.ah.bI ab.ah.cy ab.ah.bL) (aN.mk Af ab.aI.length A4) (aN.mk Aj ab.bD.length A8) ab.dZ (aN.mk An ab.aq.length BB))))),(18,(vT [(vS T ((bH ab).length) Fc),(vI (bY ab))])),(19,(vS T ((bH ab).length) Fc)),(20,(vI (bY ab))),(21,(vT [(vA (bu.cells (bu.mk (bJ.mk (aZ.mk (aN.mk A ab.ah.aJ.length G)) ab.ah.dG (aN.mk B ab.ah.ai.length H) (aN.mk C ab.ah.ag.length Fd) ab.ah.bI ab.ah.cy ab.ah.bL) (aN.mk D ab.aI.length J) (aN.mk E ab.bD.length K) ab.dZ (aN.mk F ((dF ab.aq 0 2 (aa.mk 2590 2599)).length) L)))),(vI 0)])),(22,(vA (bu.cells (bu.mk (bJ.mk (aZ.mk (aN.mk AU ab.ah.aJ.length Au)) ab.ah.dG (aN.mk AY ab.ah.ai.length Ax) (aN.mk Ac ab.ah.ag.length A1) ab.ah.bI ab.ah.cy ab.ah.bL) (aN.mk Ag ab.aI.length A5) (aN.mk Ak ab.bD.length A9) ab.dZ (aN.mk Ao ab.aq.length BC))))),(23,(vA (aa.cells (aa.mk 2590 2599)))),(24,(vT [(vA (bu.cells (bu.mk (bJ.mk (aZ.mk (aN.mk A ab.ah.aJ.length G)) ab.ah.dG (aN.mk B ab.ah.ai.length H) (aN.mk C ab.ah.ag.length Fd) ab.ah.bI ab.ah.cy ab.ah.bL) (aN.mk D ab.aI.length J) (aN.mk E ab.bD.length K) ab.dZ (aN.mk F ((dF ab.aq 0 2 (aa.mk 2590 2599)).length) L)))),(vI 0)])),(25,(vA (bu.cells (bu.mk (bJ.mk (aZ.mk (aN.mk A ab.ah.aJ.length G)) ab.ah.dG (aN.mk B ab.ah.ai.length H) (aN.mk C ab.ah.ag.length Fd) ab.ah.bI ab.ah.cy ab.ah.bL) (aN.mk D ab.aI.length J) (aN.mk E ab.bD.length K) ab.dZ (aN.mk F ((dF ab.aq 0 2 (aa.mk 2590 2599)).length) L))))),(26,(vI 0)),(27,(vT [(vS W ((bH eY).length) X),(vI (bY eY))])),(28,(vA (bu.cells (bu.mk (bJ.mk (aZ.mk (aN.mk A ab.ah.aJ.length G)) ab.ah.dG (aN.mk B ab.ah.ai.length H) (aN.mk C ab.ah.ag.length Fd) ab.ah.bI ab.ah.cy ab.ah.bL) (aN.mk D ab.aI.length J) (aN.mk E ab.bD.length K) ab.dZ (aN.mk F ((dF ab.aq 0 2 (aa.mk 2590 2599)).length) L))))),(29,(vT [(vS W ((bH eY).length) X),(vI (bY eY))])),(30,(vS W ((bH eY).length) X)),(31,(vI (bY eY))),(32,(vT [(vS M ((cx ab 0 2 (aa.mk 2590 2599)).length) N),(vI (dK ab 0 2 (aa.mk 2590 2599)))])),(33,(vA (bu.cells (bu.mk (bJ.mk (aZ.mk (aN.mk AV ab.ah.aJ.length Av)) ab.ah.dG (aN.mk AZ ab.ah.ai.length Ay) (aN.mk Ad ab.ah.ag.length A2) ab.ah.bI ab.ah.cy ab.ah.bL) (aN.mk Ah ab.aI.length A6) (aN.mk Al ab.bD.length A_) ab.dZ (aN.mk Ap ab.aq.length BD))))),(34,(vA (aa.cells (aa.mk 2590 2599)))),(35,(vT [(vS M ((cx ab 0 2 (aa.mk 2590 2599)).length) N),(vI (dK ab 0 2 (aa.mk 2590 2599)))])),(36,(vS M ((cx ab 0 2 (aa.mk 2590 2599)).length) N)),(37,(vI (dK ab 0 2 (aa.mk 2590 2599)))),(71,(vS (some ⟨Z,0,none⟩) 3 3)),(89,(vS (some ⟨b,0,none⟩) 2 2)),(90,(vS (some ⟨c,0,none⟩) 1 1)),(98,(vB true)),(99,(vS M ((cx ab 0 2 (aa.mk 2590 2599)).length) N)),(100,(vS (some ⟨As,0,none⟩) 1 1))]) (fun As=>[(b_ As 3 [(vI 2)]),(bp (aS nc [([0,1]:List Int),([2]:List Int)] [((some ⟨b,0,none⟩),2),((some ⟨c,0,none⟩),1)])),(own (some ⟨s,0,none⟩) 2 29 1 (List.zipWith j5 [([0,1]:List Int),([2]:List Int)] [((some ⟨b,0,none⟩),2),((some ⟨c,0,none⟩),1)])),(bp (aS nc [([0,1,2]:List Int)] [((some ⟨Z,0,none⟩),3)])),(own (some ⟨j,0,none⟩) 1 29 1 (List.zipWith j5 [([0,1,2]:List Int)] [((some ⟨Z,0,none⟩),3)])),(b_ g 3 [(vI 2),(vI 3)]),(b_ d 3 [(vI 1),(vI 2)]),(own M N 3 1 ((cx ab 0 2 (aa.mk 2590 2599)).map iC)),(own W X 29 1 (List.zipWith j5 (bH eY) S)),(bp (aS nc (bH eY) S)),(b_ k 32 (bu.cells (bu.mk (bJ.mk (aZ.mk (aN.mk A ab.ah.aJ.length G)) ab.ah.dG (aN.mk B ab.ah.ai.length H) (aN.mk C ab.ah.ag.length Fd) ab.ah.bI ab.ah.cy ab.ah.bL) (aN.mk D ab.aI.length J) (aN.mk E ab.bD.length K) ab.dZ (aN.mk F ((dF ab.aq 0 2 (aa.mk 2590 2599)).length) L)))),(own A G 122 9 (ab.ah.aJ.map ao.cells)),(own B H 127 2 (List.zipWith au.cells ab.ah.ai P)),(bp (aS au.owns ab.ah.ai P)),(own C Fd 129 4 (ab.ah.ag.map bG.cells)),(own D J 3 1 (ab.aI.map iC)),(own E K 3 1 (ab.bD.map iC)),(own F L 47 1 (List.zipWith cD (dF ab.aq 0 2 (aa.mk 2590 2599)) R)),(bp (aS gR (dF ab.aq 0 2 (aa.mk 2590 2599)) R)),(own T Fc 29 1 (List.zipWith j5 (bH ab) O)),(bp (aS nc (bH ab) O)),(b_ f 38 (aa.cells (df ab 0 0))),(rd dD 3 2 dg).ro]) 11 [63,64,65,66,67,68,69,70,71,72,73] (fun hJ=>?_) ?_
 ·refine i_ [61,62] kr (eN ?_<|eN ?_<|kM)
  rotate_left 1
  ·refine NO U U [61,63,64,65,66,67,68,69,70,71,72,73] fun T339 EC=>cf (t:=98) U (aP fun BS=>?_) (aQ fun BS=>?_)
   ·exact absurd (Bd) BS
   refine cZ (xs:=[.const (vI 2)]) (cs:=[(vI 2)]) U cJ jd U U U U (by simp [Value.cells]) U U fun Eo=>RD EC 7 U<|N1 61<|NO U U [63,64,65,66,67,68,69,70,71,72,73] fun T341 ED=>rS (MV U)<|RD ED 7 U ?_
   exact jK hJ Eo trivial [0,1,2,3,4,5,6,7,8,9,10,11,12,13,14,15,16,17,18,19,20,21,22] U U U
  refine NO U U [62,63,64,65,66,67,68,69,70,71,72,73] fun T336 EA=>cf (t:=98) U (aP fun BS=>?_) (aQ fun BS=>?_)
  ·exact absurd (Bd) BS
  refine rS (MV U)<|RD EA 6 U<|N1 62<|NO U U [63,64,65,66,67,68,69,70,71,72,73] fun T337 EB=>cZ (xs:=[.const (vI 2)]) (cs:=[(vI 2)]) U cJ jd U U U U (by simp [Value.cells]) U U fun En=>RD EB 7 U ?_
  exact jK hJ En trivial [0,1,2,3,4,5,6,7,8,9,10,11,12,13,14,15,16,17,18,19,20,21,22] U U U
 rintro As-
 try dsimp only
 refine N1 63<|NO U U [64,65,66,67,68,69,70,71,72,73] fun T342 EE=>rS (CL (nQ (cx ab 0 2 (aa.mk 2590 2599)) M N ([2]) (some ⟨As,0,none⟩) 1 om dc) (ay (al (n:=(cx ab 0 2 (aa.mk 2590 2599)).length) 7 U sm)<|ay (a_ 0 U U (by simp [bK]) U)<|aK) U)<|RD EE 7 U<|N1 64<|NO U U [65,66,67,68,69,70,71,72,73] fun T343 EF=>rS (PK U)<|RD EF 7 U<|N1 65<|NO U U [66,67,68,69,70,71,72,73] fun T344 EG=>rS (MV U)<|RD EG 7 U<|N1 66<|NO U U [67,68,69,70,71,72,73] fun T345 EH=>cf (t:=103) U (aP fun Bc=>?_) (aQ fun Bc=>?_)
 ·exact absurd (Nt) Bc
 refine cZ (xs:=[.const (vI 0),.const (vI 2),.const (vI 1)]) (cs:=[(vI 0),(vI 2),(vI 1)]) U cJ jd U U U U (by simp [Value.cells]) U U fun Ep=>RD EH 8 U<|N1 67<|NO U U [68,69,70,71,72,73] fun T347 EI=>rS (CL (za 1 ([0,2,1]) (some ⟨Ep,0,none⟩) 3 dc) (fK 23 U U<|ay (a_ 0 U U (by simp [bK]) U)<|aK) U)<|RD EI 8 U<|N1 68<|NO U U [69,70,71,72,73] fun T348 EJ=>rS (PK U)<|RD EJ 8 U<|N1 69<|NO U U [70,71,72,73] fun T349 EK=>rS (MV U)<|RD EK 8 U<|N1 70<|NO U U [71,72,73] fun T350 EL=>cf (t:=107) U (aP fun Be=>?_) (aQ fun Be=>?_)
 ·exact absurd (KL) Be
 refine cZ (xs:=[.const (vI 0),.const (vI 1),.const (vI 2)]) (cs:=[(vI 0),(vI 1),(vI 2)]) U cJ jd U U U U (by simp [Value.cells]) U U fun Eq=>RD EL 9 U<|JC [109,110,0] kr kr U _ U U (aL [9,10,11,12,13,14,15,16,17,18,19,20,21,22,23,24])<|dS (CL (za 2 ([0,1,2]) (some ⟨Eq,0,none⟩) 3 dc) (fK 24 U U<|ay (a_ 0 U U (by simp [bK]) U)<|aK) U)<|dP 2 [] I ?_
 refine cK<|RK Cp<|ar<|Q1 hQ U U U ?_
 exact cB (fP KI)
end
section
open Go.RowKit
theorem iw (n lo hi:Int):
 d_ Tryz.prog 132 [(vI n),(vI lo),(vI hi)] [] (vB (decide (lo≤n∧n≤hi))):=by
 refine bE kr Tryz.func132 U U fun D Q hQ hN=>?_
 try dsimp only
 refine WS fun _ B=>bg 1 U<|RK B<|WS fun _ A=>rP 4 [] I ?_
 refine cw (t:=10) U (aQ fun C=>?_) (aP fun C=>?_)
 ·refine rP 5 [] I ?_
  refine RK A<|ar<|Q1 hQ U U U ?_
  exact cB (decide_eq_decide.2 om)
 refine rP 5 [] I ?_
 refine RK A<|ar<|Q1 hQ U U U ?_
 exact cB (cr om).symm
theorem BF (ts:List ao) (tsA:OA) (tsC:Nat) (hst: ∀ x∈ts,bP x) (hlen:ts.length≤12):
 lq Tryz.prog 161 [(vA (aZ.cells (aZ.mk (aN.mk tsA ts.length tsC))))] [(rd tsA ts.length 9 (ts.map ao.cells))] (fun (x:(OA)×Nat)=>(vS x.1 ((gY ts (ts.length+1)).length) x.2)) (fun (x:(OA)×Nat)=>True) (fun (x:(OA)×Nat)=>[(own x.1 x.2 38 2 ((gY ts (ts.length+1)).map aa.cells))]):=by
 refine dv kr Tryz.func161 U U fun V Q hQ hN=>?_
 try dsimp only
 refine WS fun _ J=>fU U fun AA=>bg 1 U<|RK J<|WS fun _ K=>bg 1 U<|RK K<|ak fun _ L=>WS fun _ M=>rP 1 [] I ?_
 refine RK M<|ax<|fY 38 2 ?_
 have A:(0≤ts.length+1):=by exact Nat.zero_le _
 refine bR (ι:={z:Nat×(OA)×Nat // (z.1≤ts.length+1)}) [1] [1,2] U U (fun z=>[(3,(vS z.1.2.1 ((gY ts z.1.1).length) z.1.2.2)),(4,(vI (z.1.1:Int)))]) (fun z=>[(own z.1.2.1 z.1.2.2 38 2 ((gY ts z.1.1).map aa.cells))]) (fun _=>rfl) (fun _=>rfl) (fun z=>ts.length+1-z.1.1) ⟨(0,none,0),A⟩ (aU U) (aL [1,2,0]) ?_
 clear A
 rintro ⟨⟨i,a,c⟩,B⟩ J6 AB
 try dsimp only at B
 try dsimp only
 refine ak fun _ N=>WS fun _ O=>rP 5 [] (mc 0 U I) ?_
 refine RK O<|bS U (aP fun T=>?_) (aQ fun T=>?_)
 ·refine bB<|ae<|ae<|aA<|KK L<|WS fun _ E=>?_
  obtain rfl:i=ts.length+1:=by omega
  refine rP 2 [] I ?_
  refine RK E<|ar<|LX hQ (a,c) [2] [] I U U U U ?_
  trivial
 refine WK N<|ak fun _ C=>ax<|WS fun _ D=>fF 2 [] (mc 0 U I) U<|rS (CL (z_ ts tsA tsC 0 (i:Int) hst hlen om) (bh [1]) U)<|bg 3 U<|AL U di fun P=>AL U di fun R=>tF U cv U<|fW U cv U<|RK D<|an<|rP 2 [] (mc 1 U I) ?_
 refine cZ (xs:=[.tmp 21]) (cs:=(aa.cells (eI ts (0:Int).toNat ((i:Int)-0).toNat))) U jL di U U U U (by simp [Value.cells,aa.aW]) U U fun S=>?_
 refine de (es2:=(List.map aa.cells (gY ts (i+1)))) (m':=(gY ts (i+1)).length) 5 U U U D9 U U sm (a_ (es:=List.map aa.cells [(eI ts (0:Int).toNat ((i:Int)-0).toNat)]) 0 U U (by simp [aa.aW]) U) (gS _) (by simp only [ot]; omega) (by simp only [maxLen,ot]; omega) (by rw [A_]; simp) sm U fun G H=>?_
 try dsimp only
 refine bg 1 U<|aF<|aH<|KK C<|an<|rP 3 [] I ?_
 refine aF ?_
 have F:(vI (((i+1):Nat):Int))=(vI ((i:Int)+1)):=by exact cI om
 refine aT (AB ⟨((i+1),G,H),(by first|omega|(simp only []; omega))⟩ _ _ _ U os (dy.cons U<|dy.cons U<|bo U F<|dy.nil _) (aL [3,4,5]))
theorem Sr (ts:List ao) (tsA:OA) (tsC:Nat) (s:cM) (hlen:ts.length≤1000000) (hside: ∀ x∈ts,0≤x.iT∧x.iT≤255):
 d_ Tryz.prog 152 [(vA (aZ.cells (aZ.mk (aN.mk tsA ts.length tsC)))),(vA (cM.cells s))] [(rd tsA ts.length 9 (ts.map ao.cells))] (vT [(vA (aa.cells (Pu ts s))),(vI (Fh ts s))]):=by
 refine bE kr Tryz.func152 U U fun r Q hQ hN=>?_
 try dsimp only
 refine WS fun _ R=>fU U fun i=>fU U fun k=>AL U di fun l=>bg 1 U<|RK R<|ak fun _ S=>WS fun _ T=>fF 1 [] (mc 2 U I) U<|rS (CL (vR ts tsA tsC hlen) (bh [3]) U)<|rP 1 [] I ?_
 refine RK T<|cE U (fun AB=>?_) (fun AB=>?_)
 ·rw [Bool.not_eq_true'] at AB
  refine WS fun _ AA=>rS (SX (bj (xs:=[]) (cs:=(aa.cells (aa.mk 0 0))) U U (bk gv U)) U U)<|fW U cv U<|rP 1 [] I ?_
  refine RK AA<|ar<|lf hQ [0] (mc 0 U I) U ?_
  (have e:=Ip (s:=s) (by simpa using AB); rw [e.1,e.2]<;>rfl)
 rw [Bool.not_eq_false'] at AB
 refine WK S<|ak fun _ V=>WS fun _ W=>?_
 have M:=jP AB
 have Z:=kD AB
 refine fF 2 [0,1] (mc 2 U (mc 1 U I)) U<|rS (CL (qJ ts tsA tsC s asm asm) (bh [3]) U)<|rP 1 [] I ?_
 refine RK W<|cE U (br fun D=>?_) (bq fun D=>?_)
 ·refine WS fun _ O=>rS (SX (bj (xs:=[]) (cs:=(aa.cells (aa.mk 0 0))) U U (bk gv U)) U U)<|fW U cv U<|rP 1 [] I ?_
  refine RK O<|ar<|lf hQ [0] (mc 0 U I) U ?_
  (have e:=I5 AB D; rw [e.1,e.2]<;>rfl)
 refine WK V<|ak fun _ H=>pq cu [0,2,3] [1,4,5,6,7] [false,false,false] [] [(b_ l 38 (aa.cells (aa.mk 0 0))),(b_ k 119 (cM.cells s)),(b_ i 24 (aZ.cells (aZ.mk (aN.mk tsA ts.length tsC)))),(rd tsA ts.length 9 (ts.map ao.cells)).ro] [] kr (aL [0,1,2,3]) (aL []) ?_
 have q:=D.1
 have N:=qk M D
 have p:(gY ts (ts.length+1)).length=ts.length+1:=ot
 refine eS U (LW 2 U cm U U)<|eS U (FA 0 U fB U)<|eS U (L1 (vI s.aY) 1 U cm U U)<|e9 U<|i_ [1,6] kr (eN ?_<|eN ?_<|kM)
 rotate_left 1
 ·refine NO U U [1,4,5,7] fun T12 J=>AL U di fun f=>RD J 1 U<|N1 1<|NO U U [4,5,7] fun T14 P=>cX (BF ts tsA tsC asm asm) (bh [4]) U fun Y b=>?_
  obtain ⟨d,o⟩:=Y
  try dsimp only
  refine RD P 2 U<|N1 4<|NO U U [5,7] fun T19 E=>?_
  obtain ⟨z,hz⟩:=aM (gY ts (ts.length+1)) ((s.aY).toNat) om
  have A:=bQ aa.cells hz
  refine rS (IA ((s.aY).toNat) U (al (n:=(gY ts (ts.length+1)).length) 0 U sm) jL dc om om)<|RD E 2 U<|N1 5<|NO U U [7] fun T20 F=>rS (ov ((s.aY).toNat) 0 (aa.cells z) U cm (al (n:=(gY ts (ts.length+1)).length) 0 U sm) A U dc U U)<|RD F 2 U<|N1 7<|NO U U [] fun T21 C=>tF U cv U<|RD C 2 U<|pP<|KK H<|WS fun _ B=>rP 1 [] I ?_
  have A:=o7 hz
  have G:=lW M 0 s.aY.toNat
  unfold lg at N
  rw [← A] at G
  refine fF 11 [0,1,0,1] (mc 1 U (mc 3 U I)) U<|rS (SX (bj (xs:=[(0,.tmp 27),(1,.tmp 33)]) (cs:=(aa.cells (aa.mk (z.Lo+s.mm.Lo) (z.Hi+s.mm.Hi)))) U U (bk gv U)) U U)<|Hr U cv U<|rP 1 [] I ?_
  refine RK B<|ar<|lf hQ [0] (mc 2 U I) U ?_
  (have e:=w4 AB D; subst A; rw [e.1,e.2]<;>rfl)
 refine NO U U [4,5,6,7] fun T12 J=>cX (BF ts tsA tsC asm asm) (bh [3]) U fun X a=>?_
 obtain ⟨c,m⟩:=X
 try dsimp only
 refine RD J 1 U<|i_ [4,6] kr (eN ?_<|eN ?_<|kM)
 rotate_left 1
 ·refine NO U U [4,5,7] fun T17 K=>AL U di fun g=>RD K 2 U<|N1 4<|NO U U [5,7] fun T19 E=>?_
  obtain ⟨z,hz⟩:=aM (gY ts (ts.length+1)) ((s.aY).toNat) om
  have A:=bQ aa.cells hz
  refine rS (IA ((s.aY).toNat) U (al (n:=(gY ts (ts.length+1)).length) 1 U sm) jL dc om om)<|RD E 2 U<|N1 5<|NO U U [7] fun T20 F=>rS (ov ((s.aY).toNat) 0 (aa.cells z) U cm (al (n:=(gY ts (ts.length+1)).length) 1 U sm) A U dc U U)<|RD F 2 U<|N1 7<|NO U U [] fun T21 C=>fW U cv U<|RD C 2 U<|pP<|KK H<|WS fun _ B=>rP 1 [] I ?_
  have A:=o7 hz
  have G:=lW M 0 s.aY.toNat
  unfold lg at N
  rw [← A] at G
  refine fF 11 [0,1,0,1] (mc 0 U (mc 3 U I)) U<|rS (SX (bj (xs:=[(0,.tmp 27),(1,.tmp 33)]) (cs:=(aa.cells (aa.mk (z.Lo+s.mm.Lo) (z.Hi+s.mm.Hi)))) U U (bk gv U)) U U)<|Hr U cv U<|rP 1 [] I ?_
  refine RK B<|ar<|lf hQ [0] (mc 2 U I) U ?_
  (have e:=w4 AB D; subst A; rw [e.1,e.2]<;>rfl)
 refine NO U U [5,6,7] fun T17 K=>?_
 obtain ⟨z,hz⟩:=aM (gY ts (ts.length+1)) ((s.aY).toNat) om
 have A:=bQ aa.cells hz
 refine rS (IA ((s.aY).toNat) U (al (n:=(gY ts (ts.length+1)).length) 0 U sm) jL dc om om)<|RD K 1 U<|i_ [5,6] kr (eN ?_<|eN ?_<|kM)
 rotate_left 1
 ·refine NO U U [5,7] fun T18 L=>AL U di fun h=>RD L 2 U<|N1 5<|NO U U [7] fun T20 F=>rS (ov ((s.aY).toNat) 0 (aa.cells z) U cm (al (n:=(gY ts (ts.length+1)).length) 1 U sm) A U dc U U)<|RD F 2 U<|N1 7<|NO U U [] fun T21 C=>fW U cv U<|RD C 2 U<|pP<|KK H<|WS fun _ B=>rP 1 [] I ?_
  have A:=o7 hz
  have G:=lW M 0 s.aY.toNat
  unfold lg at N
  rw [← A] at G
  refine fF 11 [0,1,0,1] (mc 0 U (mc 3 U I)) U<|rS (SX (bj (xs:=[(0,.tmp 27),(1,.tmp 33)]) (cs:=(aa.cells (aa.mk (z.Lo+s.mm.Lo) (z.Hi+s.mm.Hi)))) U U (bk gv U)) U U)<|Hr U cv U<|rP 1 [] I ?_
  refine RK B<|ar<|lf hQ [0] (mc 2 U I) U ?_
  (have e:=w4 AB D; subst A; rw [e.1,e.2]<;>rfl)
 refine NO U U [6,7] fun T18 L=>rS (ov ((s.aY).toNat) 0 (aa.cells z) U cm (al (n:=(gY ts (ts.length+1)).length) 0 U sm) A U dc U U)<|RD L 1 U<|N1 6<|NO U U [7] fun T19 E=>AL U di fun j=>RD E 2 U<|N1 7<|NO U U [] fun T21 C=>fW U cv U<|RD C 2 U<|pP<|KK H<|WS fun _ B=>rP 1 [] I ?_
 have A:=o7 hz
 have G:=lW M 0 s.aY.toNat
 unfold lg at N
 rw [← A] at G
 refine fF 11 [0,1,0,1] (mc 0 U (mc 3 U I)) U<|rS (SX (bj (xs:=[(0,.tmp 27),(1,.tmp 33)]) (cs:=(aa.cells (aa.mk (z.Lo+s.mm.Lo) (z.Hi+s.mm.Hi)))) U U (bk gv U)) U U)<|Hr U cv U<|rP 1 [] I ?_
 refine RK B<|ar<|lf hQ [0] (mc 2 U I) U ?_
 (have e:=w4 AB D; subst A; rw [e.1,e.2]<;>rfl)
theorem G4 (ts:List ao) (tsA:OA) (tsC:Nat) (p:cM) (q:cM) (hlen:ts.length≤1000000) (hside: ∀ x∈ts,0≤x.iT∧x.iT≤255) (hord: ¬ q.aY<p.aY):
 d_ Tryz.prog 153 [(vA (aZ.cells (aZ.mk (aN.mk tsA ts.length tsC)))),(vA (cM.cells p)),(vA (cM.cells q))] [(rd tsA ts.length 9 (ts.map ao.cells))] (vT [(vA (aa.cells (kv ts p q))),(vI (lK ts p q))]):=by
 refine bE kr Tryz.func153 U U fun k Q hQ hN=>?_
 try dsimp only
 refine WS fun _ N=>fU U fun f=>fU U fun g=>fU U fun i=>AL U di fun j=>bg 1 U<|RK N<|ak fun _ O=>WS fun _ P=>fF 1 [] (mc 3 U I) U<|rS (CL (vR ts tsA tsC hlen) (bh [4]) U)<|rP 1 [] I ?_
 refine RK P<|cE U (fun A=>?_) (fun A=>?_)
 ·rw [Bool.not_eq_true'] at A
  refine WS fun _ R=>rS (SX (bj (xs:=[]) (cs:=(aa.cells (aa.mk 0 0))) U U (bk gv U)) U U)<|fW U cv U<|rP 1 [] I ?_
  refine RK R<|ar<|lf hQ [0] (mc 0 U I) U ?_
  (have e:=ua (a:=p) (b:=q) (by simpa using A); rw [e.1,e.2]<;>rfl)
 rw [Bool.not_eq_false'] at A
 refine WK O<|ak fun _ S=>WS fun _ E=>?_
 have D:=jP A
 have M:=kD A
 refine fF 2 [0,1] (mc 3 U (mc 2 U I)) U<|rS (CL (qJ ts tsA tsC p asm asm) (bh [4]) U)<|rP 2 [] I ?_
 refine cw (t:=20) U (br fun B=>?_) (bq fun B=>?_)
 ·refine bg 5 U<|RK E<|aR U<|WS fun _ G=>rS (SX (bj (xs:=[]) (cs:=(aa.cells (aa.mk 0 0))) U U (bk gv U)) U U)<|fW U cv U<|rP 1 [] I ?_
  refine RK G<|ar<|lf hQ [0] (mc 0 U I) U ?_
  (have e:=oK (a:=p) (b:=q) A (fun h=>by first|exact B h.1|exact C h.2); rw [e.1,e.2]<;>rfl)
 refine fF 2 [0,1] (mc 3 U (mc 1 U I)) U<|rS (CL (qJ ts tsA tsC q asm asm) (bh [4]) U)<|rP 2 [] I ?_
 refine RK E<|cE U (br fun C=>?_) (bq fun C=>?_)
 ·refine WS fun _ H=>rS (SX (bj (xs:=[]) (cs:=(aa.cells (aa.mk 0 0))) U U (bk gv U)) U U)<|fW U cv U<|rP 1 [] I ?_
  refine RK H<|ar<|lf hQ [0] (mc 0 U I) U ?_
  (have e:=oK (a:=p) (b:=q) A (fun h=>by first|exact B h.1|exact C h.2); rw [e.1,e.2]<;>rfl)
 refine WK S<|ak fun _ AB=>WS fun _ J=>?_
 have AA:fu ts p∧fu ts q:=⟨B,C⟩
 have T:=qk D B
 have V:=qk D C
 have c:=B.1
 have d:=C.1
 have Y:=xC D M C B
 unfold lg at T V
 refine rP 5 [0,1] (mc 1 U (mc 2 U I)) ?_
 refine RK J<|cE U (aQ fun F=>?_) (aP fun F=>?_)
 ·exfalso; omega
 refine WK AB<|WS fun _ K=>rP 2 [] (mc 3 U I) ?_
 have Z:=lW D p.aY.toNat (q.aY-p.aY).toNat
 refine fF 3 [0,1] (mc 2 U (mc 1 U I)) U<|rS (CL (z_ ts tsA tsC p.aY q.aY asm asm om) (bh [4]) U)<|bg 3 U<|AL U di fun W=>AL U di fun X=>tF U cv U<|fW U cv U<|RK K<|WS fun _ L=>fF 20 [0,1,2,0,1,2] (mc 1 U (mc 3 U (mc 4 U I))) U<|rS (SX (bj (xs:=[(0,.tmp 64),(1,.tmp 74)]) (cs:=(aa.cells (aa.mk ((((eI ts p.aY.toNat (q.aY-p.aY).toNat).Lo)+q.mm.Lo)-p.mm.Hi) ((((eI ts p.aY.toNat (q.aY-p.aY).toNat).Hi)+q.mm.Hi)-p.mm.Lo)))) U U (bk gv U)) U U)<|Hr U cv U<|rP 1 [] I ?_
 refine RK L<|ar<|lf hQ [0] (mc 2 U I) U ?_
 (have e:=kY A AA; rw [e.1,e.2,qh F]<;>rfl)
theorem Lw (ts:List ao) (tsA:OA) (tsC:Nat) (p:cM) (q:cM) (hlen:ts.length≤1000000) (hside: ∀ x∈ts,0≤x.iT∧x.iT≤255):
 d_ Tryz.prog 153 [(vA (aZ.cells (aZ.mk (aN.mk tsA ts.length tsC)))),(vA (cM.cells p)),(vA (cM.cells q))] [(rd tsA ts.length 9 (ts.map ao.cells))] (vT [(vA (aa.cells (kv ts p q))),(vI (lK ts p q))]):=by
 refine bE kr Tryz.func153 U U fun u Q hQ hN=>?_
 try dsimp only
 refine WS fun _ S=>fU U fun n=>fU U fun o=>fU U fun r=>AL U di fun s=>bg 1 U<|RK S<|ak fun _ T=>WS fun _ AA=>fF 1 [] (mc 3 U I) U<|rS (CL (vR ts tsA tsC hlen) (bh [4]) U)<|rP 1 [] I ?_
 refine RK AA<|cE U (fun A=>?_) (fun A=>?_)
 ·rw [Bool.not_eq_true'] at A
  refine WS fun _ V=>rS (SX (bj (xs:=[]) (cs:=(aa.cells (aa.mk 0 0))) U U (bk gv U)) U U)<|fW U cv U<|rP 1 [] I ?_
  refine RK V<|ar<|lf hQ [0] (mc 0 U I) U ?_
  (have e:=ua (a:=p) (b:=q) (by simpa using A); rw [e.1,e.2]<;>rfl)
 rw [Bool.not_eq_false'] at A
 refine WK T<|ak fun _ W=>WS fun _ E=>?_
 have D:=jP A
 have P:=kD A
 refine fF 2 [0,1] (mc 3 U (mc 2 U I)) U<|rS (CL (qJ ts tsA tsC p asm asm) (bh [4]) U)<|rP 2 [] I ?_
 refine cw (t:=20) U (br fun B=>?_) (bq fun B=>?_)
 ·refine bg 5 U<|RK E<|aR U<|WS fun _ G=>rS (SX (bj (xs:=[]) (cs:=(aa.cells (aa.mk 0 0))) U U (bk gv U)) U U)<|fW U cv U<|rP 1 [] I ?_
  refine RK G<|ar<|lf hQ [0] (mc 0 U I) U ?_
  (have e:=oK (a:=p) (b:=q) A (fun h=>by first|exact B h.1|exact C h.2); rw [e.1,e.2]<;>rfl)
 refine fF 2 [0,1] (mc 3 U (mc 1 U I)) U<|rS (CL (qJ ts tsA tsC q asm asm) (bh [4]) U)<|rP 2 [] I ?_
 refine RK E<|cE U (br fun C=>?_) (bq fun C=>?_)
 ·refine WS fun _ H=>rS (SX (bj (xs:=[]) (cs:=(aa.cells (aa.mk 0 0))) U U (bk gv U)) U U)<|fW U cv U<|rP 1 [] I ?_
  refine RK H<|ar<|lf hQ [0] (mc 0 U I) U ?_
  (have e:=oK (a:=p) (b:=q) A (fun h=>by first|exact B h.1|exact C h.2); rw [e.1,e.2]<;>rfl)
 refine WK W<|ak fun _ AB=>WS fun _ J=>?_
 have R:fu ts p∧fu ts q:=⟨B,C⟩
 have X:=qk D B
 have Y:=qk D C
 have l:=B.1
 have m:=C.1
 have j:=xC D P C B
 unfold lg at X Y
 refine rP 5 [0,1] (mc 1 U (mc 2 U I)) ?_
 refine RK J<|cE U (aQ fun F=>?_) (aP fun F=>?_)
 ·refine WS fun _ K=>fF 3 [0,1,2] (mc 3 U (mc 1 U (mc 2 U I))) U<|rS (CL (G4 ts tsA tsC q p hlen hside om) (bh [4]) U)<|bg 3 U<|AL U di fun d=>fW U cv U<|bg 1 U<|RK K<|WS fun _ L=>rP 2 [] (mc 0 U I) ?_
  have O:kv ts q p=jG ts q p:=(kY A ⟨C,B⟩).2
  have Z: -400000≤(kv ts q p).Lo∧(kv ts q p).Hi≤400000:=by rw [O]; omega
  have c:(kv ts q p).Lo≤(kv ts q p).Hi:=by rw [O]; omega
  refine rS (NG U ⟨om,om⟩)<|fF 2 [] (mc 0 U I) U<|rS (NG U ⟨om,om⟩)<|rS (SX (bj (xs:=[(0,.tmp 41),(1,.tmp 44)]) (cs:=(aa.cells (aa.mk (-((kv ts q p).Hi)) (-((kv ts q p).Lo))))) U U (bk gv U)) U U)<|tF U cv U<|rP 1 [] I ?_
  refine RK L<|ar<|lf hQ [0] (mc 1 U I) U ?_
  (have e:=kY A R; have i:=kY A ⟨C,B⟩; rw [e.1,e.2,i.2,Eu F]<;>rfl)
 refine WK AB<|WS fun _ M=>rP 2 [] (mc 3 U I) ?_
 have k:=lW D p.aY.toNat (q.aY-p.aY).toNat
 refine fF 3 [0,1] (mc 2 U (mc 1 U I)) U<|rS (CL (z_ ts tsA tsC p.aY q.aY asm asm om) (bh [4]) U)<|bg 3 U<|AL U di fun f=>AL U di fun g=>tF U cv U<|fW U cv U<|RK M<|WS fun _ N=>fF 20 [0,1,2,0,1,2] (mc 1 U (mc 3 U (mc 4 U I))) U<|rS (SX (bj (xs:=[(0,.tmp 64),(1,.tmp 74)]) (cs:=(aa.cells (aa.mk ((((eI ts p.aY.toNat (q.aY-p.aY).toNat).Lo)+q.mm.Lo)-p.mm.Hi) ((((eI ts p.aY.toNat (q.aY-p.aY).toNat).Hi)+q.mm.Hi)-p.mm.Lo)))) U U (bk gv U)) U U)<|Hr U cv U<|rP 1 [] I ?_
 refine RK N<|ar<|lf hQ [0] (mc 2 U I) U ?_
 (have e:=kY A R; rw [e.1,e.2,qh F]<;>rfl)
end
section
open Go.RowKit
theorem I1 (l:bf) (kA:OA) (kC:Nat) (az:List RA) (cA:OA) (cC:Nat) (bA:OA) (bC:Nat) (hraw:sY l az):
 d_ Tryz.prog 48 [(vA (bJ.cells (ld l kA kC cA cC bA bC)))] [(rd kA l.aJ.length 9 (l.aJ.map ao.cells)),(rd cA l.ai.length 2 (List.zipWith au.cells l.ai az)),(fc (aS au.gW l.ai az)),(rd bA l.ag.length 4 (l.ag.map bG.cells))] (vB (decide (mq l))):=by
 have e:=hraw.si
 have d:=hraw.sh
 have a:=hraw.nO
 have b:=hraw.sf
 refine bE kr Tryz.func48 U U fun g Q hQ hN=>?_
 try dsimp only
 refine WS fun _ O=>fU U fun f=>bg 1 U<|RK O<|ak fun _ P=>WS fun _ D=>bg 1 U<|rS (LP (aZ.cells (aZ.mk (aN.mk kA l.aJ.length kC))) 0 U cm U U U)<|rS (CL (M4 l.aJ kA kC) (bh [1]) U)<|rP 1 [] I ?_
 refine cw (t:=7) U (aQ fun Z=>?_) (aP fun Z=>?_)
 ·refine bg 11 U<|RK D<|aR U<|WS fun _ R=>rP 1 [] I ?_
  refine RK R<|ar<|Q1 hQ U U U ?_
  exact cB (fP (.inl om)).symm
 refine rP 6 [] (mc 0 U I) ?_
 refine cw (t:=13) U (aQ fun C=>?_) (aP fun C=>?_)
 ·refine bg 5 U<|RK D<|aR U<|WS fun _ S=>rP 1 [] I ?_
  refine RK S<|ar<|Q1 hQ U U U ?_
  exact cB (fP (.inl om)).symm
 refine rP 5 [] (mc 0 U I) ?_
 refine RK D<|cE U (aQ fun N=>?_) (aP fun N=>?_)
 ·refine WS fun _ T=>rP 1 [] I ?_
  refine RK T<|ar<|Q1 hQ U U U ?_
  exact cB (fP (.inl om)).symm
 refine WK P<|ak fun _ AA=>WS fun _ V=>rP 1 [] I ?_
 refine RK V<|ax ?_
 have A:(0≤l.ai.length)∧(zL l 0):=by exact ⟨Nat.zero_le _,fun j c hj=>absurd hj (Nat.not_lt_zero _)⟩
 refine bR (ι:={z:Nat // (z≤l.ai.length)∧(zL l z)}) [1] [0,1,2,3,4] U U (fun z=>[(3,(vI (z.1:Int)))]) (fun z=>[]) (fun _=>rfl) (fun _=>rfl) (fun z=>l.ai.length-z.1) ⟨0,A⟩ (aU U) (aL [0,1,2,3,4]) ?_
 clear A
 rintro ⟨i,⟨W,B⟩⟩ J10 F
 try dsimp only
 refine ak fun _ G=>WS fun _ H=>rP 5 [] (mc 0 U I) ?_
 refine RK H<|bS U (aP fun C=>?_) (aQ fun C=>?_)
 ·refine bB<|ae<|ae<|aA<|KK AA<|WS fun _ L=>rP 1 [] I ?_
  refine RK L<|ar<|Q1 hQ U U U ?_
  exact cB (cr (Ks om om B)).symm
 refine WK G<|ak fun _ AB=>ax<|WS fun _ J=>rP 3 [] (mc 0 U I) ?_
 obtain ⟨x,hx⟩:=aM l.ai i om
 obtain ⟨xa,X⟩:=aM az i om
 have Y:(List.zipWith au.cells l.ai az)[i]? =some (au.cells x xa):=dB hx X
 refine rS (IA i U (aB 2 U) z8 dc om om)<|rS (mK ((i*2)+1) U (aB 2 U) (Nat.mul_pos om dc) fB U)<|rS (gh i 1 (vS xa.1 x.bx.length xa.2) U cm (aB 2 U) Y U dc U)<|rP 2 [] I ?_
 refine RK J<|cE U (aQ fun E=>?_) (aP fun E=>?_)
 ·refine WS fun _ K=>rP 1 [] I ?_
  refine RK K<|ar<|Q1 hQ U U U ?_
  exact cB (fP (JM hx E)).symm
 refine cj<|aH<|KK AB<|an<|rP 3 [] I ?_
 refine aF ?_
 have M:(vI (((i+1):Nat):Int))=(vI ((i:Int)+1)):=by exact cI om
 refine aT (F ⟨(i+1),⟨om,kH B hx om⟩⟩ _ _ _ U os (dy.cons U<|bo U M<|dy.nil _) (aL [0,1,2,3,4]))
theorem wh (d m:Int) (hd:0≤d∧d≤1000) (hm:0≤m∧m≤90000000):
 d_ Tryz.prog 151 [(vI d),(vI m)] [] (vI (oZ (d*m) 1000000)):=by
 have J:=Pq (a:=d) (b:=m) (A:=1000) (B:=90000000) hd.1 hd.2 hm.1 hm.2
 refine bE kr Tryz.func151 U U fun K Q hQ hN=>?_
 try dsimp only
 refine WS fun _ C=>bg 1 U<|RK C<|WS fun _ D=>bg 2 U<|rS (BI U (vg ⟨om,om⟩))<|bg 1 U<|RK D<|ak fun _ E=>WS fun _ F=>bg 1 U<|rS (BI U (FP om om))<|rP 1 [] I ?_
 refine RK F<|cE U (aQ fun AA=>?_) (aP fun AA=>?_)
 ·refine WS fun _ G=>bg 1 U<|rS (BI U (nM om om om))<|rP 2 [] I ?_
  refine RK G<|ar<|Q1 hQ U U U ?_
  exact cI (by unfold oZ; omega)
 refine WK E<|WS fun _ H=>bg 1 U<|rS (BI U (nM om om om))<|rP 1 [] I ?_
 refine RK H<|ar<|Q1 hQ U U U ?_
 exact cI (by unfold oZ; omega)
theorem JJ (c:au) (sA:OA) (sC:Nat) (hlen:c.bx.length≤1000000):
 d_ Tryz.prog 133 [(vA (du.cells (du.mk c.dj (aN.mk sA c.bx.length sC))))] [(rd sA c.bx.length 3 (c.bx.map cH.cells))] (vB (decide (e8 c))):=by
 refine bE kr Tryz.func133 U U fun w0 Q hQ hN=>?_
 try dsimp only
 refine WS fun _ Ac=>fU U fun b2=>bg 1 U<|RK Ac<|ak fun _ Ad=>WS fun _ AK=>fF 2 [] (mc 0 U I) U<|rS (CL (iw c.dj 0 1000) (aK) U)<|rP 2 [] I ?_
 refine cw (t:=14) U (br fun AU=>?_) (bq fun AU=>?_)
 ·refine bg 6 U<|RK AK<|aR U<|WS fun _ Ae=>rP 1 [] I ?_
  refine RK Ae<|ar<|Q1 hQ U U U ?_
  exact cB (cr fun h=>by have q1:=h.rm; have q2:=h.len; omega).symm
 refine fF 3 [] (mc 0 U I) U<|rS (CL (iw (c.bx.length:Int) 1 5) (aK) U)<|rP 2 [] I ?_
 refine RK AK<|cE U (br fun AV=>?_) (bq fun AV=>?_)
 ·refine WS fun _ Af=>rP 1 [] I ?_
  refine RK Af<|ar<|Q1 hQ U U U ?_
  exact cB (cr fun h=>by have q1:=h.rm; have q2:=h.len; omega).symm
 refine WK Ad<|ak fun _ Ag=>WS fun _ Ah=>rP 1 [] I ?_
 refine RK Ah<|ax ?_
 have A:(0≤c.bx.length)∧(∀ (j:Nat) y,j<0→c.bx[j]? =some y→fx c j y):=by exact ⟨Nat.zero_le _,fun j y hj=>absurd hj (Nat.not_lt_zero _)⟩
 refine bR (ι:={z:Nat // (z≤c.bx.length)∧(∀ (j:Nat) y,j<z→c.bx[j]? =some y→fx c j y)}) [1] [0,1] U U (fun z=>[(3,(vI (z.1:Int)))]) (fun z=>[]) (fun _=>rfl) (fun _=>rfl) (fun z=>c.bx.length-z.1) ⟨0,A⟩ (aU U) (aL [0,1]) ?_
 clear A
 rintro ⟨i,⟨a,C⟩⟩ J9 f
 try dsimp only
 have An:=L8 a C
 refine ak fun _ g=>WS fun _ l=>rP 5 [] (mc 0 U I) ?_
 refine RK l<|cE U (aQ fun AW=>?_) (aP fun AW=>?_)
 ·refine WK g<|ak fun _ Am=>ax<|WS fun _ n=>rP 3 [] (mc 0 U I) ?_
  obtain ⟨x,hx⟩:=aM c.bx i om
  have b:=bQ cH.cells hx
  refine rS (IA i U (aB 1 U) p8 dc om om)<|rS (ov i 0 (cH.cells x) U cm (aB 1 U) b U dc U U)<|AL U ry fun Al=>fW U td U<|RK n<|ak fun _ B=>dh cu 41 kr<|lJ 2 [] (mc 0 U I) U<|dS (CL (iw x.At 0 86400000) (aK) U)<|dP 2 [] I ?_
  refine ja (t:=37) U (br fun AX=>?_) (bq fun AX=>?_)
  ·refine kX 36 U<|cK<|RK B<|aR U<|WS fun _ p=>rP 1 [] I ?_
   refine RK p<|ar<|Q1 hQ U U U ?_
   exact cB (cr fun h=>by have q:=h.sync i x hx; unfold fx at q; (rw [gE om] at q; omega)).symm
  refine dP 3 [] I ?_
  refine jg (t:=40) U (aP fun AY=>?_) (aQ fun AY=>?_)
  ·refine dP 19 [] (mc 0 U I) ?_
   refine ja (t:=59) U (aQ fun X=>?_) (aP fun X=>?_)
   ·refine kX 14 U<|cK<|RK B<|aR U<|WS fun _ w=>rP 1 [] I ?_
    refine RK w<|ar<|Q1 hQ U U U ?_
    exact cB (cr fun h=>by have q:=h.sync i x hx; unfold fx at q; (rw [gE om] at q; omega)).symm
   refine dP 9 [] (mc 0 U I) ?_
   refine ja (t:=68) U (aQ fun Y=>?_) (aP fun Y=>?_)
   ·refine kX 5 U<|cK<|RK B<|aR U<|WS fun _ AA=>rP 1 [] I ?_
    refine RK AA<|ar<|Q1 hQ U U U ?_
    exact cB (cr fun h=>by have q:=h.sync i x hx; unfold fx at q; (rw [gE om] at q; omega)).symm
   refine dP 5 [] (mc 0 U I) ?_
   refine cK<|RK B<|bS U (aP fun Z=>?_) (aQ fun Z=>?_)
   ·refine cj<|aH<|KK Am<|an<|rP 3 [] I ?_
    refine aF ?_
    have AO:(vI (((i+1):Nat):Int))=(vI ((i:Int)+1)):=by exact cI om
    refine aT (f ⟨(i+1),⟨om,kH C hx (by unfold fx; (rw [gE om]; omega))⟩⟩ _ _ _ U os (dy.cons U<|bo U AO<|dy.nil _) (aL [1,2]))
   refine WS fun _ AB=>rP 1 [] I ?_
   refine RK AB<|ar<|Q1 hQ U U U ?_
   exact cB (cr fun h=>by have q:=h.sync i x hx; unfold fx at q; (rw [gE om] at q; omega)).symm
  refine dP 6 [0,1] (mc 0 U (mc 1 U I)) ?_
  obtain ⟨y,hy⟩:=aM c.bx (i-1) om
  have d:=bQ cH.cells hy
  refine dS (IA (i-1) U (aB 2 U) p8 dc om om)<|dS (mK ((i-1)*3) U (aB 2 U) (Nat.mul_pos om dc) fB U)<|dS (gh (i-1) 0 (vI y.At) U cm (aB 2 U) d U dc U)<|dP 4 [] I ?_
  refine ja (t:=53) U (aQ fun AZ=>?_) (aP fun AZ=>?_)
  ·refine kX 20 U<|cK<|RK B<|aR U<|WS fun _ r=>rP 1 [] I ?_
   refine RK r<|ar<|Q1 hQ U U U ?_
   exact cB (cr fun h=>by have q:=h.sync i x hx; unfold fx at q; (rw [xp om hy] at q; omega)).symm
  refine dP 6 [] (mc 0 U I) ?_
  refine ja (t:=59) U (aQ fun X=>?_) (aP fun X=>?_)
  ·refine kX 14 U<|cK<|RK B<|aR U<|WS fun _ s=>rP 1 [] I ?_
   refine RK s<|ar<|Q1 hQ U U U ?_
   exact cB (cr fun h=>by have q:=h.sync i x hx; unfold fx at q; (rw [gE om] at q; omega)).symm
  refine dP 9 [] (mc 0 U I) ?_
  refine ja (t:=68) U (aQ fun Y=>?_) (aP fun Y=>?_)
  ·refine kX 5 U<|cK<|RK B<|aR U<|WS fun _ u=>rP 1 [] I ?_
   refine RK u<|ar<|Q1 hQ U U U ?_
   exact cB (cr fun h=>by have q:=h.sync i x hx; unfold fx at q; (rw [gE om] at q; omega)).symm
  refine dP 5 [] (mc 0 U I) ?_
  refine cK<|RK B<|bS U (aP fun Z=>?_) (aQ fun Z=>?_)
  ·refine cj<|aH<|KK Am<|an<|rP 3 [] I ?_
   refine aF ?_
   have AN:(vI (((i+1):Nat):Int))=(vI ((i:Int)+1)):=by exact cI om
   refine aT (f ⟨(i+1),⟨om,kH C hx (by unfold fx; (rw [xp om hy]; omega))⟩⟩ _ _ _ U os (dy.cons U<|bo U AN<|dy.nil _) (aL [1,2]))
  refine WS fun _ v=>rP 1 [] I ?_
  refine RK v<|ar<|Q1 hQ U U U ?_
  exact cB (cr fun h=>by have q:=h.sync i x hx; unfold fx at q; (rw [gE om] at q; omega)).symm
 refine bB<|ae<|ae<|aA<|KK Ag<|ak fun _ AC=>WS fun _ AD=>rP 1 [] I ?_
 refine RK AD<|ax ?_
 have A:(0≤c.bx.length)∧(sw c 0):=by exact ⟨Nat.zero_le _,fun j y hj=>absurd hj (Nat.not_lt_zero _)⟩
 refine bR (ι:={z:Nat // (z≤c.bx.length)∧(sw c z)}) [1] [0,1] U U (fun z=>[(5,(vI (z.1:Int)))]) (fun z=>[]) (fun _=>rfl) (fun _=>rfl) (fun z=>c.bx.length-z.1) ⟨0,A⟩ (aU U) (aL [0,1]) ?_
 clear A
 rintro ⟨m,⟨AQ,G⟩⟩ J28 e
 try dsimp only
 have F:=x3 (P:=fx c) om C
 refine ak fun _ AE=>WS fun _ AF=>rP 5 [] (mc 0 U I) ?_
 refine RK AF<|bS U (aP fun Aa=>?_) (aQ fun Aa=>?_)
 ·refine bB<|ae<|ae<|aA<|KK AC<|WS fun _ AM=>rP 1 [] I ?_
  refine RK AM<|ar<|Q1 hQ U U U ?_
  exact cB (fP (IT om om (x3 om C) om G)).symm
 refine WK AE<|ak fun _ AG=>ax<|WS fun _ AH=>rP 1 [] I ?_
 refine RK AH<|ax ?_
 have A:(0≤m)∧(∀ y,c.bx[m]? =some y→EZ c y 0):=by exact ⟨Nat.zero_le _,fun y _ j o hj=>absurd hj (Nat.not_lt_zero _)⟩
 refine bR (ι:={z:Nat // (z≤m)∧(∀ y,c.bx[m]? =some y→EZ c y z)}) [1,5] [0,1] U U (fun z=>[(6,(vI (z.1:Int)))]) (fun z=>[]) (fun _=>rfl) (fun _=>rfl) (fun z=>m-z.1) ⟨0,A⟩ (aU U) (aL [0,1]) ?_
 clear A
 rintro ⟨k,⟨AR,D⟩⟩ J33 T
 try dsimp only
 refine ak fun _ AI=>WS fun _ AJ=>rP 3 [] I ?_
 refine RK AJ<|bS U (aP fun Ab=>?_) (aQ fun Ab=>?_)
 ·refine bB<|ae<|ae<|aA<|aH<|KK AG<|an<|rP 3 [] I ?_
  refine aF ?_
  have AP:(vI (((m+1):Nat):Int))=(vI ((m:Int)+1)):=by exact cI om
  refine aT (e ⟨(m+1),⟨om,Ei G D om⟩⟩ _ _ _ U os (dy.cons U<|bo U AP<|dy.nil _) (aL [0,1]))
 refine WK AI<|ak fun _ V=>ax<|ak fun _ W=>pq cu [0,1,2,3,4,5,6,7,8,9] [10,11,12,13] [false,false,false,false,false,false,false,false,false,false] [] [(b_ b2 127 (du.cells (du.mk c.dj (aN.mk sA c.bx.length sC)))),(rd sA c.bx.length 3 (c.bx.map cH.cells)).ro] [] kr (aL [0,1]) (aL [])<|eS U (FA 1 U fB U)<|eS U (L1 (vS sA c.bx.length sC) 0 U cm U U)<|eS U (MV U) ?_
 obtain ⟨x,hx⟩:=aM c.bx k om
 have b:=bQ cH.cells hx
 refine eS U (IA k U (aB 1 U) p8 dc om om)<|eS U (ov k 0 (cH.cells x) U cm (aB 1 U) b U dc U U)<|eS U (FA 1 U fB U)<|eS U (L1 (vS sA c.bx.length sC) 0 U cm U U)<|eS U (MV U) ?_
 obtain ⟨y,hy⟩:=aM c.bx m om
 have d:=bQ cH.cells hy
 refine eS U (IA m U (aB 1 U) p8 dc om om)<|eS U (ov m 0 (cH.cells y) U cm (aB 1 U) d U dc U U)<|e9 U<|i_ [10,11] kr (eN ?_<|eN ?_<|kM)
 rotate_left 1
 ·refine NO U U [10,12,13] fun T38 M=>AL U ry fun AS=>RD M 1 U<|N1 10<|NO U U [12,13] fun T40 N=>AL U ry fun AT=>RD N 2 U<|N1 12<|NO U U [13] fun T42 O=>fW U td U<|RD O 2 U<|N1 13<|NO U U [] fun T43 R=>tF U td U<|RD R 2 U<|pP<|KK W<|WS fun _ J=>rP 6 [0,1,2] (mc 2 U (mc 1 U (mc 0 U I))) ?_
  obtain ⟨Ai,Aj,Ak⟩:=uG (fun j z _ hz=>F j z hz) hy (F _ _ hy) (show k<m by omega) hx
  refine bg 1 U<|rS (CL (wh c.dj (y.At-x.At) om om) (aK) U)<|bg 1 U<|RK J<|WS fun _ E=>rP 10 [0,1] (mc 0 U (mc 1 U I)) ?_
  refine cw (t:=113) U (aQ fun H=>?_) (aP fun H=>?_)
  ·refine bg 10 U<|RK E<|aR U<|WS fun _ K=>rP 1 [] I ?_
   refine RK K<|ar<|Q1 hQ U U U ?_
   exact cB (cr fun h=>by have q:=h.pair m k y x hy om hx; unfold nj at q; omega).symm
  refine rP 10 [0,1] (mc 1 U (mc 0 U I)) ?_
  refine RK E<|bS U (aP fun Ao=>?_) (aQ fun Ao=>?_)
  ·refine cj<|aH<|KK V<|an<|rP 3 [] I ?_
   refine aF ?_
   have S:(vI (((k+1):Nat):Int))=(vI ((k:Int)+1)):=by exact cI om
   refine aT (T ⟨(k+1),⟨om,fun z hz=>by rw [hy] at hz; cases hz; exact kH (D _ hy) hx (by unfold nj; omega)⟩⟩ _ _ _ rfl os (dy.cons rfl<|dy.cons rfl<|bo rfl S<|dy.nil _) (aL [2,3]))
  refine WS fun _ L=>rP 1 [] I ?_
  refine RK L<|ar<|Q1 hQ U U U ?_
  exact cB (cr fun h=>by have q:=h.pair m k y x hy om hx; unfold nj at q; omega).symm
 refine NO U U [11,12,13] fun T38 M=>AL U ry fun AS=>RD M 1 U<|N1 11<|NO U U [12,13] fun T40 N=>AL U ry fun AT=>RD N 2 U<|N1 12<|NO U U [13] fun T42 O=>tF U td U<|RD O 2 U<|N1 13<|NO U U [] fun T43 R=>fW U td U<|RD R 2 U<|pP<|KK W<|WS fun _ J=>rP 6 [0,1,2] (mc 2 U (mc 0 U (mc 1 U I))) ?_
 obtain ⟨Ai,Aj,Ak⟩:=uG (fun j z _ hz=>F j z hz) hy (F _ _ hy) (show k<m by omega) hx
 refine bg 1 U<|rS (CL (wh c.dj (y.At-x.At) om om) (aK) U)<|bg 1 U<|RK J<|WS fun _ E=>rP 10 [0,1] (mc 1 U (mc 0 U I)) ?_
 refine cw (t:=113) U (aQ fun H=>?_) (aP fun H=>?_)
 ·refine bg 10 U<|RK E<|aR U<|WS fun _ K=>rP 1 [] I ?_
  refine RK K<|ar<|Q1 hQ U U U ?_
  exact cB (cr fun h=>by have q:=h.pair m k y x hy om hx; unfold nj at q; omega).symm
 refine rP 10 [0,1] (mc 0 U (mc 1 U I)) ?_
 refine RK E<|bS U (aP fun Ao=>?_) (aQ fun Ao=>?_)
 ·refine cj<|aH<|KK V<|an<|rP 3 [] I ?_
  refine aF ?_
  have S:(vI (((k+1):Nat):Int))=(vI ((k:Int)+1)):=by exact cI om
  refine aT (T ⟨(k+1),⟨om,fun z hz=>by rw [hy] at hz; cases hz; exact kH (D _ hy) hx (by unfold nj; omega)⟩⟩ _ _ _ rfl os (dy.cons rfl<|dy.cons rfl<|bo rfl S<|dy.nil _) (aL [2,3]))
 refine WS fun _ L=>rP 1 [] I ?_
 refine RK L<|ar<|Q1 hQ U U U ?_
 exact cB (cr fun h=>by have q:=h.pair m k y x hy om hx; unfold nj at q; omega).symm
theorem Cc (c:au) (sA:OA) (sC:Nat) (at_:Int) (hc:e8 c) (ha:0≤at_∧at_≤90000000):
 d_ Tryz.prog 170 [(vA (du.cells (du.mk c.dj (aN.mk sA c.bx.length sC)))),(vI at_)] [(rd sA c.bx.length 3 (c.bx.map cH.cells))] (vA (aa.cells (hU c at_))):=by
 have e:=hc.len
 have W:=hc.rm
 refine bE kr Tryz.func170 U U fun j Q hQ hN=>?_
 try dsimp only
 refine WS fun _ R=>fU U fun g=>AL U di fun h=>RK R<|WS fun _ S=>AL U di fun d=>RK S<|ak fun _ T=>WS fun _ AA=>rP 1 [] I ?_
 refine RK AA<|ax ?_
 have A:(0≤c.bx.length):=by exact Nat.zero_le _
 refine bR (ι:={z:Nat // (z≤c.bx.length)}) [1,2,4,5] [1,2,3] U U (fun z=>[(6,(vI (z.1:Int)))]) (fun z=>[(b_ d 38 (aa.cells (kB c at_ z.1)))]) (fun _=>rfl) (fun _=>rfl) (fun z=>c.bx.length-z.1) ⟨0,A⟩ (aU U) (aL [1,2,3,0]) ?_
 clear A
 rintro ⟨i,X⟩ J8 D
 try dsimp only
 refine ak fun _ V=>WS fun _ E=>rP 5 [] (mc 1 U I) ?_
 refine RK E<|bS U (aP fun O=>?_) (aQ fun O=>?_)
 ·refine bB<|ae<|ae<|aA<|KK T<|WS fun _ J=>rP 1 [] (mc 3 U I) ?_
  refine fW U cv U<|RK J<|ar<|H3 hQ [0] (mc 0 U I) U ?_
  rw [EF hc (show c.bx.length≤i by omega)]
 refine WK V<|ak fun _ B=>ax<|WS fun _ F=>rP 3 [] (mc 1 U I) ?_
 obtain ⟨x,hx⟩:=aM c.bx i om
 have Z:=bQ cH.cells hx
 refine rS (IA i U (aB 2 U) p8 dc om om)<|rS (ov i 0 (cH.cells x) U cm (aB 2 U) Z U dc U U)<|AL U ry fun a=>fW U td U<|RK F<|WS fun _ G=>rP 2 [] (mc 2 U I) ?_
 have Y:=hc.uI hx
 have f:0≤oZ (c.dj*max (at_-x.At) (x.At-at_)) 1000000∧oZ (c.dj*max (at_-x.At) (x.At-at_)) 1000000≤90001:=tO W ha Y.1
 refine fF 8 [] (mc 0 U I) U<|rS (MX U)<|rS (CL (wh c.dj (max (at_-x.At) (x.At-at_)) om om) (aK) U)<|bg 1 U<|RK G<|WS fun _ H=>fF 10 [] (mc 0 U I) U<|rS (SX (bj (xs:=[(0,.tmp 38),(1,.tmp 43)]) (cs:=(aa.cells (aa.mk (x.eC.Lo-(oZ (c.dj*(max (at_-x.At) (x.At-at_))) 1000000)) (x.eC.Hi+(oZ (c.dj*(max (at_-x.At) (x.At-at_))) 1000000))))) U U (bk gv U)) U U)<|AL U di fun b=>fW U cv U<|RK H<|ak fun _ C=>WS fun _ AB=>rP 2 [] I ?_
 refine RK AB<|bS U (aP fun P=>?_) (aQ fun P=>?_)
 ·refine WK C<|an<|fF 4 [0,1] (mc 5 U (mc 0 U I)) U<|rS (MX U)<|rP 4 [0,1] (mc 5 U (mc 0 U I)) ?_
  refine rS (MN U)<|rS (SX (bj (xs:=[(0,.tmp 52),(1,.tmp 57)]) (cs:=(aa.cells (aa.mk (max ((kB c at_ i).Lo) (x.eC.Lo-(oZ (c.dj*(max (at_-x.At) (x.At-at_))) 1000000))) (min ((kB c at_ i).Hi) (x.eC.Hi+(oZ (c.dj*(max (at_-x.At) (x.At-at_))) 1000000)))))) U U (bk gv U)) U U)<|H4 U cv U<|aF<|aH<|KK B ?_
  have M:(aa.cells (aa.mk (max ((kB c at_ i).Lo) (x.eC.Lo-(oZ (c.dj*(max (at_-x.At) (x.At-at_))) 1000000))) (min ((kB c at_ i).Hi) (x.eC.Hi+(oZ (c.dj*(max (at_-x.At) (x.At-at_))) 1000000)))))=(aa.cells (kB c at_ (i+1))):=by exact congrArg aa.cells (BU hx om).symm
  rw [M]
  refine an<|rP 3 [] I ?_
  refine aF ?_
  have N:(vI (((i+1):Nat):Int))=(vI ((i:Int)+1)):=by exact cI om
  refine aT (D ⟨(i+1),(by first|omega|(simp only []; omega))⟩ _ _ _ U os (cP 4<|bo U N<|dy.nil _) (aL [2,3,4,5]))
 refine an<|fF 1 [] (mc 0 U I) U<|H4 U cv U<|RK C<|an<|fF 4 [0,1] (mc 5 U (mc 0 U I)) U<|rS (MX U)<|rP 4 [0,1] (mc 5 U (mc 0 U I)) ?_
 refine rS (MN U)<|rS (SX (bj (xs:=[(0,.tmp 52),(1,.tmp 57)]) (cs:=(aa.cells (aa.mk (max (x.eC.Lo-(oZ (c.dj*(max (at_-x.At) (x.At-at_))) 1000000)) (x.eC.Lo-(oZ (c.dj*(max (at_-x.At) (x.At-at_))) 1000000))) (min (x.eC.Hi+(oZ (c.dj*(max (at_-x.At) (x.At-at_))) 1000000)) (x.eC.Hi+(oZ (c.dj*(max (at_-x.At) (x.At-at_))) 1000000)))))) U U (bk gv U)) U U)<|H4 U cv U<|aF<|aH<|KK B ?_
 have K:(aa.cells (aa.mk (max (x.eC.Lo-(oZ (c.dj*(max (at_-x.At) (x.At-at_))) 1000000)) (x.eC.Lo-(oZ (c.dj*(max (at_-x.At) (x.At-at_))) 1000000))) (min (x.eC.Hi+(oZ (c.dj*(max (at_-x.At) (x.At-at_))) 1000000)) (x.eC.Hi+(oZ (c.dj*(max (at_-x.At) (x.At-at_))) 1000000)))))=(aa.cells (kB c at_ (i+1))):=by exact congrArg aa.cells (z4 hc ha hx om).symm
 rw [K]
 refine an<|rP 3 [] I ?_
 refine aF ?_
 have L:(vI (((i+1):Nat):Int))=(vI ((i:Int)+1)):=by exact cI om
 refine aT (D ⟨(i+1),(by first|omega|(simp only []; omega))⟩ _ _ _ U os (cP 4<|bo U L<|dy.nil _) (aL [2,3,4,5]))
theorem Ls (l:bf) (kA:OA) (kC:Nat) (az:List RA) (cA:OA) (cC:Nat) (bA:OA) (bC:Nat) (n:Int) (hin:eE l az) (htr:cV l.aJ=true) (hbk: ∀ b∈l.ag,jJ l b) (hn:0≤n∧n<(l.ag.length:Int)):
 d_ Tryz.prog 135 [(vA (bJ.cells (ld l kA kC cA cC bA bC))),(vI n)] [(rd kA l.aJ.length 9 (l.aJ.map ao.cells)),(rd cA l.ai.length 2 (List.zipWith au.cells l.ai az)),(fc (aS au.gW l.ai az)),(rd bA l.ag.length 4 (l.ag.map bG.cells))] (vI (lQ l n.toNat)):=by
 have AA:=hin.si
 have S:=hin.sh
 have P:=hin.nO
 have R:=hin.sf
 have T:=hin.side
 refine bE kr Tryz.func135 U U fun X Q hQ hN=>?_
 try dsimp only
 refine WS fun _ G=>fU U fun V=>bg 1 U<|RK G<|ak fun _ H=>WS fun _ AB=>rP 2 [] I ?_
 refine RK AB<|cE U (aQ fun F=>?_) (aP fun F=>?_)
 ·refine ak fun _ J=>dL cu [11,12] [] [] [0,1,2,3,4] [] U U U U U<|eS U (FA 0 U fB U)<|eS U (LP (aZ.cells (aZ.mk (aN.mk kA l.aJ.length kC))) 0 U cm U U U)<|eS U (FA 3 U fB U)<|eS U (L1 (vS bA l.ag.length bC) 0 U cm U U) ?_
  obtain ⟨y,hy⟩:=aM l.ag 0 om
  have A:=bQ bG.cells hy
  refine eS U (IA 0 U (aB 4 U) vq dc U om)<|eS U (mK (0*4) U (aB 4 U) (Nat.mul_pos om dc) fB U)<|eS U (ov 0 0 (cM.cells y.mx) U cm (aB 4 U) A U dc U U)<|eS U (CL (Sr l.aJ kA kC y.mx asm asm) (bh [1]) U)<|eS U (MV U)<|eS U (EX U)<|eS U (EX U)<|eS U (AG U)<|e9 U<|cq U fun T6 L=>AL U di fun W=>aF (L _ _ (aL [1,2,3,4,5]) ?_)
  refine cq U fun T8 M=>fW U cv U<|aF (M _ _ (aL [1,2,3,4,5]) ?_)
  refine fO U<|KK J<|WS fun _ K=>rP 3 [] (mc 0 U I) ?_
  refine RK K<|ar<|Q1 hQ U U U ?_
  (refine congrArg (Value.int .i64) ?_; rw [show n.toNat=0 by omega]; rw [yU hy,(w4 htr (hbk _ (List.mem_of_getElem? hy)).1).2])
 refine WK H<|ak fun _ B=>dL cu [19,20] [] [] [0,1,2,3,4] [] U U U U U<|eS U (FA 0 U fB U)<|eS U (LP (aZ.cells (aZ.mk (aN.mk kA l.aJ.length kC))) 0 U cm U U U)<|eS U (FA 3 U fB U)<|eS U (L1 (vS bA l.ag.length bC) 0 U cm U U)<|eS U (MV U)<|eS U (BI U (rz ⟨om,om⟩)) ?_
 obtain ⟨y,hy⟩:=aM l.ag (((n-1)).toNat) om
 have A:=bQ bG.cells hy
 refine eS U (IA (((n-1)).toNat) U (aB 4 U) vq dc om om)<|eS U (mK ((((n-1)).toNat)*4) U (aB 4 U) (Nat.mul_pos om dc) fB U)<|eS U (ov (((n-1)).toNat) 0 (cM.cells y.mx) U cm (aB 4 U) A U dc U U)<|eS U (FA 3 U fB U)<|eS U (L1 (vS bA l.ag.length bC) 0 U cm U U)<|eS U (MV U) ?_
 obtain ⟨x,hx⟩:=aM l.ag ((n).toNat) om
 have N:=bQ bG.cells hx
 refine eS U (IA ((n).toNat) U (aB 4 U) vq dc om om)<|eS U (mK (((n).toNat)*4) U (aB 4 U) (Nat.mul_pos om dc) fB U)<|eS U (ov ((n).toNat) 0 (cM.cells x.mx) U cm (aB 4 U) N U dc U U)<|eS U (CL (Lw l.aJ kA kC y.mx x.mx asm asm) (bh [1]) U)<|eS U (MV U)<|eS U (EX U)<|eS U (EX U)<|eS U (AG U)<|e9 U<|cq U fun T11 D=>AL U di fun O=>aF (D _ _ (aL [1,2,3,4,5]) ?_)
 refine cq U fun T13 E=>fW U cv U<|aF (E _ _ (aL [1,2,3,4,5]) ?_)
 refine fO U<|KK B<|WS fun _ C=>rP 3 [] (mc 0 U I) ?_
 refine RK C<|ar<|Q1 hQ U U U ?_
 (refine congrArg (Value.int .i64) ?_; rw [BH om hx (by rw [show n.toNat-1=(n-1).toNat by omega]; exact hy),(kY htr ⟨(hbk _ (List.mem_of_getElem? hy)).1,(hbk _ (List.mem_of_getElem? hx)).1⟩).2])
theorem IU (l:bf) (kA:OA) (kC:Nat) (az:List RA) (cA:OA) (cC:Nat) (bA:OA) (bC:Nat) (n:Int) (hin:eE l az) (htr:cV l.aJ=true) (hok:kR l) (hn:0≤n∧n<(l.ag.length:Int)):
 d_ Tryz.prog 168 [(vA (bJ.cells (ld l kA kC cA cC bA bC))),(vI n)] [(rd kA l.aJ.length 9 (l.aJ.map ao.cells)),(rd cA l.ai.length 2 (List.zipWith au.cells l.ai az)),(fc (aS au.gW l.ai az)),(rd bA l.ag.length 4 (l.ag.map bG.cells))] (vI (ei l n.toNat)):=by
 have G:=hin.si
 have F:=hin.sh
 have D:=hin.nO
 have E:=hin.sf
 have C:=hok.head
 unfold gr at C
 have H:=EW htr hok.vn n.toNat
 have AA:=hok.QR n.toNat om
 refine bE kr Tryz.func168 U U fun K Q hQ hN=>?_
 try dsimp only
 refine WS fun _ A=>fU U fun J=>bg 1 U<|RK A<|ak fun _ B=>dh cu 12 kr<|lJ 2 [] (mc 0 U I) U<|dS (CL (Ls l kA kC az cA cC bA bC n hin htr (by exact hok.vn) hn) (bh [1,2,3,4]) U)<|dS (BI U (vg ⟨om,om⟩))<|lJ 6 [] (mc 0 U I) U<|dS (BI U (nM om om om))<|dP 1 [] I ?_
 refine cK<|RK B<|ar<|Q1 hQ U U U ?_
 exact cI (by unfold ei oZ; rw [Int.mul_comm])
theorem Oc (l:bf) (kA:OA) (kC:Nat) (az:List RA) (cA:OA) (cC:Nat) (bA:OA) (bC:Nat) (hin:eE l az) (htr:cV l.aJ=true):
 d_ Tryz.prog 105 [(vA (bJ.cells (ld l kA kC cA cC bA bC)))] [(rd kA l.aJ.length 9 (l.aJ.map ao.cells)),(rd cA l.ai.length 2 (List.zipWith au.cells l.ai az)),(fc (aS au.gW l.ai az)),(rd bA l.ag.length 4 (l.ag.map bG.cells))] (vB (decide (kR l))):=by
 have Ae:=hin.si
 have Aa:=hin.sh
 have AX:=hin.nO
 have AZ:=hin.sf
 have Ab:=hin.side
 have Ac:=jP htr
 have AW:=kD htr
 refine bE kr Tryz.func105 U U fun w0 Q hQ hN=>?_
 try dsimp only
 refine WS fun _ AM=>fU U fun b2=>bg 1 U<|RK AM<|ak fun _ AN=>WS fun _ D=>fF 2 [] (mc 0 U I) U<|rS (CL (iw l.dG 1 5000) (aK) U)<|rP 2 [] I ?_
 refine cw (t:=10) U (br fun AC=>?_) (bq fun AC=>?_)
 ·refine bg 35 U<|RK D<|aR U<|WS fun _ AO=>rP 1 [] I ?_
  refine RK AO<|ar<|Q1 hQ U U U ?_
  exact cB (cr fun h=>by have q:=h.head; unfold gr at q; omega).symm
 refine fF 3 [] (mc 0 U I) U<|rS (CL (iw (l.ai.length:Int) 1 4) (aK) U)<|rP 3 [] I ?_
 refine cw (t:=17) U (br fun AD=>?_) (bq fun AD=>?_)
 ·refine bg 28 U<|RK D<|aR U<|WS fun _ AP=>rP 1 [] I ?_
  refine RK AP<|ar<|Q1 hQ U U U ?_
  exact cB (cr fun h=>by have q:=h.head; unfold gr at q; omega).symm
 refine fF 3 [] (mc 0 U I) U<|rS (CL (iw (l.ag.length:Int) 1 6) (aK) U)<|rP 3 [] I ?_
 refine cw (t:=24) U (br fun AE=>?_) (bq fun AE=>?_)
 ·refine bg 21 U<|RK D<|aR U<|WS fun _ AQ=>rP 1 [] I ?_
  refine RK AQ<|ar<|Q1 hQ U U U ?_
  exact cB (cr fun h=>by have q:=h.head; unfold gr at q; omega).symm
 refine fF 6 [] (mc 0 U I) U<|rS (CL (iw l.bI 0 ((l.ag.length:Int)-1)) (aK) U)<|rP 3 [] I ?_
 refine cw (t:=34) U (br fun AF=>?_) (bq fun AF=>?_)
 ·refine bg 11 U<|RK D<|aR U<|WS fun _ AR=>rP 1 [] I ?_
  refine RK AR<|ar<|Q1 hQ U U U ?_
  exact cB (cr fun h=>by have q:=h.head; unfold gr at q; omega).symm
 refine fF 2 [] (mc 0 U I) U<|rS (CL (iw l.cy 0 3) (aK) U)<|rP 3 [] I ?_
 refine cw (t:=40) U (br fun AG=>?_) (bq fun AG=>?_)
 ·refine bg 5 U<|RK D<|aR U<|WS fun _ AS=>rP 1 [] I ?_
  refine RK AS<|ar<|Q1 hQ U U U ?_
  exact cB (cr fun h=>by have q:=h.head; unfold gr at q; omega).symm
 refine fF 2 [] (mc 0 U I) U<|rS (CL (iw l.bL 0 3) (aK) U)<|rP 2 [] I ?_
 refine RK D<|cE U (br fun AH=>?_) (bq fun AH=>?_)
 ·refine WS fun _ N=>rP 1 [] I ?_
  refine RK N<|ar<|Q1 hQ U U U ?_
  exact cB (cr fun h=>by have q:=h.head; unfold gr at q; omega).symm
 refine WK AN<|ak fun _ O=>WS fun _ R=>rP 1 [] I ?_
 refine RK R<|ax ?_
 have A:(0≤l.ai.length)∧(∀ (j:Nat) y,j<0→l.ai[j]? =some y→e8 y):=by exact ⟨Nat.zero_le _,fun j y hj=>absurd hj (Nat.not_lt_zero _)⟩
 refine bR (ι:={z:Nat // (z≤l.ai.length)∧(∀ (j:Nat) y,j<z→l.ai[j]? =some y→e8 y)}) [1] [0,1,2,3,4] U U (fun z=>[(3,(vI (z.1:Int)))]) (fun z=>[]) (fun _=>rfl) (fun _=>rfl) (fun z=>l.ai.length-z.1) ⟨0,A⟩ (aU U) (aL [0,1,2,3,4]) ?_
 clear A
 rintro ⟨i,⟨AT,F⟩⟩ J13 K
 try dsimp only
 refine ak fun _ S=>WS fun _ T=>rP 5 [] (mc 0 U I) ?_
 refine RK T<|cE U (aQ fun AI=>?_) (aP fun AI=>?_)
 ·refine WK S<|ak fun _ Af=>ax<|WS fun _ V=>rP 3 [] (mc 0 U I) ?_
  obtain ⟨x,hx⟩:=aM l.ai i om
  obtain ⟨xa,J⟩:=aM az i om
  have AV:(List.zipWith au.cells l.ai az)[i]? =some (au.cells x xa):=dB hx J
  refine rS (IA i U (aB 2 U) z8 dc om om)<|rS (ov i 0 (du.cells (du.mk x.dj (aN.mk xa.1 x.bx.length xa.2))) U cm (aB 2 U) AV U dc U U) ?_
  have Ad:=(hin.QQ _ _ _ hx J).2
  refine rS (CL (JJ x xa.1 xa.2 asm) (ay (show iq _ (rd xa.1 x.bx.length 3 (x.bx.map cH.cells)).holds from (cT 3 U (bT hx J (by simp [au.gW]))))<|aK) U)<|rP 1 [] I ?_
  refine RK V<|bS U (bq fun Ag=>?_) (br fun Ag=>?_)
  ·refine cj<|aH<|KK Af<|an<|rP 3 [] I ?_
   refine aF ?_
   have u:(vI (((i+1):Nat):Int))=(vI ((i:Int)+1)):=by exact cI om
   refine aT (K ⟨(i+1),⟨om,kH (P:=fun _ y=>e8 y) F hx Ag⟩⟩ _ _ _ U os (dy.cons U<|bo U u<|dy.nil _) (aL [0,1,2,3,4]))
  refine WS fun _ W=>rP 1 [] I ?_
  refine RK W<|ar<|Q1 hQ U U U ?_
  exact cB (cr fun h=>Ag (h.clock _ (aV hx))).symm
 refine bB<|ae<|ae<|aA<|KK O<|ak fun _ X=>WS fun _ Y=>rP 1 [] I ?_
 refine RK Y<|ax ?_
 have A:(0≤l.ag.length)∧(∀ (j:Nat) y,j<0→l.ag[j]? =some y→jJ l y):=by exact ⟨Nat.zero_le _,fun j y hj=>absurd hj (Nat.not_lt_zero _)⟩
 refine bR (ι:={z:Nat // (z≤l.ag.length)∧(∀ (j:Nat) y,j<z→l.ag[j]? =some y→jJ l y)}) [1] [0,1,2,3,4] U U (fun z=>[(4,(vI (z.1:Int)))]) (fun z=>[]) (fun _=>rfl) (fun _=>rfl) (fun z=>l.ag.length-z.1) ⟨0,A⟩ (aU U) (aL [0,1,2,3,4]) ?_
 clear A
 rintro ⟨m,⟨AU,B⟩⟩ J22 L
 try dsimp only
 refine ak fun _ Z=>WS fun _ a=>rP 5 [] (mc 0 U I) ?_
 refine RK a<|bS U (aP fun AJ=>?_) (aQ fun AJ=>?_)
 ·refine bB<|ae<|ae<|aA<|KK X<|ak fun _ e=>WS fun _ f=>rP 1 [] I ?_
  refine RK f<|ax ?_
  have A:(0≤l.ag.length)∧(∀ j,j<0→1≤lQ l j):=by exact ⟨Nat.zero_le _,fun j hj=>absurd hj (Nat.not_lt_zero _)⟩
  refine bR (ι:={z:Nat // (z≤l.ag.length)∧(∀ j,j<z→1≤lQ l j)}) [1] [0,1,2,3,4] U U (fun z=>[(5,(vI (z.1:Int)))]) (fun z=>[]) (fun _=>rfl) (fun _=>rfl) (fun z=>l.ag.length-z.1) ⟨0,A⟩ (aU U) (aL [0,1,2,3,4]) ?_
  clear A
  rintro ⟨n,⟨AB,C⟩⟩ J32 M
  try dsimp only
  have AY:=qa (P:=jJ l) om B
  refine ak fun _ g=>WS fun _ k=>rP 5 [] (mc 0 U I) ?_
  refine RK k<|bS U (aP fun AL=>?_) (aQ fun AL=>?_)
  ·refine bB<|ae<|ae<|aA<|KK e<|WS fun _ s=>rP 1 [] I ?_
   refine RK s<|ar<|Q1 hQ U U U ?_
   exact cB (fP (yN (by unfold gr; omega) (qa om F) (qa om B) (fun j hj=>C j om))).symm
  refine WK g<|ak fun _ o=>ax<|WS fun _ p=>fF 2 [] (mc 0 U I) U<|rS (CL (Ls l kA kC az cA cC bA bC (n:Int) hin htr asm om) (bh [1,2,3,4]) U)<|rP 1 [] I ?_
  refine RK p<|bS U (aP fun E=>?_) (aQ fun E=>?_)
  ·refine cj<|aH<|KK o<|an<|rP 3 [] I ?_
   refine aF ?_
   have w:(vI (((n+1):Nat):Int))=(vI ((n:Int)+1)):=by exact cI om
   refine aT (M ⟨(n+1),⟨om,fun j hj=>by rcases Nat.lt_or_ge j n with q|q; exact C j q; (obtain rfl:j=n:=by omega); simp only [Int.toNat_natCast] at E; omega⟩⟩ _ _ _ rfl os (dy.cons rfl<|bo rfl w<|dy.nil _) (aL [0,1,2,3,4]))
  refine WS fun _ r=>rP 1 [] I ?_
  refine RK r<|ar<|Q1 hQ U U U ?_
  exact cB (cr fun h=>by have q:=h.QR n om; simp only [Int.toNat_natCast] at E; omega).symm
 refine WK Z<|ak fun _ b=>ax<|ak fun _ H=>dh cu 24 kr<|kX 1 U<|dS (LP (aZ.cells (aZ.mk (aN.mk kA l.aJ.length kC))) 0 U cm U U U)<|dP 3 [] (mc 0 U I) ?_
 obtain ⟨y,hy⟩:=aM l.ag m om
 have AA:=bQ bG.cells hy
 refine dS (IA m U (aB 4 U) vq dc om om)<|dS (mK (m*4) U (aB 4 U) (Nat.mul_pos om dc) fB U)<|dS (ov m 0 (cM.cells y.mx) U cm (aB 4 U) AA U dc U U)<|dS (CL (qJ l.aJ kA kC y.mx asm asm) (bh [1]) U)<|dP 2 [] I ?_
 refine ja (t:=77) U (br fun G=>?_) (bq fun G=>?_)
 ·refine kX 13 U<|cK<|RK H<|aR U<|WS fun _ c=>rP 1 [] I ?_
  refine RK c<|ar<|Q1 hQ U U U ?_
  exact cB (cr fun h=>by have q:=h.vn _ (aV hy); have q2:=q.2; first|exact G q.1|omega).symm
 refine lJ 3 [] (mc 0 U I) U<|dS (IA m U (aB 4 U) vq dc om om)<|dS (mK ((m*4)+3) U (aB 4 U) (Nat.mul_pos om dc) fB U)<|dS (gh m 3 (vI y.jN) U cm (aB 4 U) AA U dc U)<|lJ 4 [] (mc 0 U I) U<|dS (CL (iw y.jN 0 ((l.ai.length:Int)-1)) (aK) U)<|dP 2 [] I ?_
 refine cK<|RK H<|bS U (bq fun AK=>?_) (br fun AK=>?_)
 ·refine cj<|aH<|KK b<|an<|rP 3 [] I ?_
  refine aF ?_
  have v:(vI (((m+1):Nat):Int))=(vI ((m:Int)+1)):=by exact cI om
  refine aT (L ⟨(m+1),⟨om,kH (P:=fun _ y=>jJ l y) B hy ⟨G,om,om⟩⟩⟩ _ _ _ U os (dy.cons U<|bo U v<|dy.nil _) (aL [0,1,2,3,4]))
 refine WS fun _ d=>rP 1 [] I ?_
 refine RK d<|ar<|Q1 hQ U U U ?_
 exact cB (cr fun h=>by have q:=h.vn _ (aV hy); have q2:=q.2; first|exact G q.1|omega).symm
end
section
open Go.RowKit
theorem CE (r:cd) (kA:OA) (kC:Nat) (az:List RA) (cA:OA) (cC:Nat) (bA:OA) (bC:Nat) (slA:OA) (slC:Nat) (drA:OA) (drC:Nat) (ha:List cS) (heA:OA) (heC:Nat) (hraw:qW r az ha):
 d_ Tryz.prog 29 [(vA (bu.cells (ou r kA kC cA cC bA bC slA slC drA drC heA heC)))] [(rd kA r.ah.aJ.length 9 (r.ah.aJ.map ao.cells)),(rd cA r.ah.ai.length 2 (List.zipWith au.cells r.ah.ai az)),(fc (aS au.gW r.ah.ai az)),(rd bA r.ah.ag.length 4 (r.ah.ag.map bG.cells)),(rd slA r.aI.length 1 (r.aI.map iC)),(rd drA r.bD.length 1 (r.bD.map iC)),(rd heA r.aq.length 1 (List.zipWith cD r.aq ha)),(fc (aS im r.aq ha))] (vB (decide (oo r))):=by
 have AA:=hraw.line
 have AE:=hraw.iP
 have AG:=hraw.has
 have AD:=hraw.iR
 have AB:=hraw.draw
 refine bE kr Tryz.func29 U U fun w0 Q hQ hN=>?_
 try dsimp only
 refine WS fun _ l=>fU U fun b2=>bg 1 U<|RK l<|ak fun _ m=>WS fun _ H=>bg 1 U<|rS (LP (bJ.cells (ld r.ah kA kC cA cC bA bC)) 0 U cm U U U)<|rS (CL (I1 r.ah kA kC az cA cC bA bC asm) (bh [1,2,3,4]) U)<|rP 1 [] I ?_
 refine cw (t:=8) U (aQ fun k=>?_) (aP fun k=>?_)
 ·refine bg 17 U<|RK H<|aR U<|WS fun _ n=>rP 1 [] I ?_
  refine RK n<|ar<|Q1 hQ U U U ?_
  exact cB (fP (pA (.inl k))).symm
 refine rP 6 [] (mc 0 U I) ?_
 refine cw (t:=14) U (aQ fun AJ=>?_) (aP fun AJ=>?_)
 ·refine bg 11 U<|RK H<|aR U<|WS fun _ o=>rP 1 [] I ?_
  refine RK o<|ar<|Q1 hQ U U U ?_
  exact cB (fP (pA (.inr om))).symm
 refine rP 6 [] (mc 0 U I) ?_
 refine cw (t:=20) U (aQ fun f=>?_) (aP fun f=>?_)
 ·refine bg 5 U<|RK H<|aR U<|WS fun _ p=>rP 1 [] I ?_
  refine RK p<|ar<|Q1 hQ U U U ?_
  exact cB (fP (pA (.inr om))).symm
 refine rP 5 [] (mc 0 U I) ?_
 refine RK H<|cE U (aQ fun h=>?_) (aP fun h=>?_)
 ·refine WS fun _ q=>rP 1 [] I ?_
  refine RK q<|ar<|Q1 hQ U U U ?_
  exact cB (fP (pA (.inr om))).symm
 refine WK m<|ak fun _ s=>WS fun _ N=>rP 1 [] I ?_
 refine RK N<|ax ?_
 have B:(0≤r.aq.length)∧(lF r 0):=by exact ⟨Nat.zero_le _,Cv⟩
 refine bR (ι:={z:Nat // (z≤r.aq.length)∧(lF r z)}) [1] [0,1,2,3,4,5,6,7,8] U U (fun z=>[(3,(vI (z.1:Int)))]) (fun z=>[]) (fun _=>rfl) (fun _=>rfl) (fun z=>r.aq.length-z.1) ⟨0,B⟩ (aU U) (aL [0,1,2,3,4,5,6,7,8]) ?_
 clear B
 rintro ⟨i,⟨x,F⟩⟩ J11 L
 try dsimp only
 refine ak fun _ O=>WS fun _ P=>rP 5 [] (mc 0 U I) ?_
 refine RK P<|bS U (aP fun AJ=>?_) (aQ fun AJ=>?_)
 ·refine bB<|ae<|ae<|aA<|KK s<|WS fun _ b=>rP 1 [] I ?_
  refine RK b<|ar<|Q1 hQ U U U ?_
  exact cB (cr (GN k om F om)).symm
 refine WK O<|ak fun _ R=>ax<|ak fun _ S=>WS fun _ T=>rP 3 [] (mc 0 U I) ?_
 obtain ⟨ht,D⟩:=aM r.aq i om
 obtain ⟨A,C⟩:=aM ha i om
 have E:(List.zipWith cD r.aq ha)[i]? =some (cD ht A):=dB D C
 refine rS (IA i U (aB 7 U) pk dc om om)<|rS (gh i 0 (vS A.1.1 ht.length A.1.2) U cm (aB 7 U) E U dc U) ?_
 obtain ⟨AF,AC,w⟩:=hraw.nu _ _ _ D C
 refine rP 2 [] I ?_
 refine RK T<|cE U (aQ fun J=>?_) (aP fun J=>?_)
 ·refine WS fun _ AI=>rP 1 [] I ?_
  refine RK AI<|ar<|Q1 hQ U U U ?_
  exact cB (fP (Cj D J)).symm
 refine WK S<|WS fun _ V=>rP 1 [] I ?_
 refine RK V<|ax ?_
 have B:(0≤ht.length)∧(mN ht 0):=by exact ⟨Nat.zero_le _,CA⟩
 refine bR (ι:={z:Nat // (z≤ht.length)∧(mN ht z)}) [1,3] [0,1,2,3,4,5,6,7,8] U U (fun z=>[(4,(vI (z.1:Int)))]) (fun z=>[]) (fun _=>rfl) (fun _=>rfl) (fun z=>ht.length-z.1) ⟨0,B⟩ (aU U) (aL [0,1,2,3,4,5,6,7,8]) ?_
 clear B
 rintro ⟨j,⟨y,G⟩⟩ J20 M
 try dsimp only
 refine ak fun _ W=>WS fun _ X=>fF 4 [] (mc 0 U I) U<|rS (IA i U (aB 7 U) pk dc om om)<|rS (gh i 0 (vS A.1.1 ht.length A.1.2) U cm (aB 7 U) E U dc U)<|rP 2 [] I ?_
 refine RK X<|bS U (aP fun g=>?_) (aQ fun g=>?_)
 ·refine bB<|ae<|ae<|aA<|aH<|KK R<|an<|rP 3 [] I ?_
  refine aF ?_
  have e:(vI (((i+1):Nat):Int))=(vI ((i:Int)+1)):=by exact cI om
  refine aT (L ⟨(i+1),⟨om,BL F D (DQ J G om)⟩⟩ _ _ _ U os (dy.cons U<|bo U e<|dy.nil _) (aL [0,1,2,3,4,5,6,7,8]))
 refine WK W<|ak fun _ Y=>ax<|WS fun _ Z=>fF 3 [] (mc 0 U I) U<|rS (IA i U (aB 7 U) pk dc om om)<|rS (gh i 0 (vS A.1.1 ht.length A.1.2) U cm (aB 7 U) E U dc U)<|rP 1 [] I ?_
 obtain ⟨d,hd⟩:=aM ht j om
 obtain ⟨da,u⟩:=aM A.2 j om
 have v:(List.zipWith aw.cells ht A.2)[j]? =some (aw.cells d da):=dB hd u
 refine rS (IA j U (show iq _ (rd A.1.1 ht.length 7 (List.zipWith aw.cells ht A.2)).holds from (cT 8 U (bT D C bZ))) sE dc om om)<|rS (mK ((j*7)+4) U (show iq _ (rd A.1.1 ht.length 7 (List.zipWith aw.cells ht A.2)).holds from (cT 8 U (bT D C bZ))) (Nat.mul_pos om dc) fB U)<|rS (mK (((j*7)+4)+2) U (show iq _ (rd A.1.1 ht.length 7 (List.zipWith aw.cells ht A.2)).holds from (cT 8 U (bT D C bZ))) (Nat.mul_pos om dc) fB U)<|rS (gh j 6 (vS da.1 d.cz.aj.length da.2) U cm (show iq _ (rd A.1.1 ht.length 7 (List.zipWith aw.cells ht A.2)).holds from (cT 8 U (bT D C bZ))) v U dc U) ?_
 have AH:=w d (aV hd)
 refine rP 2 [] I ?_
 refine RK Z<|bS U (aP fun K=>?_) (aQ fun K=>?_)
 ·refine cj<|aH<|KK Y<|an<|rP 3 [] I ?_
  refine aF ?_
  have c:(vI (((j+1):Nat):Int))=(vI ((j:Int)+1)):=by exact cI om
  refine aT (M ⟨(j+1),⟨om,B_ G hd K⟩⟩ _ _ _ U os (dy.cons U<|dy.cons U<|bo U c<|dy.nil _) (aL [0,1,2,3,4,5,6,7,8]))
 refine WS fun _ a=>rP 1 [] I ?_
 refine RK a<|ar<|Q1 hQ U U U ?_
 exact cB (fP (DG D hd K)).symm
end
end Go.Proofs.YtdllkkdchkhimaaGreatDoor
