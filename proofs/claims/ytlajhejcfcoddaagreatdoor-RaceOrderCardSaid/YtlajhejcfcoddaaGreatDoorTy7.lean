/-
 The statement raceOrder_said, part 7 of 8: Rx3, Rx5, Rx8, Rx9, Rx10, Rx11, CloneM, RkB, RaB, RtB, Rp0, Rp1, Rp2, Rx12, Rz1, Rz2, Rs6, Rs7, Rs8, Rt1, Rt2, Rz3, Rz4, B7, B8.
 Conditions: none.
-/
import Derived.Test.YtlajhejcfcoddaaGreatDoorTy1
import Derived.Test.YtlajhejcfcoddaaGreatDoorTy2
import Derived.Test.YtlajhejcfcoddaaGreatDoorTy3
import Derived.Test.YtlajhejcfcoddaaGreatDoorTy4
import Derived.Test.YtlajhejcfcoddaaGreatDoorTy5
import Derived.Test.YtlajhejcfcoddaaGreatDoorTy6
import Derived.MapKept
import Derived.Laws.Externs
namespace Go.Proofs.YtlajhejcfcoddaaGreatDoor
set_option maxRecDepth 100000
set_option maxHeartbeats 4000000
set_option linter.unusedVariables false
section
open Go.RowKit
theorem Kw (a b:Int) (r:bT) (kA:OA) (kC:Nat) (cA:OA) (cC:Nat) (bA:OA) (bC:Nat) (slA:OA) (slC:Nat) (drA:OA) (drC:Nat) (heA:OA) (heC:Nat) (tA:OA) (tN tC:Nat) (gs gw:Nat) (m:g8) (g1:Nat) (hb: ∀ p∈m,0≤p.2.Lo∧p.2.Lo≤p.2.Hi∧p.2.Hi≤30000000):
 ep Tryz.prog 53 [(vI a),(vI b),(vP g1)] [(cb gw 112 (fV.cells (fV.mk (oQ r kA kC cA cC bA bC slA slC drA drC heA heC) (bo.mk tA tN tC) (Value.map (some gs))))),(g_ iV gs (bM dD m)),(cb g1 94 [(vP gw)])] (vI ((aF m a).Lo-(aF m b).Lo)):=by
 have A:=g0 (i:=a) hb
 have B:=g0 (i:=b) hb
 refine bG kr Tryz.func53 U U fun E Q hQ hN=>?_
 try dsimp only
 refine WS fun _ C=>bh 1 U<|RK C<|aj fun _ D=>dK cE 16 kr<|mT 1 [] (mr 2 U mn) U<|dS (SX (bO U U) U U)<|mT 3 [] (mr 0 U mn) U<|dS (SX (gh (kV:=iV) (x:=a) (l:=m) (f:=dD) (z:=(aa.mk 0 0)) U U U k8 (db mY) rO (by exact iM 1 U)) U U)<|dS (SX (iL (v:=(vI (((List.lookup a m).getD (aa.mk 0 0)).Lo))) U U fp Aj U) U U)<|mT 1 [] (mr 2 U mn) U<|dS (SX (bO U U) U U)<|dP 3 [] (mr 0 U mn) ?_
 refine dS (SX (gh (kV:=iV) (x:=b) (l:=m) (f:=dD) (z:=(aa.mk 0 0)) U U U k8 (db mY) rO (by exact iM 1 U)) U U)<|dS (SX (iL (v:=(vI (((List.lookup b m).getD (aa.mk 0 0)).Lo))) U U fp Aj U) U U) ?_
 unfold aF at A B
 simp only [dH] at A B
 refine dP 2 [] mn ?_
 refine cR<|RK D<|aq ?_
 exact Q1 hQ U U U U
theorem FI (r:bT) (kA:OA) (kC:Nat) (az:List RA) (cA:OA) (cC:Nat) (bA:OA) (bC:Nat) (slA:OA) (slC:Nat) (drA:OA) (drC:Nat) (ha:List cy) (heA:OA) (heC:Nat) (hin:eO r az ha):
 ld Tryz.prog 17 [(vA (cp.cells (oQ r kA kC cA cC bA bC slA slC drA drC heA heC)))] [(rd fg 3 2 eu),(rd kA r.ao.aM.length 9 (r.ao.aM.map al.cells)),(rd cA r.ao.ai.length 2 (List.zipWith ar.cells r.ao.ai az)),(fc (aU ar.g4 r.ao.ai az)),(rd bA r.ao.ae.length 4 (r.ao.ae.map bH.cells)),(rd slA r.aL.length 1 (r.aL.map iC)),(rd drA r.bE.length 1 (r.bE.map iC)),(rd heA r.an.length 1 (List.zipWith ct r.an ha)),(fc (aU iw r.an ha))] (fun (x:(List RA)×(OA)×Nat)=>(vT [(vS x.2.1 ((dN r).length) x.2.2),(vI (cD r))])) (fun (x:(List RA)×(OA)×Nat)=>x.1.length=(dN r).length) (fun (x:(List RA)×(OA)×Nat)=>[(own x.2.1 x.2.2 29 1 (List.zipWith nq (dN r) x.1)),(bw (aU sU (dN r) x.1))]):=by
 have IO:=hin.line
 have Li:=hin.iH
 have Lk:=hin.has
 have J5:=hin.iI
 have J2:=hin.draw
 have J6:=dE (r:=r)
 refine dg kr Tryz.func17 U U fun w0 Q hQ hN=>?_
 try dsimp only
 refine WS fun _ GE=>fQ U fun b2=>bh 2 U<|RK GE<|WS fun _ Ai=>rP 1 [] (mc 0 U mn) ?_
 refine cX (oB r kA kC az cA cC bA bC slA slC drA drC ha heA heC hin) (bg [1,2,3,4,5,6,7,8,9]) U fun y4 Do=>?_
 obtain ⟨Dz,LE,X,O,EQ,W,KM⟩:=y4
 cases Dz
 ·obtain ⟨C3,he⟩:=Do.2 rfl
  try dsimp only at C3 he
  subst C3
  try dsimp only [cond_true,cond_false,List.cons_append,List.nil_append]
  refine bh 3 U<|AL U Tm fun K0=>D7 U TR U U<|bh 1 U<|RK Ai<|aj fun _ JQ=>WS fun _ p=>rP 2 [] mn ?_
  refine RK p<|bQ U (br fun g=>?_) (bu fun g=>?_)
  ·exact absurd g he
  refine WS fun _ s=>rP 1 [] mn ?_
  have E:dN r=[]:=C5 he
  have Z:([]:List RA).length=(dN r).length:=by rw [E]; rfl
  refine dV 29 1<|xg ?_
  rw [show (own none 0 29 1 ([]:List (List Value)))=own none 0 29 1 (List.zipWith nq (dN r) []) from by rw [E]; rfl,show bw []=bw (aU sU (dN r) []) from by rw [E]; rfl]
  refine rP 2 [] mn ?_
  refine RK s<|aq ?_
  refine LX hQ ([],none,0) [1,0] [] mn U (by show List.all _ _=true; simp only [fw,List.all_nil,Ku,Bool.and_true]; rfl) U ?_ ?_
  ·first|rfl|(rw [E]; rfl)|(rw [he,← E,List.length_map]; rfl)|(rw [he,E]; rfl)
  ·exact Z
 obtain ⟨he,L2⟩:=Do.1 rfl
 try dsimp only [cond_true,cond_false,List.cons_append,List.nil_append]
 have AB:=oL he
 have J4:=mu he
 refine bh 3 U<|AL U Tm fun R=>D7 U TR U U<|bh 1 U<|RK Ai<|aj fun _ t=>WS fun _ v=>bh 1 U<|rS (SX (b_ (r:= .bool false) U U U nK) U U)<|RK v<|aW U<|WK t<|WS fun _ w=>bh 1 U<|RK w<|WS fun _ y=>bh 1 U<|RK y<|aj fun _ AC=>WS fun _ AO=>fu 1 [] (mc 0 U mn) U<|rS (SX (bO U U) U U)<|rP 2 [] (mc 1 U mn) ?_
 refine cX (F8 O) (aI) U fun Fd J7=>?_
 try dsimp only
 refine cX (zN (aG r) O Fd sd) (bg [5,0]) U fun In J8=>?_
 obtain ⟨FS,Fm⟩:=In
 try dsimp only
 rw [show (aG r).length=(dv ((aG r).map (·.1))).length from by rw [gF,List.length_map]]
 refine rS (FU U) ?_
 refine cX (zR (dv ((aG r).map (·.1))) FS Fm (Value.func (.func 53) [].toArray [(vP R)].toArray) (fun u=>(aF (aG r) u).Lo) (fc [(cb X 112 (fV.cells (fV.mk (oQ r kA kC cA cC bA bC slA slC drA drC heA heC) (bo.mk EQ ((cS r).length) W) (Value.map (some O))))),(g_ iV O (bM dD (aG r))),(cb R 94 [(vP X)])]) (by intro Id If _; exact nZ (fi:=[]) (ca:=[(vP R)]) (mm (Kw Id If r kA kC cA cC bA bC slA slC drA drC heA heC EQ ((cS r).length) W O X (aG r) R (by first|assumption|omega)) (Oq 0 1 2 U U U U U U))) (by exact RV AB) (by rw [gF,List.length_map]; omega)) (av (ag (n:=(dv ((aG r).map (·.1))).length) 0 U sm)<|av (mh (Oq 3 6 2 U U U U U U))<|aI) U fun JM J9=>?_
 obtain ⟨Kj,LD⟩:=JM
 try dsimp only
 have L0:(ek (fun u=>(aF (aG r) u).Lo) (dv ((aG r).map (·.1)))).length=(aG r).length:=by rw [kJ,gF,List.length_map]
 have Dk:C4 (fun u=>(aF (aG r) u).Lo) (ek (fun u=>(aF (aG r) u).Lo) (dv ((aG r).map (·.1)))):=uD
 refine rP 2 [] mn ?_
 refine RK AO<|ax<|fZ 29 1<|lX ?_
 have H:(0≤(ek (fun u=>(aF (aG r) u).Lo) (dv ((aG r).map (·.1)))).length)∧(([]:List RA).length=([]:List (List Int)).length)∧(mL (aF (aG r)) ((ek (fun u=>(aF (aG r) u).Lo) (dv ((aG r).map (·.1)))).take 0) ([]:List (List Int)) (-1))∧(-1≤(-1)∧(-1)≤30000000):=by exact ⟨Nat.zero_le _,rfl,GK,I⟩
 refine bL (ι:={z:Nat×(List (List Int))×(List RA)×(OA)×Nat×Int // (z.1≤(ek (fun u=>(aF (aG r) u).Lo) (dv ((aG r).map (·.1)))).length)∧(z.2.2.1.length=z.2.1.length)∧(mL (aF (aG r)) ((ek (fun u=>(aF (aG r) u).Lo) (dv ((aG r).map (·.1)))).take z.1) z.2.1 z.2.2.2.2.2)∧(-1≤z.2.2.2.2.2∧z.2.2.2.2.2≤30000000)}) [1,4,29,30] [2,3,5,6,7,8,9,11,12,13,14,15,16,17,18,19] U U (fun z=>[(6,(vS z.1.2.2.2.1 z.1.2.1.length z.1.2.2.2.2.1)),(7,(vI z.1.2.2.2.2.2)),(31,(vI (z.1.1:Int)))]) (fun z=>[(bw (aU sU z.1.2.1 z.1.2.2.1)),(own z.1.2.2.2.1 z.1.2.2.2.2.1 29 1 (List.zipWith nq z.1.2.1 z.1.2.2.1))]) (fun _=>rfl) (fun _=>rfl) (fun z=>(ek (fun u=>(aF (aG r) u).Lo) (dv ((aG r).map (·.1)))).length-z.1.1) ⟨(0,([]:List (List Int)),([]:List RA),none,0,(-1)),H⟩ (aV U) (aH [2,3,5,6,7,8,9,11,12,13,14,15,16,17,18,19,0,1]) ?_
 clear H
 rintro ⟨⟨i,G,gz,a,c,last⟩,⟨b,C,A,d⟩⟩ J37 T
 try dsimp only at b C A d
 try dsimp only
 have Go:G.length≤12:=by have:=Fl A; omega
 have LT:(G++[([]:List Int)]).length=G.length+1:=by simp
 have J3:(gz++[((none,0):RA)]).length=gz.length+1:=by simp
 refine WS fun _ As=>rP 1 [] mn ?_
 refine RK As<|aj fun _ A0=>bQ U (aO fun Fn=>?_) (aN fun Fn=>?_)
 ·refine bD<|ab<|ab<|ay<|KK AC<|aj fun _ A8=>aj fun _ A9=>?_
  have Go:G.length≤12:=by have:=Fl A; omega
  refine ak<|rP 3 [] mn ?_
  refine RK A9<|ax ?_
  have H:(0≤G.length):=by exact Nat.zero_le _
  refine bL (ι:={z:Nat // (z≤G.length)}) [1,6,66,67] [0,1,3,4,5,6,7,8,9,10,11,12,13,14,15,17] U U (fun z=>[(68,(vI (z.1:Int)))]) (fun z=>[(bw (aU sU (n7 G z.1) gz))]) (fun _=>rfl) (fun _=>rfl) (fun z=>G.length-z.1) ⟨0,H⟩ (aV U) (aH [0,1,3,4,5,6,7,8,9,10,11,12,13,14,15,17,16]) ?_
  clear H
  rintro ⟨j,Eq⟩ J65 h
  try dsimp only
  refine WS fun _ B3=>rP 1 [] mn ?_
  refine RK B3<|aj fun _ B7=>bQ U (aO fun F5=>?_) (aN fun F5=>?_)
  ·refine bD<|ab<|ab<|ay<|KK A8<|aj fun _ Ck=>?_
   have H1:G.length≤j:=by omega
   have Y:=vd A.ok
   rw [List.take_of_length_le I] at Y
   have E:G.map dv=dN r:=tO he (qs Y.1 (oH.trans fK)) Y.2
   have Z:gz.length=(dN r).length:=by rw [← E,List.length_map]; omega
   rw [DR H1,E,← Mk,E]
   refine ak<|bh 1 U<|rP 2 [] mn ?_
   refine RK Ck<|aq ?_
   refine LX hQ (gz,a,c) [15,16] [] mn U (by show List.all _ _=true; simp only [fw,List.all_nil,Ku,Bool.and_true]; rfl) U ?_ ?_
   ·first|rfl|(rw [E]; rfl)|(rw [he,← E,List.length_map]; rfl)|(rw [he,E]; rfl)
   ·exact Z
  refine WK B7<|aj fun _ B9=>ax<|aj fun _ Ci=>?_
  obtain ⟨cg,B⟩:=aJ G j I
  obtain ⟨cga,D⟩:=aJ gz j I
  have F:(List.zipWith nq G gz)[j]? =some (nq cg cga):=dG B D
  refine E0 (f:=sU) 16 (GQ B) D U U U ?_
  try dsimp only
  refine ak<|rS (IA j U (ag (n:=G.length) 17 U (lp C)) pn dc I I)<|rS (fT j 0 (vS cga.1 cg.length cga.2) U cd (ag (n:=G.length) 17 U (lp C)) F U dc U)<|bh 1 U<|RK Ci<|ak<|rP 1 [] mn ?_
  refine jd 0 U U U U (Av cg cga.1 cga.2 (by have:=AY A (aT B); omega)) U ks U (fun msrt Di=>?_)
  try dsimp only
  refine aC<|aB<|KK B9<|ak<|rP 2 [] mn ?_
  refine aC ?_
  obtain rfl:=qu Di.1 Di.2
  refine OD (f:=sU) (ms:=n7 G j) (m:=dv cg) 1 0 (by rw [DW]; omega) D U U U ?_
  rw [EI B]
  have C2:(vI (((j+1):Nat):Int))=(vI ((j:Int)+1)):=by exact cI I
  refine aR (h ⟨(j+1),(by first|omega|(simp only []; omega))⟩ _ _ _ U os (cK 4<|aY U C2<|du.nil _) (aH [1,2,3,4,5,6,7,8,9,10,11,12,13,14,15,16,0]))
 refine WK A0<|aj fun _ AA=>ax<|WS fun _ A1=>?_
 obtain ⟨x,hx⟩:=aJ (ek (fun u=>(aF (aG r) u).Lo) (dv ((aG r).map (·.1)))) i I
 have IW:=bK iC hx
 refine rS (IA i U (ag (n:=(ek (fun u=>(aF (aG r) u).Lo) (dv ((aG r).map (·.1)))).length) 0 U sm) cw dc I I)<|rS (fT i 0 (vI x) U cd (ag (n:=(ek (fun u=>(aF (aG r) u).Lo) (dv ((aG r).map (·.1)))).length) 0 U sm) IW U dc U)<|bh 1 U<|RK A1<|WS fun _ A2=>fu 1 [] (mc 2 U mn) U<|rS (SX (bO U U) U U)<|rP 2 [] (mc 3 U mn) ?_
 have IR:=g0 (i:=x) AB
 refine rP 1 [] mn ?_
 refine rS (SX (gh (kV:=iV) (x:=x) (l:=(aG r)) (f:=dD) (z:=(aa.mk 0 0)) U U U k8 (db mY) rO (by exact aA 6 U)) U U)<|AL U dp fun K4=>fX U cx U<|RK A2<|aj fun _ V=>WS fun _ A3=>?_
 rw [show ((List.lookup x (aG r)).getD (aa.mk 0 0))=(aF (aG r) x) from rfl]
 refine rP 4 [] (mc 0 U mn) ?_
 refine RK A3<|bQ U (aO fun N=>?_) (aN fun N=>?_)
 ·refine WK V<|aj fun _ A6=>?_
  have La:1≤G.length:=Gn IR.1 A N
  refine ak<|rP 4 [] mn ?_
  refine RK A6<|aj fun _ A7=>?_
  have Hb:(G.length-1)<G.length:=by first|omega|(simp; done)
  obtain ⟨cg,B⟩:=aJ G (G.length-1) I
  obtain ⟨cga,D⟩:=aJ gz (G.length-1) I
  have F:(List.zipWith nq G gz)[(G.length-1)]? =some (nq cg cga):=dG B D
  refine E0 (f:=sU) 17 B D U U U ?_
  try dsimp only
  refine ak<|bh 4 U<|rS (IA (G.length-1) U (ag (n:=G.length) 19 U (lp C)) pn dc I I)<|rS (fT (G.length-1) 0 (vS cga.1 cg.length cga.2) U cd (ag (n:=G.length) 19 U (lp C)) F U dc U)<|rP 1 [] mn ?_
  have GT:cg.length≤12:=(dJ.1 (show cg∈G++[[]] from by first|exact aT B|exact List.mem_append_left _ (aT B))).elim (fun q=>by have:=AY A q; omega) (fun q=>by simp at q; subst q; simp)
  refine df (xs:=[.tmp 57]) (cs:=[(vI x)]) U cw js U U U U (by simp [Value.cells]) U U fun LA=>?_
  refine cL (es2:=(List.map iC (cg++[x]))) (m':=(cg++[x]).length) 1 U U U o2 U U sm (bf (es:=List.map iC [x]) 0 U U (by simp [bI]) U) (jM _) os (by first|(simp only [maxLen]; omega)|(simp [maxLen]; omega)) sm sm U fun K M=>?_
  try dsimp only
  refine rS (IA (G.length-1) U (ag (n:=G.length) 20 U (lp C)) pn dc I I)<|dM (k:=(G.length-1)) (o:=0) (vs:=[(vS K ((cg++[x]).length) M)]) (es':=(List.zipWith nq (G.set (G.length-1) (cg++[x])) (gz.set (G.length-1) (K,M)))) (C':=[_,_,_,_,_,_,_,_,_,_,_,_,_,_,_,_,_,_,_,_,(own a c 29 1 (List.zipWith nq (G.set (G.length-1) (cg++[x])) (gz.set (G.length-1) (K,M))))]) 20 U U U xn U U U U F U dc (by exact qZ (c:=nq) (m:=(cg++[x])) (a:=(K,M))) U<|FV (f:=sU) (ms:=G) (asl:=gz) (m:=(cg++[x])) (a:=(K,M)) 2 1 I I U U U<|RK A7<|ak<|fu 3 [] (mc 2 U mn) U<|rS (MX U)<|bh 1 U<|aC<|aB<|KK AA<|ak<|rP 2 [] mn ?_
  refine aC ?_
  have C0:(vS a ((G.set (G.length-1) (cg++[x])).length) c)=(vS a G.length c):=by rw [List.length_set]
  have C1:(vI (((i+1):Nat):Int))=(vI ((i:Int)+1)):=by exact cI I
  refine aR (T ⟨((i+1),(G.set (G.length-1) (cg++[x])),(gz.set (G.length-1) (K,M)),a,c,(max last ((aF (aG r) x).Hi))),⟨I,by simp; omega,by first|exact py I hx B A N|exact oO I (fun u _=>(g0 (i:=u) AB).2.1) Dk hx B A N,dso⟩⟩ _ _ _ U os (cK 4<|aY U C0<|du.cons U<|aY U C1<|du.nil _) (aH [3,4,5,6,7,8,9,10,11,12,13,14,15,16,17,18,0,19]))
 refine ak<|rP 1 [] mn ?_
 refine df (xs:=[.const (vS none 0 0)]) (cs:=[(vS none 0 0)]) U pn vG U U U U (by simp [Value.cells]) U U fun K5=>?_
 refine cL (es2:=(List.zipWith nq (G++[[]]) (gz++[(none,0)]))) (m':=(G++[[]]).length) 19 rfl rfl rfl UL rfl rfl (lp C).symm (bf (es:=List.zipWith nq [[]] [(none,0)]) 0 rfl rfl (by intro e he; simp [nq] at he; subst he; rfl) rfl) (Ns _ _) I (by simp only [maxLen]; omega) (HK I) (by simp; omega) rfl fun P S=>?_
 try dsimp only
 refine dV 3 1<|QL (Y':=aU sU (G++[[]]) (gz++[(none,0)])) 19 0 U U (EF I U)<|bh 1 U<|RK V<|WS fun _ A4=>rP 4 [] mn ?_
 refine RK A4<|aj fun _ A5=>?_
 have Hb:((G++[[]]).length-1)<(G++[[]]).length:=by first|omega|(simp; done)
 obtain ⟨cg,B⟩: ∃ y_,(G++[[]])[((G++[[]]).length-1)]? =some y_:=⟨(G++[[]])[((G++[[]]).length-1)]'I,eM _⟩
 obtain ⟨cga,D⟩: ∃ y_,(gz++[(none,0)])[((G++[[]]).length-1)]? =some y_:=⟨(gz++[(none,0)])[((G++[[]]).length-1)]'I,eM _⟩
 have F:(List.zipWith nq (G++[[]]) (gz++[(none,0)]))[((G++[[]]).length-1)]? =some (nq cg cga):=dG B D
 refine E0 (f:=sU) 0 B D U U U ?_
 try dsimp only
 refine ak<|rP 4 [] mn ?_
 refine rS (IA ((G++[[]]).length-1) U (ag (n:=(G++[[]]).length) 20 U (lp (by simp; omega))) pn dc I I) ?_
 refine rS (fT ((G++[[]]).length-1) 0 (vS cga.1 cg.length cga.2) U cd (ag (n:=(G++[[]]).length) 20 U (lp (by simp; omega))) F U dc U) ?_
 refine rP 1 [] mn ?_
 have GT:cg.length≤12:=(dJ.1 (show cg∈G++[[]] from by first|exact aT B|exact List.mem_append_left _ (aT B))).elim (fun q=>by have:=AY A q; omega) (fun q=>by simp at q; subst q; simp)
 refine df (xs:=[.tmp 57]) (cs:=[(vI x)]) U cw js U U U U (by simp [Value.cells]) U U fun K8=>?_
 refine cL (es2:=(List.map iC (cg++[x]))) (m':=(cg++[x]).length) 1 U U U o2 U U sm (bf (es:=List.map iC [x]) 0 U U (by simp [bI]) U) (jM _) os (by first|(simp only [maxLen]; omega)|(simp [maxLen]; omega)) sm sm U fun J L=>?_
 try dsimp only
 refine rS (IA ((G++[[]]).length-1) U (ag (n:=(G++[[]]).length) 21 U (lp (by simp; omega))) pn dc I I) ?_
 refine dM (k:=((G++[[]]).length-1)) (o:=0) (vs:=[(vS J ((cg++[x]).length) L)]) (es':=(List.zipWith nq ((G++[[]]).set ((G++[[]]).length-1) (cg++[x])) ((gz++[(none,0)]).set ((G++[[]]).length-1) (J,L)))) (C':=[_,_,_,_,_,_,_,_,_,_,_,_,_,_,_,_,_,_,_,_,_,(own P S 29 1 (List.zipWith nq ((G++[[]]).set ((G++[[]]).length-1) (cg++[x])) ((gz++[(none,0)]).set ((G++[[]]).length-1) (J,L))))]) 21 U U U xn U U U U F U dc (by exact qZ (c:=nq) (m:=(cg++[x])) (a:=(J,L))) U<|FV (f:=sU) (ms:=(G++[[]])) (asl:=(gz++[(none,0)])) (m:=(cg++[x])) (a:=(J,L)) 2 1 I I U U U<|RK A5<|ak<|fu 3 [] (mc 3 U mn) U<|rS (MX U)<|bh 1 U<|aC<|aB<|KK AA<|ak<|rP 2 [] mn ?_
 refine aC ?_
 have Cp:(vS P (((G++[[]]).set ((G++[[]]).length-1) (cg++[x])).length) S)=(vS P ((G++[[]]).length) S):=by rw [List.length_set]
 have Cx:(vI (((i+1):Nat):Int))=(vI ((i:Int)+1)):=by exact cI I
 refine aR (T ⟨((i+1),((G++[[]]).set ((G++[[]]).length-1) (cg++[x])),((gz++[(none,0)]).set ((G++[[]]).length-1) (J,L)),P,S,(max last ((aF (aG r) x).Hi))),⟨I,by simp; omega,by first|exact py I hx B A N|exact oO I (fun u _=>(g0 (i:=u) AB).2.1) Dk hx B A N,dso⟩⟩ _ _ _ U os (cK 4<|aY U Cp<|du.cons U<|aY U Cx<|du.nil _) (aH [4,5,6,7,8,9,10,11,12,13,14,15,16,17,18,19,0,20]))
end
section
open Go.RowKit
theorem vv (G:List (List Int)) (H:List (List Int)) (gz:List RA) (gA:OA) (gC:Nat) (hz:List RA) (hA:OA) (hC:Nat) (h1:G.length≤1000000) (h2:H.length≤1000000) (h3: ∀ l∈G,l.length≤1000000) (h4: ∀ l∈H,l.length≤1000000) (hgz:gz.length=G.length) (hhz:hz.length=H.length):
 ep Tryz.prog 18 [(vS gA G.length gC),(vS hA H.length hC)] [(rd gA G.length 1 (List.zipWith nq G gz)),(fc (aU RC G gz)),(rd hA H.length 1 (List.zipWith nq H hz)),(fc (aU RC H hz))] (vB (decide (G=H))):=by
 refine bG kr Tryz.func18 U U fun Z Q hQ hN=>?_
 try dsimp only
 refine WS fun _ N=>bh 1 U<|RK N<|aj fun _ O=>WS fun _ P=>rP 5 [] mn ?_
 refine RK P<|cH U (bu fun hl=>?_) (br fun hl=>?_)
 ·refine WS fun _ R=>rP 1 [] mn ?_
  refine RK R<|aq<|Q1 hQ U U U ?_
  first|exact cB (cq (nH hx hy h)).symm|exact cB (fR (nU I A I)).symm|exact cB (cq (fun e=>by subst e; omega)).symm
 refine WK O<|aj fun _ S=>WS fun _ T=>rP 1 [] mn ?_
 refine RK T<|ax ?_
 have B:(0≤G.length)∧(G.take 0=H.take 0):=by exact ⟨Nat.zero_le _,rfl⟩
 refine bL (ι:={z:Nat // (z≤G.length)∧(G.take z=H.take z)}) [0,1] [0,1,2,3] U U (fun z=>[(5,(vI (z.1:Int)))]) (fun z=>[]) (fun _=>rfl) (fun _=>rfl) (fun z=>G.length-z.1) ⟨0,B⟩ (aV U) (aH [0,1,2,3]) ?_
 clear B
 rintro ⟨i,⟨W,A⟩⟩ J7 M
 try dsimp only
 refine aj fun _ AA=>WS fun _ V=>rP 4 [] mn ?_
 refine RK V<|bQ U (aO fun L=>?_) (aN fun L=>?_)
 ·refine bD<|ab<|ab<|ay<|KK S<|WS fun _ F=>rP 1 [] mn ?_
  refine RK F<|aq<|Q1 hQ U U U ?_
  first|exact cB (cq (nH hx hy h)).symm|exact cB (fR (nU I A I)).symm|exact cB (cq (fun e=>by subst e; omega)).symm
 refine WK AA<|aj fun _ C=>ax<|aj fun _ D=>dK cE 10 kr<|dP 2 [] mn ?_
 obtain ⟨x,hx⟩:=aJ G i I
 obtain ⟨xa,J⟩:=aJ gz i I
 have X:(List.zipWith nq G gz)[i]? =some (nq x xa):=dG hx J
 refine dS (IA i U (aA 0 U) pn dc I I)<|dS (fT i 0 (vS xa.1 x.length xa.2) U cd (aA 0 U) X U dc U)<|dP 2 [] mn ?_
 obtain ⟨y,hy⟩:=aJ H i I
 obtain ⟨ya,K⟩:=aJ hz i I
 have Y:(List.zipWith nq H hz)[i]? =some (nq y ya):=dG hy K
 refine dS (IA i U (aA 2 U) pn dc I I)<|dS (fT i 0 (vS ya.1 y.length ya.2) U cd (aA 2 U) Y U dc U)<|dS (CL (kX x xa.1 xa.2 y ya.1 ya.2 (by exact h3 x (aT hx)) (by exact h4 y (aT hy))) (av (show jc _ (rd xa.1 x.length 1 (x.map iC)).holds from (dk 1 U (bV hx J (by simp [RC]))))<|av (show jc _ (rd ya.1 y.length 1 (y.map iC)).holds from (dk 3 U (bV hy K (by simp [RC]))))<|aI) U)<|dP 1 [] mn ?_
 refine cR<|RK D<|cH U (bu fun h=>?_) (br fun h=>?_)
 ·refine WS fun _ E=>rP 1 [] mn ?_
  refine RK E<|aq<|Q1 hQ U U U ?_
  first|exact cB (cq (nH hx hy h)).symm|exact cB (fR (nU I A I)).symm|exact cB (cq (fun e=>by subst e; omega)).symm
 refine bZ<|aB<|KK C<|ak<|rP 3 [] mn ?_
 refine aC ?_
 have AB:(vI (((i+1):Nat):Int))=(vI ((i:Int)+1)):=by exact cI I
 refine aR (M ⟨(i+1),⟨I,u0 A hx hy h⟩⟩ _ _ _ U os (du.cons U<|du.cons U<|aY U AB<|du.nil _) (aH [0,1,2,3]))
end
section
open Go.RowKit
theorem II (l:List al) (lA:OA) (lC:Nat) (hlen:l.length≤1000000):
 ld Tryz.prog 142 [(vS lA l.length lC)] [(rd lA l.length 9 (l.map al.cells))] (fun (x:(OA)×Nat)=>(vS x.1 l.length x.2)) (fun (x:(OA)×Nat)=>True) (fun (x:(OA)×Nat)=>[(own x.1 x.2 153 9 (l.map al.cells))]):=by
 refine dg kr Tryz.func142 U U fun L Q hQ hN=>?_
 try dsimp only
 refine WS fun _ D=>bh 1 U<|RK D<|aj fun _ E=>WS fun _ F=>rP 1 [] mn ?_
 refine rS (BI U (qq Qe))<|RK F<|cH U (aN fun B=>?_) (aO fun B=>?_)
 ·refine WS fun _ G=>mx (aA 0 U) B dc fun C=>?_
  have A:l=[]:=by simpa using C
  refine dV 153 9 ?_
  rw [show (own none 0 153 9 ([]:List (List Value)))=own none 0 153 9 (l.map al.cells) from by rw [A]; rfl]
  refine rP 1 [] mn ?_
  refine RK G<|aq ?_
  refine LX hQ (none,0) [0] [] mn U U U ?_ ?_
  ·first|rfl|(rw [A]; rfl)
  ·trivial
 refine WK E<|WS fun _ H=>lJ U w8 U fun J=>rP 1 [] mn ?_
 refine cW (es:=(List.map al.cells [])) (C':=[own (some ⟨J,0,none⟩) 0 153 9 (List.map al.cells []),_]) 0 U sm U (by simp [maxLen]) U ?_
 refine cL (es2:=(List.map al.cells l)) (m':=l.length) 0 U U U RS U U sm (aA 1 U) (nQ _) os (by first|(simp only [maxLen]; omega)|(simp [maxLen]; omega)) sm sm U fun AA K=>?_
 try dsimp only
 refine rP 1 [] mn ?_
 refine RK H<|aq ?_
 refine LX hQ (AA,K) [0] [] mn U U U ?_ ?_
 ·first|rfl|(rw [A]; rfl)
 ·trivial
theorem Le (l:List bH) (lA:OA) (lC:Nat) (hlen:l.length≤1000000):
 ld Tryz.prog 144 [(vS lA l.length lC)] [(rd lA l.length 4 (l.map bH.cells))] (fun (x:(OA)×Nat)=>(vS x.1 l.length x.2)) (fun (x:(OA)×Nat)=>True) (fun (x:(OA)×Nat)=>[(own x.1 x.2 160 4 (l.map bH.cells))]):=by
 refine dg kr Tryz.func144 U U fun L Q hQ hN=>?_
 try dsimp only
 refine WS fun _ D=>bh 1 U<|RK D<|aj fun _ E=>WS fun _ F=>rP 1 [] mn ?_
 refine rS (BI U (qq PZ))<|RK F<|cH U (aN fun B=>?_) (aO fun B=>?_)
 ·refine WS fun _ G=>mx (aA 0 U) B dc fun C=>?_
  have A:l=[]:=by simpa using C
  refine dV 160 4 ?_
  rw [show (own none 0 160 4 ([]:List (List Value)))=own none 0 160 4 (l.map bH.cells) from by rw [A]; rfl]
  refine rP 1 [] mn ?_
  refine RK G<|aq ?_
  refine LX hQ (none,0) [0] [] mn U U U ?_ ?_
  ·first|rfl|(rw [A]; rfl)
  ·trivial
 refine WK E<|WS fun _ H=>lJ U uG U fun J=>rP 1 [] mn ?_
 refine cW (es:=(List.map bH.cells [])) (C':=[own (some ⟨J,0,none⟩) 0 160 4 (List.map bH.cells []),_]) 0 U sm U (by simp [maxLen]) U ?_
 refine cL (es2:=(List.map bH.cells l)) (m':=l.length) 0 U U U To U U sm (aA 1 U) (qd _) os (by first|(simp only [maxLen]; omega)|(simp [maxLen]; omega)) sm sm U fun AA K=>?_
 try dsimp only
 refine rP 1 [] mn ?_
 refine RK H<|aq ?_
 refine LX hQ (AA,K) [0] [] mn U U U ?_ ?_
 ·first|rfl|(rw [A]; rfl)
 ·trivial
theorem IL (l:List cz) (lA:OA) (lC:Nat) (hlen:l.length≤1000000):
 ld Tryz.prog 145 [(vS lA l.length lC)] [(rd lA l.length 3 (l.map cz.cells))] (fun (x:(OA)×Nat)=>(vS x.1 l.length x.2)) (fun (x:(OA)×Nat)=>True) (fun (x:(OA)×Nat)=>[(own x.1 x.2 55 3 (l.map cz.cells))]):=by
 refine dg kr Tryz.func145 U U fun L Q hQ hN=>?_
 try dsimp only
 refine WS fun _ D=>bh 1 U<|RK D<|aj fun _ E=>WS fun _ F=>rP 1 [] mn ?_
 refine rS (BI U (qq RU))<|RK F<|cH U (aN fun B=>?_) (aO fun B=>?_)
 ·refine WS fun _ G=>mx (aA 0 U) B dc fun C=>?_
  have A:l=[]:=by simpa using C
  refine dV 55 3 ?_
  rw [show (own none 0 55 3 ([]:List (List Value)))=own none 0 55 3 (l.map cz.cells) from by rw [A]; rfl]
  refine rP 1 [] mn ?_
  refine RK G<|aq ?_
  refine LX hQ (none,0) [0] [] mn U U U ?_ ?_
  ·first|rfl|(rw [A]; rfl)
  ·trivial
 refine WK E<|WS fun _ H=>lJ U vJ U fun J=>rP 1 [] mn ?_
 refine cW (es:=(List.map cz.cells [])) (C':=[own (some ⟨J,0,none⟩) 0 55 3 (List.map cz.cells []),_]) 0 U sm U (by simp [maxLen]) U ?_
 refine cL (es2:=(List.map cz.cells l)) (m':=l.length) 0 U U U SY U U sm (aA 1 U) (pZ _) os (by first|(simp only [maxLen]; omega)|(simp [maxLen]; omega)) sm sm U fun AA K=>?_
 try dsimp only
 refine rP 1 [] mn ?_
 refine RK H<|aq ?_
 refine LX hQ (AA,K) [0] [] mn U U U ?_ ?_
 ·first|rfl|(rw [A]; rfl)
 ·trivial
theorem JZ (l:List aK) (lA:OA) (lC:Nat) (hlen:l.length≤1000000):
 ld Tryz.prog 148 [(vS lA l.length lC)] [(rd lA l.length 2 (l.map aK.cells))] (fun (x:(OA)×Nat)=>(vS x.1 l.length x.2)) (fun (x:(OA)×Nat)=>True) (fun (x:(OA)×Nat)=>[(own x.1 x.2 107 2 (l.map aK.cells))]):=by
 refine dg kr Tryz.func148 U U fun L Q hQ hN=>?_
 try dsimp only
 refine WS fun _ D=>bh 1 U<|RK D<|aj fun _ E=>WS fun _ F=>rP 1 [] mn ?_
 refine rS (BI U (qq Ue))<|RK F<|cH U (aN fun B=>?_) (aO fun B=>?_)
 ·refine WS fun _ G=>mx (aA 0 U) B dc fun C=>?_
  have A:l=[]:=by simpa using C
  refine dV 107 2 ?_
  rw [show (own none 0 107 2 ([]:List (List Value)))=own none 0 107 2 (l.map aK.cells) from by rw [A]; rfl]
  refine rP 1 [] mn ?_
  refine RK G<|aq ?_
  refine LX hQ (none,0) [0] [] mn U U U ?_ ?_
  ·first|rfl|(rw [A]; rfl)
  ·trivial
 refine WK E<|WS fun _ H=>lJ U ym U fun J=>rP 1 [] mn ?_
 refine cW (es:=(List.map aK.cells [])) (C':=[own (some ⟨J,0,none⟩) 0 107 2 (List.map aK.cells []),_]) 0 U sm U (by simp [maxLen]) U ?_
 refine cL (es2:=(List.map aK.cells l)) (m':=l.length) 0 U U U RY U U sm (aA 1 U) (oD _) os (by first|(simp only [maxLen]; omega)|(simp [maxLen]; omega)) sm sm U fun AA K=>?_
 try dsimp only
 refine rP 1 [] mn ?_
 refine RK H<|aq ?_
 refine LX hQ (AA,K) [0] [] mn U U U ?_ ?_
 ·first|rfl|(rw [A]; rfl)
 ·trivial
theorem Ln (es:List (List Value)) (lA:OA) (n lC:Nat) (hlen:n≤1000000) (hes:es.length=n) (hone: ∀ v∈es.flatten,v.oneCell'=true):
 ld Tryz.prog 143 [(vS lA n lC)] [(rd lA n 2 es)] (fun (x:(OA)×Nat)=>(vS x.1 n x.2)) (fun (x:(OA)×Nat)=>True) (fun (x:(OA)×Nat)=>[(own x.1 x.2 53 2 es)]):=by
 refine dg kr Tryz.func143 U U fun L Q hQ hN=>?_
 try dsimp only
 refine WS fun _ D=>bh 1 U<|RK D<|aj fun _ E=>WS fun _ F=>rP 1 [] mn ?_
 refine rS (BI U (qq SJ))<|RK F<|cH U (aN fun B=>?_) (aO fun B=>?_)
 ·refine WS fun _ G=>mx (aA 0 U) B dc fun C=>?_
  have A:es=[]:=C
  refine dV 53 2 ?_
  rw [show (own none 0 53 2 ([]:List (List Value)))=own none 0 53 2 es from by rw [A]]
  refine rP 1 [] mn ?_
  refine RK G<|aq ?_
  refine LX hQ (none,0) [0] [] mn U U U ?_ ?_
  ·first|rfl|(rw [hes]; rfl)|(rw [← hes,A]; rfl)
  ·trivial
 refine WK E<|WS fun _ H=>lJ U vD U fun J=>rP 1 [] mn ?_
 refine cW (es:=(List.map dq.cells [])) (C':=[own (some ⟨J,0,none⟩) 0 53 2 (List.map dq.cells []),_]) 0 U sm U (by simp [maxLen]) U ?_
 refine cL (es2:=es) (m':=es.length) 0 U U U RH U U sm (aA 1 U) hone (by simp; omega) (by simp [maxLen]; omega) sm U U fun AA K=>?_
 try dsimp only
 refine rP 1 [] mn ?_
 refine RK H<|aq ?_
 refine LX hQ (AA,K) [0] [] mn U U U ?_ ?_
 ·first|rfl|(rw [hes]; rfl)|(rw [← hes,A]; rfl)
 ·trivial
theorem LB (es:List (List Value)) (lA:OA) (n lC:Nat) (hlen:n≤1000000) (hes:es.length=n) (hone: ∀ v∈es.flatten,v.oneCell'=true):
 ld Tryz.prog 147 [(vS lA n lC)] [(rd lA n 7 es)] (fun (x:(OA)×Nat)=>(vS x.1 n x.2)) (fun (x:(OA)×Nat)=>True) (fun (x:(OA)×Nat)=>[(own x.1 x.2 62 7 es)]):=by
 refine dg kr Tryz.func147 U U fun L Q hQ hN=>?_
 try dsimp only
 refine WS fun _ D=>bh 1 U<|RK D<|aj fun _ E=>WS fun _ F=>rP 1 [] mn ?_
 refine rS (BI U (qq Uk))<|RK F<|cH U (aN fun B=>?_) (aO fun B=>?_)
 ·refine WS fun _ G=>mx (aA 0 U) B dc fun C=>?_
  have A:es=[]:=C
  refine dV 62 7 ?_
  rw [show (own none 0 62 7 ([]:List (List Value)))=own none 0 62 7 es from by rw [A]]
  refine rP 1 [] mn ?_
  refine RK G<|aq ?_
  refine LX hQ (none,0) [0] [] mn U U U ?_ ?_
  ·first|rfl|(rw [hes]; rfl)|(rw [← hes,A]; rfl)
  ·trivial
 refine WK E<|WS fun _ H=>lJ U ug U fun J=>rP 1 [] mn ?_
 refine cW (es:=(List.map bp.cells [])) (C':=[own (some ⟨J,0,none⟩) 0 62 7 (List.map bp.cells []),_]) 0 U sm U (by simp [maxLen]) U ?_
 refine cL (es2:=es) (m':=es.length) 0 U U U SH U U sm (aA 1 U) hone (by simp; omega) (by simp [maxLen]; omega) sm U U fun AA K=>?_
 try dsimp only
 refine rP 1 [] mn ?_
 refine RK H<|aq ?_
 refine LX hQ (AA,K) [0] [] mn U U U ?_ ?_
 ·first|rfl|(rw [hes]; rfl)|(rw [← hes,A]; rfl)
 ·trivial
theorem IU (es:List (List Value)) (lA:OA) (n lC:Nat) (hlen:n≤1000000) (hes:es.length=n) (hone: ∀ v∈es.flatten,v.oneCell'=true):
 ld Tryz.prog 146 [(vS lA n lC)] [(rd lA n 1 es)] (fun (x:(OA)×Nat)=>(vS x.1 n x.2)) (fun (x:(OA)×Nat)=>True) (fun (x:(OA)×Nat)=>[(own x.1 x.2 56 1 es)]):=by
 refine dg kr Tryz.func146 U U fun L Q hQ hN=>?_
 try dsimp only
 refine WS fun _ D=>bh 1 U<|RK D<|aj fun _ E=>WS fun _ F=>rP 1 [] mn ?_
 refine rS (BI U (qq TF))<|RK F<|cH U (aN fun B=>?_) (aO fun B=>?_)
 ·refine WS fun _ G=>mx (aA 0 U) B dc fun C=>?_
  have A:es=[]:=C
  refine dV 56 1 ?_
  rw [show (own none 0 56 1 ([]:List (List Value)))=own none 0 56 1 es from by rw [A]]
  refine rP 1 [] mn ?_
  refine RK G<|aq ?_
  refine LX hQ (none,0) [0] [] mn U U U ?_ ?_
  ·first|rfl|(rw [hes]; rfl)|(rw [← hes,A]; rfl)
  ·trivial
 refine WK E<|WS fun _ H=>lJ U nA U fun J=>rP 1 [] mn ?_
 refine cW (es:=(List.map sC [])) (C':=[own (some ⟨J,0,none⟩) 0 56 1 (List.map sC []),_]) 0 U sm U (by simp [maxLen]) U ?_
 refine cL (es2:=es) (m':=es.length) 0 U U U Sn U U sm (aA 1 U) hone (by simp; omega) (by simp [maxLen]; omega) sm U U fun AA K=>?_
 try dsimp only
 refine rP 1 [] mn ?_
 refine RK H<|aq ?_
 refine LX hQ (AA,K) [0] [] mn U U U ?_ ?_
 ·first|rfl|(rw [hes]; rfl)|(rw [← hes,A]; rfl)
 ·trivial
end
section
open Go.RowKit
theorem M_ (r:bT) (kA:OA) (kC:Nat) (az:List RA) (cA:OA) (cC:Nat) (bA:OA) (bC:Nat) (slA:OA) (slC:Nat) (drA:OA) (drC:Nat) (ha:List cy) (heA:OA) (heC:Nat) (hin:eO r az ha):
 ld Tryz.prog 108 [(vA (cp.cells (oQ r kA kC cA cC bA bC slA slC drA drC heA heC)))] [(rd kA r.ao.aM.length 9 (r.ao.aM.map al.cells)),(rd cA r.ao.ai.length 2 (List.zipWith ar.cells r.ao.ai az)),(fc (aU ar.g4 r.ao.ai az)),(rd bA r.ao.ae.length 4 (r.ao.ae.map bH.cells)),(rd slA r.aL.length 1 (r.aL.map iC)),(rd drA r.bE.length 1 (r.bE.map iC)),(rd heA r.an.length 1 (List.zipWith ct r.an ha)),(fc (aU iw r.an ha))] (fun (x:(OA)×Nat×(OA)×Nat×(List RA)×(OA)×Nat×(OA)×Nat×(OA)×Nat×(OA)×Nat×(List cy))=>(vA (cp.cells (cp.mk (bW.mk (bB.mk (bo.mk x.1 r.ao.aM.length x.2.1)) r.ao.gH (bo.mk x.2.2.1 r.ao.ai.length x.2.2.2.1) (bo.mk x.2.2.2.2.2.1 r.ao.ae.length x.2.2.2.2.2.2.1) r.ao.cr r.ao.eh r.ao.cO) (bo.mk x.2.2.2.2.2.2.2.1 r.aL.length x.2.2.2.2.2.2.2.2.1) (bo.mk x.2.2.2.2.2.2.2.2.2.1 r.bE.length x.2.2.2.2.2.2.2.2.2.2.1) r.gJ (bo.mk x.2.2.2.2.2.2.2.2.2.2.2.1 r.an.length x.2.2.2.2.2.2.2.2.2.2.2.2.1))))) (fun (x:(OA)×Nat×(OA)×Nat×(List RA)×(OA)×Nat×(OA)×Nat×(OA)×Nat×(OA)×Nat×(List cy))=>(x.2.2.2.2.1.length=r.ao.ai.length∧oj r.ao.ai x.2.2.2.2.1)∧qh r.an x.2.2.2.2.2.2.2.2.2.2.2.2.2) (fun (x:(OA)×Nat×(OA)×Nat×(List RA)×(OA)×Nat×(OA)×Nat×(OA)×Nat×(OA)×Nat×(List cy))=>[(own x.1 x.2.1 153 9 (r.ao.aM.map al.cells)),(own x.2.2.1 x.2.2.2.1 53 2 (List.zipWith ar.cells r.ao.ai x.2.2.2.2.1)),(bw (aU ar.owns r.ao.ai x.2.2.2.2.1)),(own x.2.2.2.2.2.1 x.2.2.2.2.2.2.1 160 4 (r.ao.ae.map bH.cells)),(own x.2.2.2.2.2.2.2.1 x.2.2.2.2.2.2.2.2.1 3 1 (r.aL.map iC)),(own x.2.2.2.2.2.2.2.2.2.1 x.2.2.2.2.2.2.2.2.2.2.1 3 1 (r.bE.map iC)),(own x.2.2.2.2.2.2.2.2.2.2.2.1 x.2.2.2.2.2.2.2.2.2.2.2.2.1 56 1 (List.zipWith ct r.an x.2.2.2.2.2.2.2.2.2.2.2.2.2)),(bw (aU im r.an x.2.2.2.2.2.2.2.2.2.2.2.2.2))]):=by
 have C:=hin.line
 have Kj:=hin.iH
 have M:=hin.has
 have L0:=hin.iI
 have Lk:=hin.draw
 have L2:=dE (r:=r)
 have Pi:=C.sQ
 have Os:=C.sr
 have Or:=C.sj
 have J8:=C.od
 refine dg kr Tryz.func108 U U fun w0 Q hQ hN=>?_
 try dsimp only
 refine WS fun _ J4=>fQ U fun b2=>AL U yp fun b3=>RK J4<|WS fun _ J5=>rP 2 [] mn ?_
 refine RK J5<|aj fun _ J6=>dF cE [8,13,18,22,25,28] [7,11,15] [0,1,2] [0,2,3,4,5,6,7,8,9] [0,1,2,3,4,5,6,7,8,9] U U U U U<|eS U (MV U)<|eS U (MV U)<|eS U (MV U)<|eS U (MV U)<|eS U (SX (bO U U) U U)<|eS U (FA 0 U fp U)<|eS U (FA 0 U fp U)<|fS U (L1 (vS kA r.ao.aM.length kC) 1 U cd U U)<|eS U (MV U)<|eS U (SX (bO U U) U U)<|eS U (FA 2 U fp U)<|fS U (L1 (vS cA r.ao.ai.length cC) 1 U cd U U)<|eS U (MV U)<|eS U (SX (bO U U) U U)<|eS U (FA 3 U fp U)<|fS U (L1 (vS bA r.ao.ae.length bC) 1 U cd U U)<|eS U (SX (bO U U) U U)<|eS U (FA 0 U fp U)<|eS U (FA 0 U fp U)<|eS U (SX (bO U U) U U)<|eS U (FA 2 U fp U)<|eS U (SX (bO U U) U U)<|eS U (FA 3 U fp U)<|eT U<|gM U fun T6 J7=>?_
 refine cX (II r.ao.aM kA kC sd) (bg [2]) U fun y7 Pl=>?_
 obtain ⟨a9,S⟩:=y7
 try dsimp only
 refine aC (J7 _ _ (aH [1,3,4,5,6,7,8,9,10]) (aH [1,2,3,4,5,6,7,8,9,10]) ?_)
 refine gM U fun T11 EQ=>?_
 refine cX (Ln (List.zipWith ar.cells r.ao.ai az) cA r.ao.ai.length cC sd (by exact fG J8) (by exact x8 _ _)) (bg [4]) U fun K4 L3=>?_
 obtain ⟨J,K⟩:=K4
 try dsimp only
 refine aC (EQ _ _ (aH [2,4,5,6,7,8,9,10,11]) (aH [2,3,4,5,6,7,8,9,10,11]) ?_)
 refine gM U fun T16 Eq=>?_
 refine cX (Le r.ao.ae bA bC sd) (bg [7]) U fun K5 Mo=>?_
 obtain ⟨Y,Z⟩:=K5
 try dsimp only
 refine aC (Eq _ _ (aH [3,5,6,7,8,9,10,11,12]) (aH [3,4,5,6,7,8,9,10,11,12]) ?_)
 refine cf U fun T21 FS=>VD (cp.cells (cp.mk (bW.mk (bB.mk (bo.mk a9 r.ao.aM.length S)) r.ao.gH (bo.mk cA r.ao.ai.length cC) (bo.mk bA r.ao.ae.length bC) r.ao.cr r.ao.eh r.ao.cO) (bo.mk slA r.aL.length slC) (bo.mk drA r.bE.length drC) r.gJ (bo.mk heA r.an.length heC))) U UQ U U<|aC (FS _ _ (aH [3,5,6,7,8,9,10,11,12]) ?_)
 refine cf U fun T22 Fd=>VD (cp.cells (cp.mk (bW.mk (bB.mk (bo.mk a9 r.ao.aM.length S)) r.ao.gH (bo.mk J r.ao.ai.length K) (bo.mk bA r.ao.ae.length bC) r.ao.cr r.ao.eh r.ao.cO) (bo.mk slA r.aL.length slC) (bo.mk drA r.bE.length drC) r.gJ (bo.mk heA r.an.length heC))) U Sk U U<|aC (Fd _ _ (aH [3,5,6,7,8,9,10,11,12]) ?_)
 refine cf U fun T23 Fm=>VD (cp.cells (cp.mk (bW.mk (bB.mk (bo.mk a9 r.ao.aM.length S)) r.ao.gH (bo.mk J r.ao.ai.length K) (bo.mk Y r.ao.ae.length Z) r.ao.cr r.ao.eh r.ao.cO) (bo.mk slA r.aL.length slC) (bo.mk drA r.bE.length drC) r.gJ (bo.mk heA r.an.length heC))) U Tj U U<|aC (Fm _ _ (aH [3,5,6,7,8,9,10,11,12]) ?_)
 refine fF U<|KK J6<|aj fun _ A4=>WS fun _ A5=>bh 1 U<|rS (SX (bO U U) U U)<|rP 4 [] (mc 4 U mn) ?_
 refine RK A5<|ax<|lX ?_
 have E:(0≤r.ao.ai.length)∧(([]:List RA).length=0)∧(oj r.ao.ai ([]:List RA)):=by exact ⟨Nat.zero_le _,rfl,fun k m a _ h=>by simp at h⟩
 refine bL (ι:={z:Nat×(List RA) // (z.1≤r.ao.ai.length)∧(z.2.length=z.1)∧(oj r.ao.ai z.2)}) [1,2,3,39] [1,3,4,5,6,7,8,9,10,11,12,13] U U (fun z=>[(40,(vI (z.1.1:Int)))]) (fun z=>[(bw (aU ar.owns (r.ao.ai.take z.1.1) z.1.2)),(own J K 53 2 (List.zipWith ar.cells r.ao.ai (iY z.1.2 az z.1.1)))]) (fun _=>rfl) (fun _=>rfl) (fun z=>r.ao.ai.length-z.1.1) ⟨(0,([]:List RA)),E⟩ (aV U) (aH [1,3,4,5,6,7,8,9,10,11,12,13,0,2]) ?_
 clear E
 rintro ⟨⟨i,bz⟩,⟨A0,B,V⟩⟩ J26 A1
 try dsimp only at A0 B V
 try dsimp only
 refine WS fun _ A6=>rP 1 [] mn ?_
 refine RK A6<|aj fun _ A7=>cH U (aN fun JQ=>?_) (aO fun JQ=>?_)
 ·refine WK A7<|aj fun _ A8=>ax<|WS fun _ A9=>rP 2 [] mn ?_
  refine RK A9<|dF cE [13,16] [10,11,12,13,14] [0] [0,1,2,3,4,5,6,7,8,9,10,11,12] [0,1,2,3,4,5,6,7,8,9,10,11,12,13] U U U U U<|eS U (MV U)<|eS U (SX (bO U U) U U)<|eS U (FA 2 U fp U)<|eS U (L1 (vS J r.ao.ai.length K) 3 U cd U U)<|eS U (MV U)<|eS U (MV U)<|eS U (SX (bO U U) U U)<|eS U (FA 2 U fp U)<|eS U (L1 (vS J r.ao.ai.length K) 3 U cd U U)<|eS U (MV U) ?_
  obtain ⟨x,hx⟩:=aJ r.ao.ai i I
  obtain ⟨xa,s⟩:=aJ az i I
  have JM:(List.zipWith ar.cells r.ao.ai (iY bz az i))[i]? =some (ar.cells x xa):=dG hx (ti B s)
  have PW:=(C.RE _ _ _ hx s).2
  refine fS U (IA i U (ag (n:=r.ao.ai.length) 13 U (fG (by rw [eH B I]; exact C.od))) vD dc I I) ?_
  refine fS U (mW ((i*2)+1) U (ag (n:=r.ao.ai.length) 13 U (fG (by rw [eH B I]; exact C.od))) (Nat.mul_pos I dc) fp U) ?_
  refine fS U (fT i 1 (vS xa.1 x.bq.length xa.2) U cd (ag (n:=r.ao.ai.length) 13 U (fG (by rw [eH B I]; exact C.od))) JM U dc U) ?_
  refine fS U (IA i U (ag (n:=r.ao.ai.length) 13 U (fG (by rw [eH B I]; exact C.od))) vD dc I I) ?_
  refine fS U (mW ((i*2)+1) U (ag (n:=r.ao.ai.length) 13 U (fG (by rw [eH B I]; exact C.od))) (Nat.mul_pos I dc) fp U) ?_
  refine eT U<|gM U fun T32 Fn=>?_
  refine cX (IL x.bq xa.1 xa.2 sd) (av (show jc _ (rd xa.1 x.bq.length 3 (x.bq.map cz.cells)).holds from (dk 6 U (bV hx s (by simp [ar.g4]))))<|aI) U fun K8 M2=>?_
  obtain ⟨P,T⟩:=K8
  try dsimp only
  refine aC (Fn _ _ (aH [1,2,3,4,5,6,7,8,9,10,11,12,13]) (aH [1,2,3,4,5,6,7,8,9,10,11,12,13,14]) ?_)
  refine cf U fun T37 F5=>dM (k:=i) (o:=1) (vs:=[(vS P x.bq.length T)]) (es':=(List.zipWith ar.cells r.ao.ai (iY (bz++[(P,T)]) az (i+1)))) (C':=[_,_,_,_,_,_,_,_,_,_,_,_,_,_,(own J K 53 2 (List.zipWith ar.cells r.ao.ai (iY (bz++[(P,T)]) az (i+1))))]) 14 U U U S3 U U U U JM U dc (by exact qA (c:=ar.cells) (b:=(P,T)) hx B s) U<|aC (F5 _ _ (aH [1,2,3,4,5,6,7,8,9,10,11,12,13]) ?_)
  refine fF U<|aB<|KK A8<|ak<|rP 2 [] mn ?_
  refine aC<|P6 0 U fun t=>?_
  simp only [List.length_map] at t
  refine E_ (Y':=aU ar.owns (r.ao.ai.take (i+1)) (bz++[(P,T)])) 13 0 U U (nJ (f:=ar.owns) (b:=(P,T)) hx B) ?_
  have IW:(vI (((i+1):Nat):Int))=(vI ((i:Int)+1)):=by exact cI I
  refine aR (A1 ⟨((i+1),(bz++[(P,T)])),⟨I,by simp; omega,CK V B hx t⟩⟩ _ _ _ U os (cK 4<|aY U IW<|du.nil _) (aH [1,2,3,4,5,6,7,8,9,10,11,12,0,13]))
 refine bD<|ab<|ab<|ay<|KK A4<|aj fun _ B3=>?_
 have J9:bz.length=r.ao.ai.length:=by omega
 have KM:=V
 rw [show (iY bz az i)=bz from qY I,show r.ao.ai.take i=r.ao.ai from List.take_of_length_le I]
 refine dF cE [2,5,8,10,12,14] [1,3,5] [0,1,2] [0,1,2,4,5,6,7,8,9,10,11,12,13] [0,1,2,3,4,5,6,7,8,9,10,11,12,13] U U U U U<|eS U (FA 7 U fp U)<|fS U (L1 (vS slA r.aL.length slC) 3 U cd U U)<|eS U (FA 8 U fp U)<|fS U (L1 (vS drA r.bE.length drC) 3 U cd U U)<|eS U (FA 10 U fp U)<|fS U (L1 (vS heA r.an.length heC) 3 U cd U U)<|eS U (FA 7 U fp U)<|eS U (FA 8 U fp U)<|eS U (FA 10 U fp U)<|eT U<|gM U fun T40 GE=>?_
 refine cX (v9 r.aL slA slC sd) (bg [8]) U fun LA NE=>?_
 obtain ⟨g,j⟩:=LA
 try dsimp only
 refine aC (GE _ _ (aH [1,2,3,5,6,7,8,9,10,11,12,13,14]) (aH [1,2,3,4,5,6,7,8,9,10,11,12,13,14]) ?_)
 refine gM U fun T45 GT=>?_
 refine cX (v9 r.bE drA drC sd) (bg [10]) U fun LD Na=>?_
 obtain ⟨w,AO⟩:=LD
 try dsimp only
 refine aC (GT _ _ (aH [2,3,4,6,7,8,9,10,11,12,13,14,15]) (aH [2,3,4,5,6,7,8,9,10,11,12,13,14,15]) ?_)
 refine gM U fun T50 Go=>?_
 refine cX (IU (List.zipWith ct r.an ha) heA r.an.length heC sd (by exact dx M) (by exact zV _ _)) (bg [12]) U fun LE Ne=>?_
 obtain ⟨W,X⟩:=LE
 try dsimp only
 refine aC (Go _ _ (aH [3,4,5,7,8,9,10,11,12,13,14,15,16]) (aH [3,4,5,6,7,8,9,10,11,12,13,14,15,16]) ?_)
 refine cf U fun T55 Hb=>UG (cp.cells (cp.mk (bW.mk (bB.mk (bo.mk a9 r.ao.aM.length S)) r.ao.gH (bo.mk J r.ao.ai.length K) (bo.mk Y r.ao.ae.length Z) r.ao.cr r.ao.eh r.ao.cO) (bo.mk g r.aL.length j) (bo.mk drA r.bE.length drC) r.gJ (bo.mk heA r.an.length heC))) U xn U U<|aC (Hb _ _ (aH [3,4,5,7,8,9,10,11,12,13,14,15,16]) ?_)
 refine cf U fun T56 Hi=>UG (cp.cells (cp.mk (bW.mk (bB.mk (bo.mk a9 r.ao.aM.length S)) r.ao.gH (bo.mk J r.ao.ai.length K) (bo.mk Y r.ao.ae.length Z) r.ao.cr r.ao.eh r.ao.cO) (bo.mk g r.aL.length j) (bo.mk w r.bE.length AO) r.gJ (bo.mk heA r.an.length heC))) U xn U U<|aC (Hi _ _ (aH [3,4,5,7,8,9,10,11,12,13,14,15,16]) ?_)
 refine cf U fun T57 H1=>UG (cp.cells (cp.mk (bW.mk (bB.mk (bo.mk a9 r.ao.aM.length S)) r.ao.gH (bo.mk J r.ao.ai.length K) (bo.mk Y r.ao.ae.length Z) r.ao.cr r.ao.eh r.ao.cO) (bo.mk g r.aL.length j) (bo.mk w r.bE.length AO) r.gJ (bo.mk W r.an.length X))) U Qt U U<|aC (H1 _ _ (aH [3,4,5,7,8,9,10,11,12,13,14,15,16]) ?_)
 refine fF U<|KK B3<|aj fun _ B7=>WS fun _ B9=>rP 4 [] (mc 6 U mn) ?_
 refine RK B9<|ax<|lX ?_
 have E:(0≤r.an.length)∧(([]:List cy).length=0)∧(∀ (k:Nat) y (a:cy),r.an[k]? =some y→([]:List cy)[k]? =some a→a.2.length=y.length):=by exact ⟨Nat.zero_le _,rfl,fun k y a _ q=>by simp at q⟩
 refine bL (ι:={z:Nat×(List cy) // (z.1≤r.an.length)∧(z.2.length=z.1)∧(∀ (k:Nat) y (a:cy),r.an[k]? =some y→z.2[k]? =some a→a.2.length=y.length)}) [1,2,74] [2,3,4,5,6,7,8,9,10,11,12,13,14,15,16,17] U U (fun z=>[(75,(vI (z.1.1:Int)))]) (fun z=>[(bw (aU im (r.an.take z.1.1) z.1.2)),(own W X 56 1 (List.zipWith ct r.an (iY z.1.2 ha z.1.1)))]) (fun _=>rfl) (fun _=>rfl) (fun z=>r.an.length-z.1.1) ⟨(0,([]:List cy)),E⟩ (aV U) (aH [2,3,4,5,6,7,8,9,10,11,12,13,14,15,16,17,0,1]) ?_
 clear E
 rintro ⟨⟨h,hz⟩,⟨l,A,L⟩⟩ J60 A2
 try dsimp only at l A L
 try dsimp only
 refine WS fun _ Ci=>rP 1 [] mn ?_
 refine RK Ci<|aj fun _ Ck=>bQ U (aO fun J2=>?_) (aN fun J2=>?_)
 ·refine bD<|ab<|ab<|ay<|KK B7<|aj fun _ Dz=>?_
  have K0:qh r.an hz:=⟨I,L⟩
  rw [show (iY hz ha h)=hz from qY I,show r.an.take h=r.an from List.take_of_length_le I]
  refine ak<|rP 1 [] (mc 5 U mn) ?_
  refine PI U rM U<|RK Dz<|aq ?_
  refine LX hQ (a9,S,J,K,bz,Y,Z,g,j,w,AO,W,X,hz) [3,15,14,2,1,0,17,16] [0] (mc 4 U mn) U (by show List.all _ _=true; simp only [fw,List.all_nil,fI,jU,Bool.and_true]; rfl) U U ?_
  exact ⟨⟨J9,KM⟩,K0⟩
 refine WK Ck<|aj fun _ Cp=>ax<|WS fun _ Cx=>rP 2 [] mn ?_
 refine RK Cx<|aj fun _ C0=>dF cE [8,10] [6,7,8] [0] [0,1,2,3,4,5,6,7,8,9,10,11,12,13,14,15,16] [0,1,2,3,4,5,6,7,8,9,10,11,12,13,14,15,16,17] U U U U U<|eS U (FA 10 U fp U)<|eS U (L1 (vS W r.an.length X) 5 U cd U U)<|eS U (MV U)<|eS U (FA 10 U fp U)<|eS U (L1 (vS W r.an.length X) 5 U cd U U)<|eS U (MV U) ?_
 obtain ⟨ht,N⟩:=aJ r.an h I
 obtain ⟨D,O⟩:=aJ ha h I
 have u:(List.zipWith ct r.an (iY hz ha h))[h]? =some (ct ht D):=dG N (ti A O)
 have As:=hin.nN _ _ _ N O
 have e:=As.od
 have Kj:=As.len
 refine fS U (IA h U (ag (n:=r.an.length) 17 U (dx (by rw [eH A I]; exact M))) nA dc I I) ?_
 refine fS U (fT h 0 (vS D.1.1 ht.length D.1.2) U cd (ag (n:=r.an.length) 17 U (dx (by rw [eH A I]; exact M))) u U dc U) ?_
 refine fS U (IA h U (ag (n:=r.an.length) 17 U (dx (by rw [eH A I]; exact M))) nA dc I I) ?_
 refine eT U<|gM U fun T67 IO=>?_
 refine cX (LB (List.zipWith aw.cells ht D.2) D.1.1 ht.length D.1.2 sd (by exact jZ e) (by exact Gp _ _)) (av (show jc _ (rd D.1.1 ht.length 7 (List.zipWith aw.cells ht D.2)).holds from (dk 13 U (bV N O cm)))<|aI) U fun LT Nr=>?_
 obtain ⟨G,H⟩:=LT
 try dsimp only
 refine aC (IO _ _ (aH [1,2,3,4,5,6,7,8,9,10,11,12,13,14,15,16,17]) (aH [1,2,3,4,5,6,7,8,9,10,11,12,13,14,15,16,17,18]) ?_)
 refine cf U fun T72 IR=>dM (k:=h) (o:=0) (vs:=[(vS G ht.length H)]) (es':=(List.zipWith ct r.an (iY (hz++[((G,H),D.2)]) ha (h+1)))) (C':=[_,_,_,_,_,_,_,_,_,_,_,_,_,_,_,_,_,_,(own W X 56 1 (List.zipWith ct r.an (iY (hz++[((G,H),D.2)]) ha (h+1))))]) 18 U U U RT U U U U u U dc (by exact qA (b:=((G,H),D.2)) N A O) U<|aC (IR _ _ (aH [1,2,3,4,5,6,7,8,9,10,11,12,13,14,15,16,17]) ?_)
 refine fF U<|KK C0<|WS fun _ C1=>rP 3 [] (mc 6 U mn) ?_
 have v:(List.zipWith ct r.an (iY (hz++[((G,H),D.2)]) ha (h+1)))[h]? =some (ct ht ((G,H),D.2)):=dG N (By A)
 refine rS (IA h U (ag (n:=r.an.length) 18 U (dx (by rw [eH (by simp; omega) I]; exact M))) nA dc I I) ?_
 refine rS (fT h 0 (vS G ht.length H) U cd (ag (n:=r.an.length) 18 U (dx (by rw [eH (by simp; omega) I]; exact M))) v U dc U) ?_
 refine rP 2 [] mn ?_
 refine RK C1<|ax<|lX ?_
 have E:(0≤ht.length)∧(([]:List RA).length=0):=by exact ⟨Nat.zero_le _,rfl⟩
 refine bL (ι:={z:Nat×(List RA) // (z.1≤ht.length)∧(z.2.length=z.1)}) [1,2,5,74,75,93] [2,3,4,5,6,7,8,9,10,11,12,13,14,15,16,17,18,19] U U (fun z=>[(94,(vI (z.1.1:Int)))]) (fun z=>[(bw (aU ni (ht.take z.1.1) z.1.2)),(own G H 62 7 (List.zipWith aw.cells ht (iY z.1.2 D.2 z.1.1)))]) (fun _=>rfl) (fun _=>rfl) (fun z=>ht.length-z.1.1) ⟨(0,([]:List RA)),E⟩ (aV U) (aH [2,3,4,5,6,7,8,9,10,11,12,13,14,15,16,17,18,19,0,1]) ?_
 clear E
 rintro ⟨⟨i,dz⟩,⟨p,F⟩⟩ J74 A3
 try dsimp only at p F
 try dsimp only
 refine WS fun _ C2=>rP 1 [] mn ?_
 refine RK C2<|aj fun _ C3=>bQ U (aO fun J3=>?_) (aN fun J3=>?_)
 ·refine bD<|ab<|ab<|ay<|aB<|KK Cp<|ak<|rP 2 [] mn ?_
  refine aC ?_
  have Lo:dz.length=ht.length:=by omega
  rw [show (iY dz D.2 i)=dz from qY I,show ht.take i=ht from List.take_of_length_le I]
  refine My (Z':=aU im (r.an.take (h+1)) (hz++[((G,H),dz)])) 16 18 19 U U (nJ (f:=im) (b:=((G,H),dz)) N A) ?_
  rw [BF (y:=dz)]
  have If:(vI (((h+1):Nat):Int))=(vI ((h:Int)+1)):=by exact cI I
  refine aR (A2 ⟨((h+1),(hz++[((G,H),dz)])),⟨I,by simp; omega,Gr N L A dso⟩⟩ _ _ _ U os (cK 3<|aY U If<|du.nil _) (aH [1,2,3,4,5,6,7,8,9,10,11,12,13,14,15,16,0,17]))
 refine WK C3<|aj fun _ Di=>ax<|WS fun _ Dk=>rP 2 [] mn ?_
 refine RK Dk<|aj fun _ Do=>?_
 refine EA 19 U (by rw [jZ (by rw [eH F I]; exact e)]; omega) (fun Li AB=>?_)
 refine ak<|rP 3 [] (mc 5 U mn) ?_
 refine rS (IA h U (ag (n:=r.an.length) 17 U (dx (by rw [eH (by simp; omega) I]; exact M))) nA dc I I) ?_
 refine rS (fT h 0 (vS G ht.length H) U cd (ag (n:=r.an.length) 17 U (dx (by rw [eH (by simp; omega) I]; exact M))) v U dc U) ?_
 refine rP 1 [] mn ?_
 obtain ⟨d,hd⟩:=aJ ht i I
 obtain ⟨da,Ai⟩:=aJ D.2 i I
 have In:(List.zipWith aw.cells ht (iY dz D.2 i))[i]? =some (aw.cells d da):=dG hd (ti F Ai)
 have PP:=As.sig d (aT hd)
 refine rS (Wa i U AB ug I I)<|rS (U_ ((i*7)+4) U AB fp U)<|bh 1 U<|RK Do<|ak<|rP 2 [] mn ?_
 refine rS (SX (zQ U U AB) U U)<|rS (U_ (((i*7)+4)+2) U AB fp U) ?_
 refine rS (fT i 6 (vS da.1 d.cv.ah.length da.2) U cd (ag (n:=ht.length) 19 U (jZ (by rw [eH F I]; exact e))) In U dc U) ?_
 refine cX (JZ d.cv.ah da.1 da.2 sd) (av (show jc _ (rd da.1 d.cv.ah.length 2 (d.cv.ah.map aK.cells)).holds from (dk 13 U (bV N O (cV _ (bV hd Ai (by simp [aw.g4]))))))<|aI) U fun La Op=>?_
 obtain ⟨R,AA⟩:=La
 try dsimp only
 refine rS (SX (zQ U U AB) U U)<|rS (U_ (((i*7)+4)+2) U AB fp U)<|dM (k:=i) (o:=6) (vs:=[(vS R d.cv.ah.length AA)]) (es':=(List.zipWith aw.cells ht (iY (dz++[(R,AA)]) D.2 (i+1)))) (C':=[_,_,_,_,_,_,_,_,_,_,_,_,_,_,_,_,_,_,_,_,(own G H 62 7 (List.zipWith aw.cells ht (iY (dz++[(R,AA)]) D.2 (i+1))))]) 20 U U U SU U U U U In U dc (by exact qA (c:=aw.cells) (b:=(R,AA)) hd F Ai) U<|aC<|aB<|KK Di<|ak<|rP 2 [] mn ?_
 refine aC<|E_ (Y':=aU ni (ht.take (i+1)) (dz++[(R,AA)])) 19 0 U U (nJ (f:=ni) (b:=(R,AA)) hd F) ?_
 have Id:(vI (((i+1):Nat):Int))=(vI ((i:Int)+1)):=by exact cI I
 refine aR (A3 ⟨((i+1),(dz++[(R,AA)])),⟨I,by simp; omega⟩⟩ _ _ _ U os (cK 6<|aY U Id<|du.nil _) (aH [1,2,3,4,5,6,7,8,9,10,11,12,13,14,15,16,17,18,0,19]))
end
section
open Go.RowKit
theorem xT (r:bT) (kA:OA) (kC:Nat) (az:List RA) (cA:OA) (cC:Nat) (bA:OA) (bC:Nat) (slA:OA) (slC:Nat) (drA:OA) (drC:Nat) (ha:List cy) (heA:OA) (heC:Nat) (tz:List RA) (tA:OA) (tC:Nat) (ms:Value) (gw:Nat) (h i:Int) (t:aa) (hin:eO r az ha) (hok:eP r):
 ld Tryz.prog 69 [(vP gw),(vI h),(vI i),(vA (aa.cells t))] [(rd kA r.ao.aM.length 9 (r.ao.aM.map al.cells)),(rd cA r.ao.ai.length 2 (List.zipWith ar.cells r.ao.ai az)),(fc (aU ar.g4 r.ao.ai az)),(rd bA r.ao.ae.length 4 (r.ao.ae.map bH.cells)),(rd slA r.aL.length 1 (r.aL.map iC)),(rd drA r.bE.length 1 (r.bE.map iC)),(rd heA r.an.length 1 (List.zipWith ct r.an ha)),(fc (aU iw r.an ha)),(rd tA ((cS r).length) 1 (List.zipWith Eb (cS r) tz)),(fc (aU MW (cS r) tz)),(cb gw 112 (fV.cells (fV.mk (oQ r kA kC cA cC bA bC slA slC drA drC heA heC) (bo.mk tA ((cS r).length) tC) ms)))] (fun (x:Bool×Int×(OA)×Nat×(OA)×Nat×(List RA)×(OA)×Nat×(OA)×Nat×(OA)×Nat×(OA)×Nat×(List cy))=>bif x.1 then (vT [(vA (cp.cells (cp.mk (bW.mk (bB.mk (bo.mk x.2.2.1 r.ao.aM.length x.2.2.2.1)) r.ao.gH (bo.mk x.2.2.2.2.1 r.ao.ai.length x.2.2.2.2.2.1) (bo.mk x.2.2.2.2.2.2.2.1 r.ao.ae.length x.2.2.2.2.2.2.2.2.1) r.ao.cr r.ao.eh r.ao.cO) (bo.mk x.2.2.2.2.2.2.2.2.2.1 r.aL.length x.2.2.2.2.2.2.2.2.2.2.1) (bo.mk x.2.2.2.2.2.2.2.2.2.2.2.1 r.bE.length x.2.2.2.2.2.2.2.2.2.2.2.2.1) r.gJ (bo.mk x.2.2.2.2.2.2.2.2.2.2.2.2.2.1 ((gW r.an h i t).length) x.2.2.2.2.2.2.2.2.2.2.2.2.2.2.1)))),(vI 0)]) else (vT [(vA (cp.cells (cp.mk (bW.mk (bB.mk (bo.mk none 0 0)) 0 (bo.mk none 0 0) (bo.mk none 0 0) 0 0 0) (bo.mk none 0 0) (bo.mk none 0 0) 0 (bo.mk none 0 0)))),(vI x.2.1)])) (fun (x:Bool×Int×(OA)×Nat×(OA)×Nat×(List RA)×(OA)×Nat×(OA)×Nat×(OA)×Nat×(OA)×Nat×(List cy))=>(x.1=true→((qG r h i t)=0∧(x.2.2.2.2.2.2.1.length=r.ao.ai.length∧oj r.ao.ai x.2.2.2.2.2.2.1)∧qh (gW r.an h i t) x.2.2.2.2.2.2.2.2.2.2.2.2.2.2.2))∧(x.1=false→(x.2.1=(qG r h i t)∧ ¬ (qG r h i t)=0))) (fun (x:Bool×Int×(OA)×Nat×(OA)×Nat×(List RA)×(OA)×Nat×(OA)×Nat×(OA)×Nat×(OA)×Nat×(List cy))=>bif x.1 then [(own x.2.2.1 x.2.2.2.1 153 9 (r.ao.aM.map al.cells)),(own x.2.2.2.2.1 x.2.2.2.2.2.1 53 2 (List.zipWith ar.cells r.ao.ai x.2.2.2.2.2.2.1)),(bw (aU ar.owns r.ao.ai x.2.2.2.2.2.2.1)),(own x.2.2.2.2.2.2.2.1 x.2.2.2.2.2.2.2.2.1 160 4 (r.ao.ae.map bH.cells)),(own x.2.2.2.2.2.2.2.2.2.1 x.2.2.2.2.2.2.2.2.2.2.1 3 1 (r.aL.map iC)),(own x.2.2.2.2.2.2.2.2.2.2.2.1 x.2.2.2.2.2.2.2.2.2.2.2.2.1 3 1 (r.bE.map iC)),(own x.2.2.2.2.2.2.2.2.2.2.2.2.2.1 x.2.2.2.2.2.2.2.2.2.2.2.2.2.2.1 56 1 (List.zipWith ct (gW r.an h i t) x.2.2.2.2.2.2.2.2.2.2.2.2.2.2.2)),(bw (aU im (gW r.an h i t) x.2.2.2.2.2.2.2.2.2.2.2.2.2.2.2))] else []):=by
 have A4:=hin.line
 have Cp:=hin.iH
 have C0:=hin.has
 have B3:=hin.iI
 have A7:=hin.draw
 have B7:=dE (r:=r)
 have C2:=hok.num
 have C1:=hok.nh
 refine dg U4 Tryz.func69 U U fun w0 Q hQ hN=>?_
 try dsimp only
 refine WS fun _ Ai=>fQ U fun b2=>AL U yp fun b3=>bh 1 U<|RK Ai<|aj fun _ As=>WS fun _ J=>bh 1 U<|rS (SX (bO U U) U U)<|rP 6 [] (mr 12 U mn) ?_
 refine df (xs:=[.tmp 18]) (cs:=[(vI h)]) U cw js U U U U (by simp [Value.cells]) U U fun b6=>?_
 refine rS (CL (ep.eq (kg 0 ((r.an.length:Int)-1) ([h]) (some ⟨b6,0,none⟩) 1 sd) cY) (av (bf 0 U U (by simp [bI]) U)<|aI) U) ?_
 refine rP 2 [] mn ?_
 refine dh (t:=22) U (bu fun AC=>?_) (br fun AC=>?_)
 ·refine bh 11 U<|RK J<|aQ U<|WS fun _ A0=>rS (SX (bk (xs:=[]) (cs:=(cp.cells (cp.mk (bW.mk (bB.mk (bo.mk none 0 0)) 0 (bo.mk none 0 0) (bo.mk none 0 0) 0 0 0) (bo.mk none 0 0) (bo.mk none 0 0) 0 (bo.mk none 0 0)))) U U (bj Im U)) U U)<|sT U rM U<|rP 1 [] mn ?_
  refine RK A0<|aq ?_
  refine LX hQ (false,2,none,0,none,0,[],none,0,none,0,none,0,none,0,[]) [] [0] (mc 1 U mn) U (by first|rfl|(show List.all _ _=true; simp only [cond_true,fw,List.all_nil,fI,jU,Bool.and_true]; rfl)) U ?_ ?_
  ·first|rfl|(simp only [cond_true,jn]; rfl)
  ·refine ⟨Bf,fun _=>?_⟩; first|exact qf (mH (r:=r) (h:=h) (i:=i) (t:=t) I)|exact qf (mH (r:=r) (h:=h) (i:=i) (t:=t) (fun q=>absurd q.2 asm))|exact qf (td (r:=r) (t:=t) ⟨I,asm⟩ A hd H)
 refine rP 2 [] mn ?_
 refine df (xs:=[.tmp 24]) (cs:=[(vI i)]) U cw js U U U U (by simp [Value.cells]) U U fun b8=>?_
 refine rS (CL (ep.eq (An r kA kC az cA cC bA bC slA slC drA drC ha heA heC tz tA tC ms gw ([i]) (some ⟨b8,0,none⟩) 1 hin sd) cY) (l8 [4,5,6,7,8,9,10,11,12,13,14]<|av (bf 0 U U (by simp [bI]) U)<|aI) U) ?_
 refine rP 3 [] mn ?_
 refine dh (t:=29) U (bu fun AO=>?_) (br fun AO=>?_)
 ·refine bh 4 U<|RK J<|aQ U<|WS fun _ A1=>rS (SX (bk (xs:=[]) (cs:=(cp.cells (cp.mk (bW.mk (bB.mk (bo.mk none 0 0)) 0 (bo.mk none 0 0) (bo.mk none 0 0) 0 0 0) (bo.mk none 0 0) (bo.mk none 0 0) 0 (bo.mk none 0 0)))) U U (bj Im U)) U U)<|GG U rM U<|rP 1 [] mn ?_
  refine RK A1<|aq ?_
  refine LX hQ (false,2,none,0,none,0,[],none,0,none,0,none,0,none,0,[]) [] [0] (mc 2 U mn) U (by first|rfl|(show List.all _ _=true; simp only [cond_true,fw,List.all_nil,fI,jU,Bool.and_true]; rfl)) U ?_ ?_
  ·first|rfl|(simp only [cond_true,jn]; rfl)
  ·refine ⟨Bf,fun _=>?_⟩; first|exact qf (mH (r:=r) (h:=h) (i:=i) (t:=t) I)|exact qf (mH (r:=r) (h:=h) (i:=i) (t:=t) (fun q=>absurd q.2 asm))|exact qf (td (r:=r) (t:=t) ⟨I,asm⟩ A hd H)
 refine fu 1 [] (mc 3 U mn) U<|rS (CL (F7 t) (aI) U)<|rP 2 [] mn ?_
 refine RK J<|cH U (bu fun Z=>?_) (br fun Z=>?_)
 ·refine WS fun _ b=>rS (SX (bk (xs:=[]) (cs:=(cp.cells (cp.mk (bW.mk (bB.mk (bo.mk none 0 0)) 0 (bo.mk none 0 0) (bo.mk none 0 0) 0 0 0) (bo.mk none 0 0) (bo.mk none 0 0) 0 (bo.mk none 0 0)))) U U (bj Im U)) U U)<|GG U rM U<|rP 1 [] mn ?_
  refine RK b<|aq ?_
  refine LX hQ (false,2,none,0,none,0,[],none,0,none,0,none,0,none,0,[]) [] [0] (mc 2 U mn) U (by first|rfl|(show List.all _ _=true; simp only [cond_true,fw,List.all_nil,fI,jU,Bool.and_true]; rfl)) U ?_ ?_
  ·first|rfl|(simp only [cond_true,jn]; rfl)
  ·refine ⟨Bf,fun _=>?_⟩; first|exact qf (mH (r:=r) (h:=h) (i:=i) (t:=t) I)|exact qf (mH (r:=r) (h:=h) (i:=i) (t:=t) (fun q=>absurd q.2 asm))|exact qf (td (r:=r) (t:=t) ⟨I,asm⟩ A hd H)
 refine WK As<|aj fun _ e=>WS fun _ f=>bh 1 U<|rS (SX (bO U U) U U)<|rP 4 [] (mr 14 U mn) ?_
 obtain ⟨ht,A⟩:=aJ r.an ((h).toNat) I
 obtain ⟨C,E⟩:=aJ ha ((h).toNat) I
 have w:(List.zipWith ct r.an ha)[(h).toNat]? =some (ct ht C):=dG A E
 refine rS (IA ((h).toNat) U (aA 10 U) nA dc I I) ?_
 have A3:=hin.nN _ _ _ A E
 have A8:=A3.od
 have Cx:=(hok.nN ht (aT A)).1
 refine rS (fT ((h).toNat) 0 (vS C.1.1 ht.length C.1.2) U Rd (aA 10 U) w U dc U)<|rP 1 [] mn ?_
 obtain ⟨d,hd⟩:=aJ ht ((i).toNat) I
 obtain ⟨da,K⟩:=aJ C.2 ((i).toNat) I
 have A2:(List.zipWith aw.cells ht C.2)[(i).toNat]? =some (aw.cells d da):=dG hd K
 refine rS (IA ((i).toNat) U (show jc _ (rd C.1.1 ht.length 7 (List.zipWith aw.cells ht C.2)).holds from (dk 11 U (bV A E cm))) ug dc I I)<|rS (mW (((i).toNat)*7) U (show jc _ (rd C.1.1 ht.length 7 (List.zipWith aw.cells ht C.2)).holds from (dk 11 U (bV A E cm))) (Nat.mul_pos I dc) Ri U)<|rS (fT ((i).toNat) 0 (vB d.Out) U Wj (show jc _ (rd C.1.1 ht.length 7 (List.zipWith aw.cells ht C.2)).holds from (dk 11 U (bV A E cm))) A2 U dc U)<|RK f<|cH U (fun H=>?_) (fun H=>?_)
 ·refine WS fun _ g=>rS (SX (bk (xs:=[]) (cs:=(cp.cells (cp.mk (bW.mk (bB.mk (bo.mk none 0 0)) 0 (bo.mk none 0 0) (bo.mk none 0 0) 0 0 0) (bo.mk none 0 0) (bo.mk none 0 0) 0 (bo.mk none 0 0)))) U U (bj Im U)) U U)<|GG U rM U<|rP 1 [] mn ?_
  refine RK g<|aq ?_
  refine LX hQ (false,8,none,0,none,0,[],none,0,none,0,none,0,none,0,[]) [] [0] (mc 2 U mn) U (by first|rfl|(show List.all _ _=true; simp only [cond_true,fw,List.all_nil,fI,jU,Bool.and_true]; rfl)) U ?_ ?_
  ·first|rfl|(simp only [cond_true,jn]; rfl)
  ·refine ⟨Bf,fun _=>?_⟩; first|exact qf (mH (r:=r) (h:=h) (i:=i) (t:=t) I)|exact qf (mH (r:=r) (h:=h) (i:=i) (t:=t) (fun q=>absurd q.2 asm))|exact qf (td (r:=r) (t:=t) ⟨I,asm⟩ A hd H)
 refine WK e<|WS fun _ j=>bh 1 U<|rS (SX (bO U U) U U)<|rP 1 [] mn ?_
 refine rS (V6 (cp.cells (oQ r kA kC cA cC bA bC slA slC drA drC heA heC)) 14 U Sq U U U)<|cX (M_ r kA kC az cA cC bA bC slA slC drA drC ha heA heC hin) (bg [4,5,6,7,8,9,10,11]) U fun A6 z=>?_
 obtain ⟨L,T,M,AA,S,N,V,O,W,P,X,R,Y,G⟩:=A6
 try dsimp only
 obtain ⟨⟨s,u⟩,D⟩:=z
 try dsimp only at s u D
 have A9:=D.1
 refine AL U yp fun B9=>fX U rM U<|RK j<|aj fun _ l=>?_
 obtain ⟨B,F⟩:=aJ G ((h).toNat) (by have:=D.1; omega)
 have y:(List.zipWith ct r.an G)[(h).toNat]? =some (ct ht B):=dG A F
 have A5:=D.2 _ _ _ A F
 refine Q4 8 A F U U ?_
 try dsimp only
 refine dK cE 9 kr<|mT 3 [] (mc 3 U mn) U<|dS (IA ((h).toNat) U (ag (n:=r.an.length) 10 U (dx D.1)) nA dc I I)<|dS (fT ((h).toNat) 0 (vS B.1.1 ht.length B.1.2) U Rd (ag (n:=r.an.length) 10 U (dx D.1)) y U dc U)<|dP 2 [] (mc 14 U mn) ?_
 refine dS (SX (bk (xs:=[(1,.const (vB true)),(2,.tmp 59)]) (cs:=(bp.cells (bp.mk false true t (dY.mk 0 0 (bo.mk none 0 0))))) U U (bj Qh U)) U U) ?_
 obtain ⟨K,AB⟩:=aJ B.2 ((i).toNat) I
 have v:(List.zipWith aw.cells ht B.2)[(i).toNat]? =some (aw.cells d K):=dG hd AB
 refine dS (IA ((i).toNat) U (ag (n:=ht.length) 0 U (jZ A5)) ug dc I I)<|cR<|dM (k:=(i).toNat) (o:=0) (vs:=(bp.cells (bp.mk false true t (dY.mk 0 0 (bo.mk none 0 0))))) (es':=(List.zipWith aw.cells (ht.set (i).toNat (kM t)) (B.2.set (i).toNat (none,0)))) (C':=[(own B.1.1 B.1.2 62 7 (List.zipWith aw.cells (ht.set (i).toNat (kM t)) (B.2.set (i).toNat (none,0)))),_,_,_,_,_,_,_,_,_,_,_,_,_,_,_,_,_,_,_,_,_,_,_,_,_]) 0 U U U Rp U U U U v U dc (by exact qZ (c:=aw.cells) (m:=kM t) (a:=(none,0))) U<|RK l<|aj fun _ p=>QI (d':=kM t) 1 hd AB U U U ?_
 refine OP (h':=(ht.set (i).toNat (kM t))) (a':=(B.1,(B.2.set (i).toNat (none,0)))) 2 0 1 I (by have:=D.1; omega) U U ?_
 rw [← v7 A,show List.zipWith ct r.an G=List.zipWith ct (gW r.an h i t) (G.set (h).toNat (B.1,(B.2.set (i).toNat (none,0)))) from by rw [v7 A]; exact (HT A F (by rw [List.length_set])).symm]
 replace D:=QK (i:=i) (t:=t) D A F
 refine ak<|fu 1 [] (mc 1 U mn) U<|Vm U rM U<|rP 1 [] mn ?_
 refine RK p<|aq ?_
 refine LX hQ (true,0,L,T,M,AA,S,N,V,O,W,P,X,R,Y,(G.set (h).toNat (B.1,(B.2.set (i).toNat (none,0))))) [2,3,4,5,6,7,8,0] [0] (mc 11 U mn) U (by first|rfl|(show List.all _ _=true; simp only [cond_true,fw,List.all_nil,fI,jU,Bool.and_true]; rfl)) U ?_ ?_
 ·first|rfl|(simp only [cond_true,jn]; rfl)
 ·exact ⟨fun _=>⟨ON ⟨I,Z⟩ A hd H,⟨s,u⟩,D⟩,NW⟩
end
section
open Go.RowKit
theorem Lh (h i:Int) (t:aa) (r:bT) (kA:OA) (kC:Nat) (az:List RA) (cA:OA) (cC:Nat) (bA:OA) (bC:Nat) (slA:OA) (slC:Nat) (drA:OA) (drC:Nat) (ha:List cy) (heA:OA) (heC:Nat) (hin:eO r az ha):
 ld Tryz.prog 29 [(vA (cp.cells (oQ r kA kC cA cC bA bC slA slC drA drC heA heC))),(vI h),(vI i),(vA (aa.cells t))] [(rd fg 3 2 eu),(rd kA r.ao.aM.length 9 (r.ao.aM.map al.cells)),(rd cA r.ao.ai.length 2 (List.zipWith ar.cells r.ao.ai az)),(fc (aU ar.g4 r.ao.ai az)),(rd bA r.ao.ae.length 4 (r.ao.ae.map bH.cells)),(rd slA r.aL.length 1 (r.aL.map iC)),(rd drA r.bE.length 1 (r.bE.map iC)),(rd heA r.an.length 1 (List.zipWith ct r.an ha)),(fc (aU iw r.an ha))] (fun (x:Bool×Int×(OA)×Nat×(OA)×Nat×(List RA)×(OA)×Nat×(OA)×Nat×(OA)×Nat×(OA)×Nat×(List cy))=>bif x.1 then (vT [(vA (cp.cells (cp.mk (bW.mk (bB.mk (bo.mk x.2.2.1 r.ao.aM.length x.2.2.2.1)) r.ao.gH (bo.mk x.2.2.2.2.1 r.ao.ai.length x.2.2.2.2.2.1) (bo.mk x.2.2.2.2.2.2.2.1 r.ao.ae.length x.2.2.2.2.2.2.2.2.1) r.ao.cr r.ao.eh r.ao.cO) (bo.mk x.2.2.2.2.2.2.2.2.2.1 r.aL.length x.2.2.2.2.2.2.2.2.2.2.1) (bo.mk x.2.2.2.2.2.2.2.2.2.2.2.1 r.bE.length x.2.2.2.2.2.2.2.2.2.2.2.2.1) r.gJ (bo.mk x.2.2.2.2.2.2.2.2.2.2.2.2.2.1 ((gW r.an h i t).length) x.2.2.2.2.2.2.2.2.2.2.2.2.2.2.1)))),(vI 0)]) else (vT [(vA (cp.cells (cp.mk (bW.mk (bB.mk (bo.mk none 0 0)) 0 (bo.mk none 0 0) (bo.mk none 0 0) 0 0 0) (bo.mk none 0 0) (bo.mk none 0 0) 0 (bo.mk none 0 0)))),(vI x.2.1)])) (fun (x:Bool×Int×(OA)×Nat×(OA)×Nat×(List RA)×(OA)×Nat×(OA)×Nat×(OA)×Nat×(OA)×Nat×(List cy))=>(x.1=true→((gT r h i t)=0∧(x.2.2.2.2.2.2.1.length=r.ao.ai.length∧oj r.ao.ai x.2.2.2.2.2.2.1)∧qh (gW r.an h i t) x.2.2.2.2.2.2.2.2.2.2.2.2.2.2.2))∧(x.1=false→(x.2.1=(gT r h i t)∧ ¬ (gT r h i t)=0))) (fun (x:Bool×Int×(OA)×Nat×(OA)×Nat×(List RA)×(OA)×Nat×(OA)×Nat×(OA)×Nat×(OA)×Nat×(List cy))=>bif x.1 then [(own x.2.2.1 x.2.2.2.1 153 9 (r.ao.aM.map al.cells)),(own x.2.2.2.2.1 x.2.2.2.2.2.1 53 2 (List.zipWith ar.cells r.ao.ai x.2.2.2.2.2.2.1)),(bw (aU ar.owns r.ao.ai x.2.2.2.2.2.2.1)),(own x.2.2.2.2.2.2.2.1 x.2.2.2.2.2.2.2.2.1 160 4 (r.ao.ae.map bH.cells)),(own x.2.2.2.2.2.2.2.2.2.1 x.2.2.2.2.2.2.2.2.2.2.1 3 1 (r.aL.map iC)),(own x.2.2.2.2.2.2.2.2.2.2.2.1 x.2.2.2.2.2.2.2.2.2.2.2.2.1 3 1 (r.bE.map iC)),(own x.2.2.2.2.2.2.2.2.2.2.2.2.2.1 x.2.2.2.2.2.2.2.2.2.2.2.2.2.2.1 56 1 (List.zipWith ct (gW r.an h i t) x.2.2.2.2.2.2.2.2.2.2.2.2.2.2.2)),(bw (aU im (gW r.an h i t) x.2.2.2.2.2.2.2.2.2.2.2.2.2.2.2))] else []):=by
 have u:=hin.line
 have As:=hin.iH
 have A0:=hin.has
 have AC:=hin.iI
 have z:=hin.draw
 have e:=dE (r:=r)
 refine dg kr Tryz.func29 U U fun w0 Q hQ hN=>?_
 try dsimp only
 refine WS fun _ s=>fQ U fun b2=>fQ U fun b3=>AL U yp fun b4=>bh 1 U<|RK s<|WS fun _ Y=>rP 1 [] (mc 2 U mn) ?_
 refine cX (oB r kA kC az cA cC bA bC slA slC drA drC ha heA heC hin) (bg [3,4,5,6,7,8,9,10,11]) U fun y6 g=>?_
 obtain ⟨k,Ai,q,S,m,o,p⟩:=y6
 cases k
 ·obtain ⟨M,he⟩:=g.2 rfl
  try dsimp only at M he
  subst M
  try dsimp only [cond_true,cond_false,List.cons_append,List.nil_append]
  refine bh 5 U<|RK Y<|aj fun _ y=>WS fun _ AA=>rP 2 [] mn ?_
  refine RK AA<|bQ U (br fun T=>?_) (bu fun T=>?_)
  ·exact absurd T he
  refine WS fun _ V=>rS (SX (bk (xs:=[]) (cs:=(cp.cells (cp.mk (bW.mk (bB.mk (bo.mk none 0 0)) 0 (bo.mk none 0 0) (bo.mk none 0 0) 0 0 0) (bo.mk none 0 0) (bo.mk none 0 0) 0 (bo.mk none 0 0)))) U U (bj Im U)) U U)<|bh 1 U<|fX U rM U<|rP 1 [] mn ?_
  refine RK V<|aq ?_
  refine LX hQ (false,(cD r),none,0,none,0,[],none,0,none,0,none,0,none,0,[]) [] [0] (mc 0 U mn) U (by first|rfl|(show List.all _ _=true; simp only [cond_true,fw,List.all_nil,fI,jU,Bool.and_true]; rfl)) U ?_ ?_
  ·first|rfl|(simp only [cond_true,jn]; rfl)
  ·refine ⟨Bf,fun _=>?_⟩; first|exact LI (sf (h:=h) (i:=i) (t:=t) he) he|exact LI (o7 (h:=h) (i:=i) (t:=t) b) he
 obtain ⟨he,f⟩:=g.1 rfl
 try dsimp only [cond_true,cond_false,List.cons_append,List.nil_append]
 have b:=he
 try dsimp only at f
 have d:=(fM he).2
 refine bh 5 U<|RK Y<|aj fun _ W=>WS fun _ X=>bh 1 U<|rS (SX (b_ (r:= .bool false) U U U nK) U U)<|RK X<|aW U<|WK W<|WS fun _ N=>rP 4 [] (mc 5 U mn) ?_
 refine cX (xT r kA kC az cA cC bA bC slA slC drA drC ha heA heC p m o (Value.map (some S)) q h i t hin (by exact d)) (l8 [8,9,10,11,12,13,14,15]<|av (ag (n:=(cS r).length) 1 U (m7 (by rw [e]; exact f)))<|av (dL 2 U s7)<|fj 0 U U<|aI) U fun v P=>?_
 obtain ⟨l,w,A,G,B,H,R,C,AB,D,J,E,K,F,L,j⟩:=v
 cases l
 ·obtain ⟨M,he⟩:=P.2 rfl
  try dsimp only at M he
  subst M
  try dsimp only [cond_true,cond_false,List.cons_append,List.nil_append]
  refine bh 2 U<|PI U rM U<|rP 1 [] mn ?_
  refine RK N<|aq ?_
  refine LX hQ (false,(qG r h i t),none,0,none,0,[],none,0,none,0,none,0,none,0,[]) [] [0] (mc 4 U mn) U (by first|rfl|(show List.all _ _=true; simp only [cond_true,fw,List.all_nil,fI,jU,Bool.and_true]; rfl)) U ?_ ?_
  ·first|rfl|(simp only [cond_true,jn]; rfl)
  ·refine ⟨Bf,fun _=>?_⟩; first|exact LI (sf (h:=h) (i:=i) (t:=t) he) he|exact LI (o7 (h:=h) (i:=i) (t:=t) b) he
 obtain ⟨O,⟨Z,a⟩,c⟩:=P.1 rfl
 try dsimp only [cond_true,cond_false,List.cons_append,List.nil_append]
 try dsimp only at O Z a c
 refine bh 2 U<|jC (vs:=(cp.cells (cp.mk (bW.mk (bB.mk (bo.mk A r.ao.aM.length G)) r.ao.gH (bo.mk B r.ao.ai.length H) (bo.mk C r.ao.ae.length AB) r.ao.cr r.ao.eh r.ao.cO) (bo.mk D r.aL.length J) (bo.mk E r.bE.length K) r.gJ (bo.mk F ((gW r.an h i t).length) L)))) (cs':=(cp.cells (cp.mk (bW.mk (bB.mk (bo.mk A r.ao.aM.length G)) r.ao.gH (bo.mk B r.ao.ai.length H) (bo.mk C r.ao.ae.length AB) r.ao.cr r.ao.eh r.ao.cO) (bo.mk D r.aL.length J) (bo.mk E r.bE.length K) r.gJ (bo.mk F ((gW r.an h i t).length) L)))) (C':=[_,_,_,_,_,_,_,_,_,_,_,_,(cb b4 32 (cp.cells (cp.mk (bW.mk (bB.mk (bo.mk A r.ao.aM.length G)) r.ao.gH (bo.mk B r.ao.ai.length H) (bo.mk C r.ao.ae.length AB) r.ao.cr r.ao.eh r.ao.cO) (bo.mk D r.aL.length J) (bo.mk E r.bE.length K) r.gJ (bo.mk F ((gW r.an h i t).length) L)))),_,_,_,_,_,_,_,_,_,_,_]) 12 U U U rM U U U U U U U<|rP 1 [] mn ?_
 refine RK N<|aq ?_
 refine LX hQ (true,0,A,G,B,H,R,C,AB,D,J,E,K,F,L,j) [0,1,2,3,4,5,6,7] [0] (mc 12 U mn) U (by first|rfl|(show List.all _ _=true; simp only [cond_true,fw,List.all_nil,fI,jU,Bool.and_true]; rfl)) U ?_ ?_
 ·first|rfl|(simp only [cond_true,jn]; rfl)
 ·exact ⟨fun _=>⟨(o7 he).trans O,⟨Z,a⟩,c⟩,NW⟩
end
section
open Go.RowKit
theorem QB {P:Program} {t:TypeId} {x y:Operand} {k e:TypeId} {p:Option Nat} (h:P.underlying t=some (.map k e)):iu P .eql t x y (.map p) (.map none) (.bool p.isNone):=fun w=>by
 have A:(Op.equal t (.map p) (.map none)).run P w= .ok p.isNone w:=by
  unfold Op.equal
  show (Op.equalIn (9999+1) t (.map p) (.map none)).run P w=_
  unfold Op.equalIn
  cases p<;>simp [run_underlying h]
 have B:eqGuard .eql t x y (.map p) (.map none)=pure ():=rfl
 rw [B]
 show (Sem.run P (do let b ← Op.equal t (.map p) (.map none); pure (vB b)) w)=_
 simp [A]
theorem Fg {P:Program} {r:Nat} {es:Array MapEntry} {clock:Nat} {w:World} (t:TypeId) (hb:w.heap[r]? =some (.map es clock)):
 (Extern.MapsClone.clone #[.iface t (.map (some r))]).run P w= .ok (.iface t (.map (some w.heap.size))) (w.alloc (.map es clock)):=by
 have e:Extern.MapsClone.clone #[.iface t (.map (some r))]=(getObj r >>= fun o=>match o with
  | .map entries clock=>(newObj (.map entries clock) >>= fun n=>pure (.iface t (.map (some n))))
  |_=>stuck "maps.clone: a map expected"):=rfl
 rw [e]
 simp [MapKept.run_getObj_map hb,Result.andThen,go_sem]
theorem Cz {P:Program} {xt t k e:TypeId} {v:Value} {w:World} (h:P.underlying t=some (.map k e)):(Instr.typeAssert (.iface t v) xt t false).run P w= .ok v w:=by
 simp [Instr.typeAssert,run_underlying h,go_sem,Result.andThen]
theorem ow {C:List au} {g t:Nat} {cs:List Value} {n sz:Nat} {es:List (List Value)} (i:Nat) (hC:C[i]? =some (cb g t cs).ro) (h1:es.length=n) (h2: ∀ e∈es,e.length=sz) (h3:es.flatten=cs):jc C (rd (some ⟨g,0,none⟩) n sz es).holds:=fun w hw=>
 u7 (show (cb g t cs).holds w from hw (cb g t cs).ro (aT hC)) h1 h2 ⟨[],by simp [h3]⟩
section
variable {E:fh} {ops:Array Oper} {Q:cZ} {rest:List Oper} {D:List Deferred} {L:List (Nat×Value)} {C:List au}
variable {dst:Option Nat} {d:Nat} {ty:TypeId} {ps:String} {af:Array Edge} {g:Option (Nat×Bool)}
theorem KB {P:Program} {t k e:TypeId} {v:Value} {w:World} (h:P.underlying t=some (.map k e)):(Instr.makeInterface t v).run P w= .ok (.iface t v) w:=by
 simp [Instr.makeInterface,run_underlying h,Result.andThen]
theorem Nn {t k e:TypeId} {x:Operand} {v:Value} (hg:jI ops L g=true) (hx:ev L x=some v) (ht:E.P.underlying t=some (.map k e)):SD E ops ⟨dst,.makeInterface t x,ty,ps,af,g⟩ D L C (.iface t v):=
 dR hg sm fun a w hf _=>by
  have e:=hf.ev hx
  simp only [execOp,e]
  rw [Sem.run_bind,KB ht]
  simp
theorem Uv {xt t kt et:TypeId} {x:Operand} {v:Value} (hg:jI ops L g=true) (hx:ev L x=some (.iface t v)) (ht:E.P.underlying t=some (.map kt et)):SD E ops ⟨dst,.typeAssert x xt t false,ty,ps,af,g⟩ D L C v:=
 dR hg sm fun a w hf _=>by
  have e:=hf.ev hx
  simp only [execOp,e]
  rw [Sem.run_bind,Cz ht]
  simp
theorem Kb {K:Type} [DecidableEq K] {kV:K→Value} {x:Operand} {ts:Array TypeId} {f:FuncId} {fn:Func} {t b:Nat} {m:List (K×Value)} (hg:jI ops L g=true) (hx:ev L x=some (.iface t (.map (some b)))) (hf:E.P.funcs[f]? =some fn) (hname:(fn.name=="runtime.NumGoroutine")=false)
 (hb:fn.body.isNone=true) (hn:Extern.findNext fn=none) (he:Extern.find fn=some Extern.MapsClone.clone) (hC:jc C (g_ kV b m).holds) (hd:Nat.blt d E.n=true) (k: ∀ b',RJ E ops Q rest D ((d,.iface t (.map (some b')))::L) (g_ kV b' m::C)):
 RJ E ops Q (⟨some d,.call {callee:= .value (.func f),args:= #[x],argTypes:=ts},ty,ps,af,g⟩::rest) D L C:=by
 intro a w B hs
 have hd':d<E.n:=by rw [← Nat.blt_eq]; exact hd
 obtain ⟨es,c,F,hi⟩:=hC w hs.holds
 unfold rR
 rw [if_pos (eg B hg)]
 refine g3 (v:= .iface t (.map (some w.heap.size))) (w':=w.alloc (.map es c)) sm ?_ ?_
 ·have e:=B.ev hx
  have G:a.eval (.func f)= .func (.func f) #[] #[]:=rfl
  simp [execOp,resolve,e,G,Deferred.ofValue,invoke,run_callFunc_extern hf hname hb hn he,Fg t F]
 ·refine k _ _ _ (B.put hd' _) (hs.grow (d_.alloc no w _) (N:=[g_ kV w.heap.size m]) ⟨fun A hA=>?_,fun A hA b hb=>?_,List.pairwise_singleton _ _⟩)
  ·simp at hA; subst hA; exact ⟨es,c,heap_alloc_new w _,hi⟩
  ·simp at hA; subst hA; exact Nat.le_of_eq (Eq.symm hb)
end
end
section
open Go.RowKit
theorem K_ (m:qV) (gm g1:Nat):
 E2 Tryz.prog 119 [] [(vP g1)] [(g_ iV gm (bM vB m)),(cb g1 47 [(Value.map (some gm))])] ([]:List Int) (fun ys x ys'=> ∃ n zs,(ys++[n]++zs).Perm (m.map (·.1))∧x=[vI n]∧ys'=ys++[n]) (fun ys=>ys.Perm (m.map (·.1))):=by
 refine uf kr Tryz.func119 U U fun l J Z A0 S Q hY M L hQ hN=>?_
 try dsimp only
 refine WS fun _ O=>rP 1 [] (mr 2 U mn) ?_
 refine j3 (kV:=iV) (m:=bM vB m) 1 U U yu U ⟨U,fun h=>h⟩ (by exact iM 1 U) U fun V=>?_
 try dsimp only
 refine RK O<|ax ?_
 have G:(oK m m ([]:List Int))∧(∀ p∈m,p∈m)∧(J ([]:List Int) A0)∧(Fo A0 S A0):=by exact ⟨vx,fun p hp=>hp,M,L⟩
 refine bL (ι:={z:qV×(List Int)×au // (oK m z.1 z.2.1)∧(∀ p∈z.1,p∈m)∧(J z.2.1 z.2.2)∧(Fo A0 S z.2.2)}) [0,1,5] [2,3] U U (fun z=>[]) (fun z=>[(zT iV V gm (bM vB m) (bM vB z.1.1) none),z.1.2.2]) (fun _=>rfl) (fun _=>rfl) (fun z=>z.1.1.length) ⟨(m,([]:List Int),A0),G⟩ (du.nil _) (aH [2,3,0,1]) ?_
 clear G
 rintro ⟨⟨left,ys,A⟩,⟨B,H,C,D⟩⟩ J3 N
 try dsimp only at B H C D
 try dsimp only
 refine WS fun _ AB=>jr (db mY).inj (f:=Value.bool) 2 U U U U (fun T=>?_) (fun x y hm hn=>?_)
 ·refine rP 1 [] mn ?_
  refine RK AB<|aj fun _ AA=>aW U<|bD<|ab<|ab<|ay ?_
  refine hN _ _ _ (hE (vs:=[]) trivial fun w hs=>IN 3 U (by rw [T] at B; exact xD B) C D hs)
 try dsimp only
 refine bh 1 U<|RK AB<|aj fun _ P=>aQ U<|WK P<|ax<|WS fun _ R=>rS (SX (jq 2 U U U) U U)<|bh 2 U<|RK R<|WS fun _ K=>rP 2 [] mn ?_
 refine kK (k:=ys) (k':=(ys++[(x)])) 3 (by first|exact hsz|exact Nat.le_refl _) hY C D U U U (by exact ⟨x,_,oh hn hm B,U,U⟩) U U (fun B9 F E=>?_) (fun B9 F E=>?_)
 rotate_left 1
 ·refine rP 1 [] mn ?_
  refine RK K<|aQ U<|aq ?_
  refine hQ _ _ _ (hE (vs:=[]) trivial fun w hs=>rT 3 U F E hs)
 refine rP 1 [] mn ?_
 refine RK K<|aW U<|bZ<|aB<|g9 2 U fJ U ?_
 refine aR (N ⟨((cG left x),(ys++[(x)]),B9),⟨oh hn hm B,gj H,F,E⟩⟩ _ _ _ U (e7 hm) (aV U) (aH [0,1,2,3]))
theorem Oi (gm:Nat):
 ld Tryz.prog 84 [(Value.map (some gm))] [] (fun (x:Nat)=>(Value.func (.func 119) [].toArray [(vP x)].toArray)) (fun (x:Nat)=>True) (fun (x:Nat)=>[(cb x 47 [(Value.map (some gm))])]):=by
 refine dg kr Tryz.func84 U U fun D Q hQ hN=>?_
 try dsimp only
 refine WS fun _ A=>uC U U fun C=>bh 1 U<|RK A<|WS fun _ B=>rS (FU U)<|rP 1 [] mn ?_
 refine RK B<|aq<|LX hQ C [0] [] mn U U U U ?_
 trivial
end
section
open Go.RowKit
theorem Hj (m:qV) (gm g1:Nat) (hlen:m.length≤12):
 ld Tryz.prog 120 [(vS none 0 0),(Value.func (.func 119) [].toArray [(vP g1)].toArray)] [(g_ iV gm (bM vB m)),(cb g1 47 [(Value.map (some gm))])] (fun (x:(List Int)×(OA)×Nat)=>(vS x.2.1 x.1.length x.2.2)) (fun (x:(List Int)×(OA)×Nat)=>x.1.Perm (m.map (·.1))) (fun (x:(List Int)×(OA)×Nat)=>[(own x.2.1 x.2.2 3 1 (x.1.map iC))]):=by
 refine dg kr Tryz.func120 U U fun X Q hQ hN=>?_
 try dsimp only
 refine WS fun _ AB=>uC U U fun N=>bh 1 U<|RK AB<|aj fun _ J=>WS fun _ K=>rP 1 [] mn ?_
 refine RK K<|ax<|kF 1 U (by exact fun _ h=>h)<|kF 3 U (by exact fun _ h=>h)<|fZ 3 1 ?_
 refine nz (L0:=[(2,(vP N))]) (F:=[(g_ iV gm (bM vB m)).ro,(cb g1 47 [(Value.map (some gm))]).ro]) (fun k (y:(OA)×Nat)=>(∃ zs,(k++zs).Perm (m.map (·.1)))) (fun k y=>[(own y.1 y.2 3 1 (k.map iC)),(cb N 29 [(vS y.1 k.length y.2)]),(g_ iV gm (bM vB m)).ro]) (fun _ (_:Unit)=>False) (fun _ _=>[]) [0,3,4] [2,1] (none,0) rfl rfl (K_ m gm g1) rfl rfl rfl (by exact ⟨_,List.Perm.refl _⟩) (by simp only [List.forall_mem_cons,List.not_mem_nil,false_imp_iff,implies_true,and_true]; exact ⟨⟨_,sm,(dQ (bS _))⟩,⟨_,sm,(dQ (bS _))⟩⟩) (by rintro k x AA ⟨n,zs,_,rfl,_⟩; rfl) rfl (aV rfl) ?_ ?_ (fun _ _ _ h=>h.elim) (fun _ _ h=>h.elim)
 rotate_left 1
 ·rintro V k ⟨a,c⟩ E A
  have B:=A
  try dsimp only at B
  try dsimp only
  refine aB<|KK J<|WS fun _ C=>rP 2 [] (mc 4 U mn) ?_
  refine RK C<|aq<|hQ _ _ _ (oN 0 U U<|hE (vs:=[(vS a k.length c)]) ⟨U,trivial⟩ fun w hs=>Jx (k,a,c) [3] ?_ ?_ U U U hs)
  ·rfl
  ·first|exact E|exact hys
 rintro k x AA ⟨a,c⟩ l ra rb S Y K5 Qr6 T hx G L D O P
 obtain ⟨n,zs,hn,rfl,rfl⟩:=hx; have M:=hn.length_eq; simp only [List.length_append,List.length_map,List.length_singleton] at M
 have B:=G
 try dsimp only at B
 try dsimp only
 refine ak<|rP 1 [] mn ?_
 refine aC<|aR (L _ _ ?_)
 refine ax<|ak<|rP 2 [] (mc 2 U mn) ?_
 refine df (xs:=[.tmp 9]) (cs:=[(vI n)]) U cw js U U U U (by simp [Value.cells]) U U fun W=>?_
 refine cL (es2:=(List.map iC (k++[n]))) (m':=(k++[n]).length) 2 U U U o2 U U sm (bf (es:=List.map iC [n]) 0 U U (by simp [bI]) U) (jM _) os (by simp only [maxLen]; omega) sm sm U fun R H=>?_
 try dsimp only
 refine U0 U xn U U<|aC<|aB ?_
 exact D (R,H) _ _ (by exact ⟨_,hn⟩) (aH [1,2,3,4])
end
section
open Go.RowKit
theorem Ei (m:qV) (gm g1:Nat) (hlen:m.length≤12):
 ld Tryz.prog 85 [(Value.func (.func 119) [].toArray [(vP g1)].toArray)] [(g_ iV gm (bM vB m)),(cb g1 47 [(Value.map (some gm))])] (fun (x:(List Int)×(OA)×Nat)=>(vS x.2.1 x.1.length x.2.2)) (fun (x:(List Int)×(OA)×Nat)=>x.1.Perm (m.map (·.1))) (fun (x:(List Int)×(OA)×Nat)=>[(own x.2.1 x.2.2 3 1 (x.1.map iC))]):=by
 refine dg kr Tryz.func85 U U fun AA Q hQ hN=>?_
 try dsimp only
 refine WS fun _ A=>bh 1 U<|RK A<|WS fun _ B=>rP 1 [] mn ?_
 refine cX (Hj m gm g1 hlen) (bg [0,1]) U fun H C=>?_
 obtain ⟨E,F,G⟩:=H
 try dsimp only
 have D:=C
 refine rP 1 [] mn ?_
 refine RK B<|aq<|LX hQ (E,F,G) [0] [] mn U U U U ?_
 first|exact hfin|exact D
theorem G1 (m:qV) (gm g1:Nat) (hlen:m.length≤12):
 ld Tryz.prog 51 [(Value.func (.func 119) [].toArray [(vP g1)].toArray)] [(g_ iV gm (bM vB m)),(cb g1 47 [(Value.map (some gm))])] (fun (x:(OA)×Nat)=>(vS x.1 m.length x.2)) (fun (x:(OA)×Nat)=>True) (fun (x:(OA)×Nat)=>[(own x.1 x.2 3 1 ((dv (m.map (·.1))).map iC))]):=by
 refine dg kr Tryz.func51 U U fun M Q hQ hN=>?_
 try dsimp only
 refine WS fun _ E=>bh 1 U<|RK E<|WS fun _ F=>rP 1 [] mn ?_
 refine cX (Ei m gm g1 hlen) (bg [0,1]) U fun L H=>?_
 obtain ⟨AA,J,K⟩:=L
 try dsimp only
 have D:=H
 refine bh 1 U<|RK F<|WS fun _ G=>rP 1 [] mn ?_
 have B:=D.length_eq
 simp only [List.length_map] at B
 refine jd 0 U U U U (Av AA J K I) U ks U (fun ms C=>?_)
 try dsimp only
 refine RK G<|WS fun _ A=>?_
 obtain rfl:=qu (C.1.trans D) C.2
 skip
 refine rP 2 [] mn ?_
 refine RK A<|aq ?_
 refine LX hQ (J,K) [0] [] mn U U U ?_ ?_
 ·first|rfl|(rw [B]; rfl)
 ·trivial
end
section
open Go.RowKit
theorem Lz (m:qV) (gm:Nat):
 ld Tryz.prog 82 [(Value.map (some gm))] [(g_ iV gm (bM vB m))] (fun (x:Nat)=>(Value.map (some x))) (fun (x:Nat)=>True) (fun (x:Nat)=>[(g_ iV x (bM vB m))]):=by
 refine dg VK Tryz.func82 U U fun F Q hQ hN=>?_
 try dsimp only
 refine WS fun _ A=>bh 1 U<|RK A<|aj fun _ B=>WS fun _ C=>bh 1 U<|rS (SX (b_ (r:= .bool false) U U U (QB yu)) U U)<|RK C<|aW U<|WK B<|WS fun _ D=>rP 1 [] mn ?_
 refine rS (SX (Nn U U yu) U U)<|Kb (kV:=iV) (fn:=Tryz.f117) U U Tryz.func117 U U U kr (by exact iM 0 U) U fun E=>?_
 try dsimp only
 refine rS (SX (Uv U U yu) U U)<|rP 1 [] mn ?_
 refine RK D<|aq<|LX hQ E [0] [] mn U U U U ?_
 trivial
end
section
open Go.RowKit
theorem G_ (r:bT) (kA:OA) (kC:Nat) (cA:OA) (cC:Nat) (bA:OA) (bC:Nat) (slA:OA) (slC:Nat) (drA:OA) (drC:Nat) (heA:OA) (heC:Nat) (tA:OA) (tN tC:Nat) (gs gw:Nat) (m:g8) (i:Int) (g1 g2:Nat) (hb: ∀ p∈m,0≤p.2.Lo∧p.2.Lo≤p.2.Hi∧p.2.Hi≤30000000):
 E2 Tryz.prog 118 [] [(vP g1),(vP g2)] [(cb gw 112 (fV.cells (fV.mk (oQ r kA kC cA cC bA bC slA slC drA drC heA heC) (bo.mk tA tN tC) (Value.map (some gs))))),(g_ iV gs (bM dD m)),(cb g1 94 [(vP gw)]),(cb g2 3 [(vI i)])] ([]:List Int) (fun ys x ys'=> ∃ n,n∈(jS m i (aF m i))∧x=[vI n]∧ys'=ys++[n]) (fun ys=> ∀ n,n∈ys↔n∈(jS m i (aF m i))):=by
 have Li:=g0 (i:=i) hb
 refine uf kr Tryz.func118 U U fun l J Z A0 w0 Q hY H1 Hb hQ hN=>?_
 try dsimp only
 refine aj fun _ IO=>dF cE [6,7] [] [] [0,1,2,3,4] [] U U U U U<|eS U (UF 3 U cd U)<|eS U (SX (bO U U) U U)<|eS U (FA 12 U fp U)<|eS U (IB (Value.map (some gs)) 1 U cd U U)<|eS U (UF 4 U cd U)<|eS U (SX (gh (kV:=iV) (x:=i) (l:=m) (f:=dD) (z:=(aa.mk 0 0)) U U U k8 (db mY) rO (by exact iM 2 U)) U U)<|eT U<|cf U fun T2 IW=>AL U dp fun b3=>aC (IW _ _ (aH [1,2,3,4,5]) ?_)
 refine cf U fun T4 Id=>fX U cx U<|aC (Id _ _ (aH [1,2,3,4,5]) ?_)
 refine fF U<|KK IO<|aj fun _ IR=>WS fun _ Ck=>?_
 rw [show ((List.lookup i m).getD (aa.mk 0 0))=(aF m i) from rfl]
 refine rP 3 [] (mc 0 U mn) ?_
 refine kK (k:=([]:List Int)) (k':=(([]:List Int)++[((aF m i).Lo)])) 1 (by first|exact hsz|exact Nat.le_refl _) hY H1 Hb U U U (by exact ⟨_,cm ..,U,U⟩) U U (fun B7 u s=>?_) (fun B7 u s=>?_)
 rotate_left 1
 ·refine rP 1 [] mn ?_
  refine RK Ck<|aQ U<|aq ?_
  refine hQ _ _ _ (hE (vs:=[]) trivial fun w hs=>rT 1 U u s hs)
 refine bh 1 U<|RK Ck<|aW U<|WK IR<|WS fun _ AC=>fu 1 [] (mr 4 U mn) U<|rS (SX (bO U U) U U)<|rP 2 [] (mr 2 U mn) ?_
 refine j3 (kV:=iV) (m:=bM dD m) 3 U U k8 U ⟨U,fun h=>h⟩ (by exact iM 3 U) U fun In=>?_
 try dsimp only
 refine RK AC<|ax ?_
 have j:(zc m i (aF m i) m (([]:List Int)++[((aF m i).Lo)]))∧(∀ p∈m,p∈m)∧(J (([]:List Int)++[((aF m i).Lo)]) B7)∧(Fo A0 w0 B7):=by exact ⟨KF,fun p hp=>hp,asm,asm⟩
 refine bL (ι:={z:g8×(List Int)×au // (zc m i (aF m i) z.1 z.2.1)∧(∀ p∈z.1,p∈m)∧(J z.2.1 z.2.2)∧(Fo A0 w0 z.2.2)}) [0,1,2,4,24] [1,3,4,5,6] U U (fun z=>[]) (fun z=>[(zT iV In gs (bM dD m) (bM dD z.1.1) none),z.1.2.2]) (fun _=>rfl) (fun _=>rfl) (fun z=>z.1.1.length) ⟨(m,(([]:List Int)++[((aF m i).Lo)]),B7),j⟩ (du.nil _) (aH [1,3,4,5,6,0,2]) ?_
 clear j
 rintro ⟨⟨left,ys,A⟩,⟨D,B,E,F⟩⟩ J12 G
 try dsimp only at D B E F
 try dsimp only
 refine WS fun _ o=>jr (db mY).inj (f:=dD) 5 U U U U (fun q=>?_) (fun x y hm hn=>?_)
 ·refine rP 1 [] mn ?_
  refine RK o<|aj fun _ JM=>aW U<|bD<|ab<|ab<|ay ?_
  refine hN _ _ _ (hE (vs:=[]) trivial fun w hs=>IN 6 U (by rw [q] at D; exact Oy D) E F hs)
 try dsimp only
 refine bh 1 U<|RK o<|aj fun _ AO=>aQ U<|WK AO<|ax<|WS fun _ Ai=>rS (SX (jq 5 U U U) U U)<|bh 2 U<|AL U dp fun La=>bh 1 U<|fX U cx U<|RK Ai<|WS fun _ As=>rP 1 [] mn ?_
 have If:=hb _ (B _ hm)
 dsimp only at If
 refine fu 5 [] (mc 0 U mn) U<|rS (SX (bk (xs:=[(0,.tmp 32),(1,.tmp 35)]) (cs:=[(vI (y.Lo+1)),(vI (y.Hi+1))]) U U (bj Ub U)) U U)<|bh 1 U<|RK As<|ax<|j5 3<|eD fun R19 c=>WS fun _ A1=>rS (SX (b_ (r:= .bool true) U U U g5) U U)<|RK A1<|aj fun _ A2=>aQ U<|WK A2<|aj fun _ X=>ax<|WS fun _ A3=>rS (SX (q8 (v:=(vI (y.Lo+1))) 0 U U U Fz cd U dc U) U U)<|bh 1 U<|RK A3<|WS fun _ M=>rP 4 [] (mr 5 U mn) ?_
 refine bY (t:=43) U (br fun q=>?_) (bu fun q=>?_)
 ·refine bh 14 U<|RK M<|aW U<|bZ<|aB<|KK X<|ak<|rS (SX (b_ (r:= .int .i64 1) U U U (iD ⟨dc,dc⟩)) U U)<|bh 1 U<|RK c<|eD fun R73 g=>WS fun _ C1=>rS (SX (b_ (r:= .bool true) U U U g5) U U)<|RK C1<|aj fun _ C2=>aQ U<|WK C2<|aj fun _ b=>ax<|WS fun _ C3=>rS (SX (q8 (v:=(vI (y.Hi+1))) 1 U U U Fz cd U dc U) U U)<|bh 1 U<|RK C3<|WS fun _ P=>rP 4 [] (mr 5 U mn) ?_
  refine bY (t:=43) U (br fun GT=>?_) (bu fun GT=>?_)
  ·refine bh 14 U<|RK P<|aW U<|bZ<|aB<|KK b<|ak<|rS (SX (b_ (r:= .int .i64 2) U U U (iD ⟨dc,dc⟩)) U U)<|rP 1 [] mn ?_
   refine RK g<|eD fun R91 LE=>WS fun _ Do=>rS (SX (b_ (r:= .bool false) U U U g5) U U)<|RK Do<|aj fun _ J9=>aW U<|bD<|ab<|ab<|ay<|aB<|g9 6 U fJ U ?_
   refine aR (G ⟨((cG left x),ys,A),⟨ly hn hm B D (fun n C=>by first|exact C|(simp [C]; done)) (fun n C=>by exact .inl C) (fun L n C K=>by simp only [bx,List.not_mem_nil,or_false] at C; rcases C with rfl|rfl<;>first|(simp; done)|(exfalso; omega)),gj B,E,F⟩⟩ _ _ _ rfl (e7 hm) (aV rfl) (aH [1,2,3,4,5,6,7]))
  refine fu 5 [] (mc 1 U mn) U<|df (xs:=[.tmp 48]) (cs:=[(vI (y.Hi+1))]) U cw js U U U U (by simp [Value.cells]) U U fun FS=>rS (CL (ep.eq (kg ((aF m i).Lo) ((aF m i).Hi) ([(y.Hi+1)]) (some ⟨FS,0,none⟩) 1 I) cY) (av (bf 0 U U (by simp [bI]) U)<|aI) U)<|rP 2 [] mn ?_
  refine bY (t:=52) U (aO fun Go=>?_) (aN fun Go=>?_)
  ·refine bh 5 U<|RK P<|aW U<|bZ<|aB<|KK b<|ak<|rS (SX (b_ (r:= .int .i64 2) U U U (iD ⟨dc,dc⟩)) U U)<|rP 1 [] mn ?_
   refine RK g<|eD fun R88 LD=>WS fun _ Dk=>rS (SX (b_ (r:= .bool false) U U U g5) U U)<|RK Dk<|aj fun _ J8=>aW U<|bD<|ab<|ab<|ay<|aB<|g9 7 U fJ U ?_
   refine aR (G ⟨((cG left x),ys,A),⟨ly hn hm B D (fun n C=>by first|exact C|(simp [C]; done)) (fun n C=>by exact .inl C) (fun L n C K=>by simp only [bx,List.not_mem_nil,or_false] at C; rcases C with rfl|rfl<;>first|(simp; done)|(exfalso; omega)),gj B,E,F⟩⟩ _ _ _ rfl (e7 hm) (aV rfl) (aH [2,3,4,5,6,7,8]))
  refine rP 2 [] mn ?_
  refine kK (k:=ys) (k':=(ys++[((y.Hi+1))])) 8 (by first|exact hsz|exact Nat.le_refl _) hY E F U U U (by exact ⟨_,m8 (B _ hm) dso (by first|exact .inl rfl|exact .inr U) I,U,U⟩) U U (fun B82 W T=>?_) (fun B82 W T=>?_)
  rotate_left 1
  ·refine rP 2 [] mn ?_
   refine RK P<|aQ U<|aq ?_
   refine hQ _ _ _ (hE (vs:=[]) trivial fun w hs=>rT 8 U W T hs)
  refine bh 2 U<|RK P<|aW U<|bZ<|aB<|KK b<|ak<|rS (SX (b_ (r:= .int .i64 2) U U U (iD ⟨dc,dc⟩)) U U)<|rP 1 [] mn ?_
  refine RK g<|eD fun R85 LA=>WS fun _ Di=>rS (SX (b_ (r:= .bool false) U U U g5) U U)<|RK Di<|aj fun _ J7=>aW U<|bD<|ab<|ab<|ay<|aB<|g9 7 U fJ U ?_
  refine aR (G ⟨((cG left x),(ys++[((y.Hi+1))]),B82),⟨ly hn hm B D (fun n C=>by first|exact C|(simp [C]; done)) (fun n C=>by (simp only [dJ,bJ] at C; rcases C with C|rfl<;>first|exact .inl C|exact .inr (m8 (B _ hm) dso sm I))) (fun L n C K=>by simp only [bx,List.not_mem_nil,or_false] at C; rcases C with rfl|rfl<;>first|(simp; done)|(exfalso; omega)),gj B,W,T⟩⟩ _ _ _ rfl (e7 hm) (aV rfl) (aH [2,3,4,5,6,7,8]))
 refine rP 5 [] (mc 1 U mn) ?_
 refine df (xs:=[.tmp 48]) (cs:=[(vI (y.Lo+1))]) U cw js U U U U (by simp [Value.cells]) U U fun Dz=>?_
 refine rS (CL (ep.eq (kg ((aF m i).Lo) ((aF m i).Hi) ([(y.Lo+1)]) (some ⟨Dz,0,none⟩) 1 (by (simp; done))) cY) (av (bf 0 U U (by simp [bI]) U)<|aI) U) ?_
 refine rP 2 [] mn ?_
 refine bY (t:=52) U (aO fun Fd=>?_) (aN fun Fd=>?_)
 ·refine bh 5 U<|RK M<|aW U<|bZ<|aB<|KK X<|ak<|rS (SX (b_ (r:= .int .i64 1) U U U (iD ⟨dc,dc⟩)) U U)<|bh 1 U<|RK c<|eD fun R52 e=>WS fun _ B3=>rS (SX (b_ (r:= .bool true) U U U g5) U U)<|RK B3<|aj fun _ B9=>aQ U<|WK B9<|aj fun _ a=>ax<|WS fun _ Ci=>rS (SX (q8 (v:=(vI (y.Hi+1))) 1 U U U Fz cd U dc U) U U)<|bh 1 U<|RK Ci<|WS fun _ O=>rP 4 [] (mr 6 U mn) ?_
  refine bY (t:=43) U (br fun F5=>?_) (bu fun F5=>?_)
  ·refine bh 14 U<|RK O<|aW U<|bZ<|aB<|KK a<|ak<|rS (SX (b_ (r:= .int .i64 2) U U U (iD ⟨dc,dc⟩)) U U)<|rP 1 [] mn ?_
   refine RK e<|eD fun R70 K8=>WS fun _ C0=>rS (SX (b_ (r:= .bool false) U U U g5) U U)<|RK C0<|aj fun _ J6=>aW U<|bD<|ab<|ab<|ay<|aB<|g9 7 U fJ U ?_
   refine aR (G ⟨((cG left x),ys,A),⟨ly hn hm B D (fun n C=>by first|exact C|(simp [C]; done)) (fun n C=>by exact .inl C) (fun L n C K=>by simp only [bx,List.not_mem_nil,or_false] at C; rcases C with rfl|rfl<;>first|(simp; done)|(exfalso; omega)),gj B,E,F⟩⟩ _ _ _ rfl (e7 hm) (aV rfl) (aH [2,3,4,5,6,7,8]))
  refine rP 5 [] (mc 2 U mn) ?_
  refine df (xs:=[.tmp 48]) (cs:=[(vI (y.Hi+1))]) U cw js U U U U (by simp [Value.cells]) U U fun Eq=>?_
  refine rS (CL (ep.eq (kg ((aF m i).Lo) ((aF m i).Hi) ([(y.Hi+1)]) (some ⟨Eq,0,none⟩) 1 (by (simp; done))) cY) (av (bf 0 U U (by simp [bI]) U)<|aI) U) ?_
  refine rP 2 [] mn ?_
  refine bY (t:=52) U (aO fun GE=>?_) (aN fun GE=>?_)
  ·refine bh 5 U<|RK O<|aW U<|bZ<|aB<|KK a<|ak<|rS (SX (b_ (r:= .int .i64 2) U U U (iD ⟨dc,dc⟩)) U U)<|rP 1 [] mn ?_
   refine RK e<|eD fun R67 K5=>WS fun _ Cx=>rS (SX (b_ (r:= .bool false) U U U g5) U U)<|RK Cx<|aj fun _ J5=>aW U<|bD<|ab<|ab<|ay<|aB<|g9 8 U fJ U ?_
   refine aR (G ⟨((cG left x),ys,A),⟨ly hn hm B D (fun n C=>by first|exact C|(simp [C]; done)) (fun n C=>by exact .inl C) (fun L n C K=>by simp only [bx,List.not_mem_nil,or_false] at C; rcases C with rfl|rfl<;>first|(simp; done)|(exfalso; omega)),gj B,E,F⟩⟩ _ _ _ rfl (e7 hm) (aV rfl) (aH [3,4,5,6,7,8,9]))
  refine rP 2 [] mn ?_
  refine kK (k:=ys) (k':=(ys++[((y.Hi+1))])) 9 (by first|exact hsz|exact Nat.le_refl _) hY E F U U U (by exact ⟨_,m8 (B _ hm) dso (by first|exact .inl rfl|exact .inr U) I,U,U⟩) U U (fun B61 V S=>?_) (fun B61 V S=>?_)
  rotate_left 1
  ·refine rP 2 [] mn ?_
   refine RK O<|aQ U<|aq ?_
   refine hQ _ _ _ (hE (vs:=[]) trivial fun w hs=>rT 9 U V S hs)
  refine bh 2 U<|RK O<|aW U<|bZ<|aB<|KK a<|ak<|rS (SX (b_ (r:= .int .i64 2) U U U (iD ⟨dc,dc⟩)) U U)<|rP 1 [] mn ?_
  refine RK e<|eD fun R64 K4=>WS fun _ Cp=>rS (SX (b_ (r:= .bool false) U U U g5) U U)<|RK Cp<|aj fun _ J4=>aW U<|bD<|ab<|ab<|ay<|aB<|g9 8 U fJ U ?_
  refine aR (G ⟨((cG left x),(ys++[((y.Hi+1))]),B61),⟨ly hn hm B D (fun n C=>by first|exact C|(simp [C]; done)) (fun n C=>by (simp only [dJ,bJ] at C; rcases C with C|rfl<;>first|exact .inl C|exact .inr (m8 (B _ hm) dso sm I))) (fun L n C K=>by simp only [bx,List.not_mem_nil,or_false] at C; rcases C with rfl|rfl<;>first|(simp; done)|(exfalso; omega)),gj B,V,S⟩⟩ _ _ _ rfl (e7 hm) (aV rfl) (aH [3,4,5,6,7,8,9]))
 refine rP 2 [] mn ?_
 refine kK (k:=ys) (k':=(ys++[((y.Lo+1))])) 8 (by first|exact hsz|exact Nat.le_refl _) hY E F U U U (by exact ⟨_,m8 (B _ hm) dso (by first|exact .inl rfl|exact .inr U) I,U,U⟩) U U (fun B28 AB H=>?_) (fun B28 AB H=>?_)
 rotate_left 1
 ·refine rP 2 [] mn ?_
  refine RK M<|aQ U<|aq ?_
  refine hQ _ _ _ (hE (vs:=[]) trivial fun w hs=>rT 8 U AB H hs)
 refine bh 2 U<|RK M<|aW U<|bZ<|aB<|KK X<|ak<|rS (SX (b_ (r:= .int .i64 1) U U U (iD ⟨dc,dc⟩)) U U)<|bh 1 U<|RK c<|eD fun R31 d=>WS fun _ A4=>rS (SX (b_ (r:= .bool true) U U U g5) U U)<|RK A4<|aj fun _ A5=>aQ U<|WK A5<|aj fun _ Y=>ax<|WS fun _ A6=>rS (SX (q8 (v:=(vI (y.Hi+1))) 1 U U U Fz cd U dc U) U U)<|bh 1 U<|RK A6<|WS fun _ N=>rP 4 [] (mr 6 U mn) ?_
 refine bY (t:=43) U (br fun Fm=>?_) (bu fun Fm=>?_)
 ·refine bh 14 U<|RK N<|aW U<|bZ<|aB<|KK Y<|ak<|rS (SX (b_ (r:= .int .i64 2) U U U (iD ⟨dc,dc⟩)) U U)<|rP 1 [] mn ?_
  refine RK d<|eD fun R49 K0=>WS fun _ A9=>rS (SX (b_ (r:= .bool false) U U U g5) U U)<|RK A9<|aj fun _ J3=>aW U<|bD<|ab<|ab<|ay<|aB<|g9 7 U fJ U ?_
  refine aR (G ⟨((cG left x),(ys++[((y.Lo+1))]),B28),⟨ly hn hm B D (fun n C=>by first|exact C|(simp [C]; done)) (fun n C=>by (simp only [dJ,bJ] at C; rcases C with C|rfl<;>first|exact .inl C|exact .inr (m8 (B _ hm) dso sm I))) (fun L n C K=>by simp only [bx,List.not_mem_nil,or_false] at C; rcases C with rfl|rfl<;>first|(simp; done)|(exfalso; omega)),gj B,AB,H⟩⟩ _ _ _ rfl (e7 hm) (aV rfl) (aH [2,3,4,5,6,7,8]))
 refine rP 5 [] (mc 2 U mn) ?_
 refine df (xs:=[.tmp 48]) (cs:=[(vI (y.Hi+1))]) U cw js U U U U (by simp [Value.cells]) U U fun EQ=>?_
 refine rS (CL (ep.eq (kg ((aF m i).Lo) ((aF m i).Hi) ([(y.Hi+1)]) (some ⟨EQ,0,none⟩) 1 (by (simp; done))) cY) (av (bf 0 U U (by simp [bI]) U)<|aI) U) ?_
 refine rP 2 [] mn ?_
 refine bY (t:=52) U (aO fun Fn=>?_) (aN fun Fn=>?_)
 ·refine bh 5 U<|RK N<|aW U<|bZ<|aB<|KK Y<|ak<|rS (SX (b_ (r:= .int .i64 2) U U U (iD ⟨dc,dc⟩)) U U)<|rP 1 [] mn ?_
  refine RK d<|eD fun R46 Kj=>WS fun _ A8=>rS (SX (b_ (r:= .bool false) U U U g5) U U)<|RK A8<|aj fun _ J2=>aW U<|bD<|ab<|ab<|ay<|aB<|g9 8 U fJ U ?_
  refine aR (G ⟨((cG left x),(ys++[((y.Lo+1))]),B28),⟨ly hn hm B D (fun n C=>by first|exact C|(simp [C]; done)) (fun n C=>by (simp only [dJ,bJ] at C; rcases C with C|rfl<;>first|exact .inl C|exact .inr (m8 (B _ hm) dso sm I))) (fun L n C K=>by simp only [bx,List.not_mem_nil,or_false] at C; rcases C with rfl|rfl<;>first|(simp; done)|(exfalso; omega)),gj B,AB,H⟩⟩ _ _ _ rfl (e7 hm) (aV rfl) (aH [3,4,5,6,7,8,9]))
 refine rP 2 [] mn ?_
 refine kK (k:=(ys++[((y.Lo+1))])) (k':=((ys++[((y.Lo+1))])++[((y.Hi+1))])) 9 (by first|exact hsz|exact Nat.le_refl _) hY AB H U U U (by exact ⟨_,m8 (B _ hm) dso (by first|exact .inl rfl|exact .inr U) I,U,U⟩) U U (fun B40 AA R=>?_) (fun B40 AA R=>?_)
 rotate_left 1
 ·refine rP 2 [] mn ?_
  refine RK N<|aQ U<|aq ?_
  refine hQ _ _ _ (hE (vs:=[]) trivial fun w hs=>rT 9 U AA R hs)
 refine bh 2 U<|RK N<|aW U<|bZ<|aB<|KK Y<|ak<|rS (SX (b_ (r:= .int .i64 2) U U U (iD ⟨dc,dc⟩)) U U)<|rP 1 [] mn ?_
 refine RK d<|eD fun R43 KM=>WS fun _ A7=>rS (SX (b_ (r:= .bool false) U U U g5) U U)<|RK A7<|aj fun _ JQ=>aW U<|bD<|ab<|ab<|ay<|aB<|g9 8 U fJ U ?_
 refine aR (G ⟨((cG left x),((ys++[((y.Lo+1))])++[((y.Hi+1))]),B40),⟨ly hn hm B D (fun n C=>by first|exact C|(simp [C]; done)) (fun n C=>by (simp only [dJ,bJ] at C; rcases C with (C|rfl)|rfl<;>first|exact .inl C|exact .inr (m8 (B _ hm) dso sm I))) (fun L n C K=>by simp only [bx,List.not_mem_nil,or_false] at C; rcases C with rfl|rfl<;>first|(simp; done)|(exfalso; omega)),gj B,AA,R⟩⟩ _ _ _ rfl (e7 hm) (aV rfl) (aH [3,4,5,6,7,8,9]))
theorem JG (gw:Nat) (i:Int):
 ld Tryz.prog 83 [(vP gw),(vI i)] [] (fun (x:Nat×Nat)=>(Value.func (.func 118) [].toArray [(Value.pointer (some ⟨x.1,0,none⟩)),(Value.pointer (some ⟨x.2,0,none⟩))].toArray)) (fun (x:Nat×Nat)=>True) (fun (x:Nat×Nat)=>[(cb x.1 94 [(vP gw)]),(cb x.2 3 [(vI i)])]):=by
 refine dg kr Tryz.func83 U U fun E Q hQ hN=>?_
 try dsimp only
 refine WS fun _ A=>uC U U fun C=>uC U U fun D=>bh 1 U<|RK A<|WS fun _ B=>rS (FU U)<|rP 1 [] mn ?_
 refine RK B<|aq<|LX hQ (C,D) [1,0] [] mn U U U U ?_
 trivial
end
section
open Go.RowKit
theorem z_ (r:bT) (kA:OA) (kC:Nat) (cA:OA) (cC:Nat) (bA:OA) (bC:Nat) (slA:OA) (slC:Nat) (drA:OA) (drC:Nat) (heA:OA) (heC:Nat) (tA:OA) (tN tC:Nat) (gs gw:Nat) (m:g8) (i:Int) (hb: ∀ p∈m,0≤p.2.Lo∧p.2.Lo≤p.2.Hi∧p.2.Hi≤30000000) (hi:m.lookup i≠none) (hm12:m.length≤12):
 ld Tryz.prog 50 [(vP gw),(vI i)] [(cb gw 112 (fV.cells (fV.mk (oQ r kA kC cA cC bA bC slA slC drA drC heA heC) (bo.mk tA tN tC) (Value.map (some gs))))),(g_ iV gs (bM dD m))] (fun (x:(OA)×Nat)=>(vS x.1 ((dU m i (aF m i)).length) x.2)) (fun (x:(OA)×Nat)=>True) (fun (x:(OA)×Nat)=>[(own x.1 x.2 3 1 ((dU m i (aF m i)).map iC))]):=by
 refine dg kr Tryz.func50 U U fun w0 Q hQ hN=>?_
 try dsimp only
 refine WS fun _ Hb=>uC U U fun b2=>uC U U fun b3=>rP 1 [] mn ?_
 refine RK Hb<|WS fun _ H1=>lx (kV:=iV) U U fun AA=>?_
 try dsimp only
 refine AL U UU fun b6=>D7 U VC U U<|RK H1<|aj fun _ IO=>WS fun _ IR=>fu 1 [] (mc 3 U mn) U<|rS (SX (bO U U) U U)<|fu 2 [] (mr 4 U mn) U<|rS (SX (wM U U k8 (by exact iM 5 U)) U U)<|rP 1 [] mn ?_
 refine RK IR<|ax ?_
 have A:(0≤m.length)∧(jl ([]:qV) (fun u=>1≤u∧u≤(0:Int))):=by exact ⟨Nat.zero_le _,MG fun k=>by omega⟩
 refine bL (ι:={z:Nat×qV // (z.1≤m.length)∧(jl z.2 (fun u=>1≤u∧u≤(z.1:Int)))}) [2,3,5,20] [0,2,3,4,5] U U (fun z=>[(21,(vI (z.1.1:Int)))]) (fun z=>[(g_ iV AA (bM vB z.1.2))]) (fun _=>rfl) (fun _=>rfl) (fun z=>m.length-z.1.1) ⟨(0,([]:qV)),A⟩ (aV U) (aH [0,2,3,4,5,1]) ?_
 clear A
 rintro ⟨⟨n,nv⟩,⟨j,K⟩⟩ J9 Go
 try dsimp only at j K
 try dsimp only
 refine WS fun _ As=>rP 1 [] mn ?_
 refine RK As<|aj fun _ A0=>cH U (aN fun F5=>?_) (aO fun F5=>?_)
 ·refine WK A0<|aj fun _ A1=>ax<|WS fun _ A2=>bh 2 U<|RK A2<|ak<|fu 3 [] (mc 0 U mn) U<|ic (kV:=iV) (x:=((n:Int)+1)) (C':=[_,_,_,_,_,(g_ iV AA (bM vB (dW nv ((n:Int)+1) true)))]) 5 U U U U yu (db mY) U (fW _ _ _ _).symm U<|aC<|aB<|KK A1<|ak<|rP 2 [] mn ?_
  refine aC ?_
  have Eq:(vI (((n+1):Nat):Int))=(vI ((n:Int)+1)):=by exact cI I
  refine aR (Go ⟨((n+1),(dW nv ((n:Int)+1) true)),⟨I,(Mg K I).yn fun k=>by omega⟩⟩ _ _ _ U os (cK 4<|aY U Eq<|du.nil _) (aH [0,1,2,3,4,5]))
 refine bD<|ab<|ab<|ay<|KK IO<|WS fun _ A3=>rP 1 [] (mc 0 U mn) ?_
 refine cX (Lz nv AA) (bg [5]) U fun G K0=>?_
 try dsimp only
 refine bh 1 U<|RK A3<|aj fun _ A4=>WS fun _ A5=>rP 2 [0,1] (mc 3 U (mc 2 U mn)) ?_
 refine cX (JG gw i) (aI) U fun J3 K4=>?_
 obtain ⟨Z,c⟩:=J3
 try dsimp only
 refine RK A5<|ax<|kF 6 U (by exact fun _ h=>h)<|kF 8 U (by exact fun _ h=>h) ?_
 refine nz (L0:=[(2,(vP b2)),(3,(vP b3)),(5,(vP b6)),(7,(Value.map (some G)))]) (F:=[(cb gw 112 (fV.cells (fV.mk (oQ r kA kC cA cC bA bC slA slC drA drC heA heC) (bo.mk tA tN tC) (Value.map (some gs))))).ro,(g_ iV gs (bM dD m)).ro,(cb Z 94 [(vP gw)]),(cb c 3 [(vI i)])]) (fun k (y:qV)=>(jl y (uE m i k))) (fun k y=>[(g_ iV G (bM vB nv)),(cb b6 47 [(Value.map (some AA))]),(cb b3 3 [(vI i)]),(cb b2 94 [(vP gw)]),(cb gw 112 (fV.cells (fV.mk (oQ r kA kC cA cC bA bC slA slC drA drC heA heC) (bo.mk tA tN tC) (Value.map (some gs))))).ro,(g_ iV gs (bM dD m)).ro,(g_ iV AA (bM vB y))]) (fun _ (_:Unit)=>False) (fun _ _=>[]) [4,5,6,7,8,9,10] [1,0,2,3] nv rfl rfl (G_ r kA kC cA cC bA bC slA slC drA drC heA heC tA tN tC gs gw m i Z c (by exact hb)) rfl rfl rfl (by exact Jo (K.yn fun k=>by omega)) (by simp only [List.forall_mem_cons,List.not_mem_nil,false_imp_iff,implies_true,and_true]; exact ⟨⟨_,sm,(dQ (bS _))⟩,⟨_,sm,(dQ (bS _))⟩,⟨_,sm,(bS _)⟩,⟨_,sm,(bS _)⟩⟩) (by rintro k x k2 ⟨n,_,rfl,_⟩; rfl) rfl (aV rfl) ?_ ?_ (fun _ _ _ h=>h.elim) (fun _ _ h=>h.elim)
 rotate_left 1
 ·rintro L3 k nw FS g
  have T:=g
  try dsimp only
  refine aB<|KK A4<|aj fun _ Di=>WS fun _ Dk=>rP 1 [] (mc 6 U mn) ?_
  refine ur 11 U U yu U U fun JQ=>?_
  try dsimp only
  refine RK Dk<|ax ?_
  have A:(∀ p∈nw,p∈nw)∧(jl nv (fun u=>(1≤u∧u≤(m.length:Int))∧ ¬ (uE m i k u∧u ∉ nw.map (·.1)))):=by exact ⟨fun p hp=>hp,K.yn fun u=>⟨fun q=>⟨I,fun z=>z.2 ((T.2 u).2 z.1)⟩,fun q=>by omega⟩⟩
  refine bL (ι:={z:qV×qV // (∀ p∈z.1,p∈nw)∧(jl z.2 (fun u=>(1≤u∧u≤(m.length:Int))∧ ¬ (uE m i k u∧u ∉ z.1.map (·.1))))}) [7,68] [0,1,2,9,10] U U (fun z=>[]) (fun z=>[(g_ iV G (bM vB z.1.2)),(yF iV JQ AA (bM vB nw) (bM vB z.1.1) none)]) (fun _=>rfl) (fun _=>rfl) (fun z=>z.1.1.length) ⟨(nw,nv),A⟩ (du.nil _) (aH [0,1,2,9,10,5,11]) ?_
  clear A
  rintro ⟨⟨left,rk⟩,⟨AB,J⟩⟩ J55 Ai
  try dsimp only at AB J
  try dsimp only
  refine WS fun _ X=>sR (db mY).inj (f:=Value.bool) 6 U U U U (fun GT=>?_) (fun u v Fd LD=>?_)
  rotate_left 1
  ·try dsimp only
   refine bh 1 U<|RK X<|aj fun _ Dz=>aQ U<|WK Dz<|ax<|WS fun _ EQ=>rS (SX (sE 6 U U U) U U)<|bh 2 U<|RK EQ<|ak<|rP 2 [] mn ?_
   refine pS (kV:=iV) (x:=u) (C':=[_,_,_,_,_,(g_ iV G (bM vB (cG rk u))),_]) 5 U U U U yu (db mY) U (l0 _ _ _).symm U<|aC<|aB<|g9 6 U xR U ?_
   refine aR (Ai ⟨((cG left u),(cG rk u)),⟨gj AB,N9 AB T Fd J⟩⟩ _ _ _ U (e7 Fd) (aV U) (aH [0,1,2,3,4,5,6]))
  refine rP 1 [] mn ?_
  refine RK X<|aj fun _ Kj=>aW U<|bD<|ab<|ab<|ay<|KK Di<|WS fun _ Do=>?_
  have Fm:jl rk (fun u=>(1≤u∧u≤(m.length:Int))∧ ¬ uE m i k u):=J.yn fun u=>⟨fun q=>⟨q.1,fun z=>q.2 ⟨z,by rw [GT]; simp⟩⟩,fun q=>⟨q.1,fun z=>q.2 z.1⟩⟩
  have Y:dv (rk.map (·.1))=(dU m i (aF m i)):=E9 hi FS Fm
  have LT:rk.length≤m.length:=Jq Fm fun k q=>q.1
  have IW:rk.length=(dU m i (aF m i)).length:=by rw [← Y]; simp
  refine rP 1 [] mn ?_
  refine cX (Oi G) (aI) U fun Fn K5=>?_
  try dsimp only
  refine cX (G1 rk G Fn I) (bg [6,0]) U fun J4 K8=>?_
  obtain ⟨o,AC⟩:=J4
  try dsimp only
  rw [Y]
  refine rP 1 [] mn ?_
  refine RK Do<|aq<|hQ _ _ _ (oN 2 U U<|hE (vs:=[(vS o rk.length AC)]) ⟨U,trivial⟩ fun w hs=>Jx (o,AC) [0] ?_ ?_ U U U hs)
  ·(rw [← IW]; rfl)
  ·trivial
 rintro k x k2 nw l ra rb S w1 K26 Qr27 Lk hx e A6 d J2 J5
 obtain ⟨n,LE,rfl,rfl⟩:=hx
 have T:=e
 try dsimp only
 refine ak<|rP 1 [] mn ?_
 refine aC<|aR (A6 _ _ ?_)
 refine ax<|WS fun _ A7=>bh 2 U<|RK A7<|aj fun _ A8=>WS fun _ A9=>fu 1 [] (mc 4 U mn) U<|rS (SX (bO U U) U U)<|rP 2 [] (mr 5 U mn) ?_
 refine j3 (kV:=iV) (m:=bM dD m) 6 U U k8 U ⟨U,fun h=>h⟩ (by exact iM 6 U) U fun JM=>?_
 try dsimp only
 refine RK A9<|ax ?_
 have A:((1:Int)+(ja m i n:Int)=1+(ja m i n:Int))∧((1:Int)+(k9 m i n:Int)=1+(k9 m i n:Int))∧(∀ p∈m,p∈m)∧(1≤(1:Int)∧1≤(1:Int)):=by exact ⟨rfl,rfl,fun p hp=>hp,I⟩
 refine bL (ι:={z:g8×Int×Int // (z.2.1+(ja z.1 i n:Int)=1+(ja m i n:Int))∧(z.2.2+(k9 z.1 i n:Int)=1+(k9 m i n:Int))∧(∀ p∈z.1,p∈m)∧(1≤z.2.1∧1≤z.2.2)}) [2,3,5,7,8,38] [1,2,3,4,5,6,7,8] U U (fun z=>[(9,(vI z.1.2.1)),(10,(vI z.1.2.2))]) (fun z=>[(zT iV JM gs (bM dD m) (bM dD z.1.1) none)]) (fun _=>rfl) (fun _=>rfl) (fun z=>z.1.1.length) ⟨(m,(1:Int),(1:Int)),A⟩ (aV U) (aH [1,2,3,4,5,6,7,8,0]) ?_
 clear A
 rintro ⟨⟨left,s,t⟩,⟨C,D,B,R⟩⟩ J33 L
 try dsimp only at C D B R
 try dsimp only
 have Id:=Gt (m:=m) (i:=i) (n:=n)
 have If:=L6 (m:=m) (i:=i) (n:=n)
 refine WS fun _ V=>jr (db mY).inj (f:=dD) 8 U U U U (fun P=>?_) (fun x y hm hn=>?_)
 ·refine bh 1 U<|RK V<|aj fun _ KM=>aW U<|bD<|ab<|ab<|ay<|KK A8<|WS fun _ B3=>rP 2 [] mn ?_
  refine RK B3<|ax ?_
  have A:(s≤s∧(s≤t+1∨s=s))∧(jl nw (fun u=>uE m i k u∧ ¬ (s≤u∧u<s))):=by exact ⟨⟨Int.le_refl _,.inr rfl⟩,T.yn fun u=>⟨fun q=>⟨q,fun z=>by omega⟩,fun q=>q.1⟩⟩
  refine bL (ι:={z:Int×qV // (s≤z.1∧(z.1≤t+1∨z.1=s))∧(jl z.2 (fun u=>uE m i k u∧ ¬ (s≤u∧u<z.1)))}) [2,3,5,7,8,9,10] [0,1,2,3,4,5,6,8] U U (fun z=>[(13,(vI z.1.1))]) (fun z=>[(g_ iV AA (bM vB z.1.2))]) (fun _=>rfl) (fun _=>rfl) (fun z=>(t+1-z.1.1).toNat) ⟨(s,nw),A⟩ (aV U) (aH [0,1,2,3,4,5,6,8,7]) ?_
  clear A
  rintro ⟨⟨q,n2⟩,⟨N,H⟩⟩ J37 AO
  try dsimp only at N H
  try dsimp only
  have Id:=Gt (m:=m) (i:=i) (n:=n)
  have If:=L6 (m:=m) (i:=i) (n:=n)
  have La:s=1+(ja m i n:Int):=by rw [P] at C; simp only [zx] at C; omega
  have Li:t=1+(k9 m i n:Int):=by rw [P] at D; simp only [Da] at D; omega
  refine aj fun _ B7=>WS fun _ B9=>rP 3 [] mn ?_
  refine RK B9<|bQ U (aO fun GE=>?_) (aN fun GE=>?_)
  ·refine bD<|ab<|ab<|ay<|aB ?_
   exact d n2 _ _ (by exact L_ (a:=s) (b:=t) (by rw [P,zx] at C; omega) (by rw [P,Da] at D; omega) (H.yn fun u=>⟨fun z=>⟨z.1,fun w=>z.2 I⟩,fun z=>⟨z.1,fun w=>z.2 I⟩⟩)) (aH [0,1,2,3,4,5,6,8])
  refine WK B7<|aj fun _ Ci=>ax<|ak<|fu 2 [] (mc 2 U mn) U<|pS (kV:=iV) (x:=q) (C':=[_,_,_,_,_,_,_,_,(g_ iV AA (bM vB (cG n2 q)))]) 8 U U U U yu (db mY) U (l0 _ _ _).symm U<|aC<|aB<|KK Ci<|ak<|rP 3 [] mn ?_
  refine aC ?_
  refine aR (AO ⟨((q+1),(cG n2 q)),⟨I,D2 N.1 H⟩⟩ _ _ _ U dso (aV U) (aH [0,1,2,3,4,5,6,7,8]))
 try dsimp only
 refine bh 1 U<|RK V<|aj fun _ Ck=>aQ U<|WK Ck<|ax<|WS fun _ Cp=>rS (SX (jq 8 U U U) U U)<|bh 2 U<|AL U dp fun LA=>bh 1 U<|fX U cx U<|RK Cp<|aj fun _ Cx=>WS fun _ C0=>rP 3 [] (mc 4 U mn) ?_
 refine RK C0<|cH U (aN fun E=>?_) (aO fun E=>?_)
 ·refine bD<|ab<|ay<|g9 9 U fJ U ?_
  refine aR (L ⟨((cG left x),s,t),(by refine ⟨?_,?_,gj B,?_⟩<;>dsimp only <;>first|omega|(rw [← GY hn hm E]; omega)|(rw [← Kz hn hm E]; omega))⟩ _ _ _ U (e7 hm) (aV U) (aH [1,2,3,4,5,6,7,8,9]))
 refine WK Cx<|aj fun _ W=>WS fun _ C1=>rP 4 [] (mc 0 U mn) ?_
 refine RK C1<|bQ U (aO fun O=>?_) (aN fun O=>?_)
 ·refine WK W<|WS fun _ C3=>rP 4 [] (mc 0 U mn) ?_
  refine RK C3<|bQ U (aO fun M=>?_) (aN fun M=>?_)
  ·refine bZ<|aB<|g9 9 U fJ U ?_
   refine aR (L ⟨((cG left x),s,t),(by refine ⟨?_,?_,gj B,?_⟩<;>dsimp only <;>first|omega|(have:=Dd hn hm E O; omega)|(have:=Gz hn hm E M; omega))⟩ _ _ _ U (e7 hm) (aV U) (aH [1,2,3,4,5,6,7,8,9]))
  refine ak<|rP 3 [] mn ?_
  refine aC<|aB<|g9 9 U fJ U ?_
  refine aR (L ⟨((cG left x),s,(t+1)),(by refine ⟨?_,?_,gj B,?_⟩<;>dsimp only <;>first|omega|(have:=Dd hn hm E O; omega)|(have:=BG hn hm E M; omega))⟩ _ _ _ U (e7 hm) (aV U) (aH [1,2,3,4,5,6,7,8,9]))
 refine ak<|bh 3 U<|RK W<|WS fun _ C2=>rP 4 [] (mc 0 U mn) ?_
 refine RK C2<|bQ U (aO fun M=>?_) (aN fun M=>?_)
 ·refine bZ<|aB<|g9 9 U fJ U ?_
  refine aR (L ⟨((cG left x),(s+1),t),(by refine ⟨?_,?_,gj B,?_⟩<;>dsimp only <;>first|omega|(have:=yD hn hm E O; omega)|(have:=Gz hn hm E M; omega))⟩ _ _ _ U (e7 hm) (aV U) (aH [1,2,3,4,5,6,7,8,9]))
 refine ak<|rP 3 [] mn ?_
 refine aC<|aB<|g9 9 U fJ U ?_
 refine aR (L ⟨((cG left x),(s+1),(t+1)),(by refine ⟨?_,?_,gj B,?_⟩<;>dsimp only <;>first|omega|(have:=yD hn hm E O; omega)|(have:=BG hn hm E M; omega))⟩ _ _ _ U (e7 hm) (aV U) (aH [1,2,3,4,5,6,7,8,9]))
end
section
open Go.RowKit
theorem NA (la:List Int) (laA:OA) (laC:Nat) (lb:List Int) (lbA:OA) (lbC:Nat) (h1:la.length≤1000000) (h2:lb.length≤1000000):
 ep Tryz.prog 70 [(vS laA la.length laC),(vS lbA lb.length lbC)] [(rd laA la.length 1 (la.map iC)),(rd lbA lb.length 1 (lb.map iC))] (vB (decide (la=lb))):=by
 refine bG kr Tryz.func70 U U fun W Q hQ hN=>?_
 try dsimp only
 refine WS fun _ K=>bh 1 U<|RK K<|aj fun _ L=>WS fun _ M=>rP 5 [] mn ?_
 refine RK M<|cH U (bu fun hl=>?_) (br fun hl=>?_)
 ·refine WS fun _ N=>rP 1 [] mn ?_
  refine RK N<|aq<|Q1 hQ U U U ?_
  first|exact cB (cq (nH hx hy h)).symm|exact cB (fR (nU I A I)).symm|exact cB (cq (fun e=>by subst e; omega)).symm
 refine WK L<|aj fun _ O=>WS fun _ P=>rP 3 [] mn ?_
 refine RK P<|ax ?_
 have B:(0≤la.length)∧(la.take 0=lb.take 0):=by simp
 refine bL (ι:={z:Nat // (z≤la.length)∧(la.take z=lb.take z)}) [0,1,12] [0,1] U U (fun z=>[(13,(vI (z.1:Int)))]) (fun z=>[]) (fun _=>rfl) (fun _=>rfl) (fun z=>la.length-z.1) ⟨0,B⟩ (aV U) (aH [0,1]) ?_
 clear B
 rintro ⟨i,⟨T,A⟩⟩ J7 J
 try dsimp only
 refine WS fun _ R=>rP 1 [] mn ?_
 refine RK R<|aj fun _ S=>bQ U (aO fun AB=>?_) (aN fun AB=>?_)
 ·refine bD<|ab<|ab<|ay<|KK O<|WS fun _ G=>rP 1 [] mn ?_
  refine RK G<|aq<|Q1 hQ U U U ?_
  first|exact cB (cq (nH hx hy h)).symm|exact cB (fR (nU I A I)).symm|exact cB (cq (fun e=>by subst e; omega)).symm
 refine WK S<|aj fun _ C=>ax<|WS fun _ D=>bh 2 U<|RK D<|aj fun _ E=>dK cE 9 kr<|dP 2 [] mn ?_
 obtain ⟨x,hx⟩:=aJ la i I
 have AA:=bK iC hx
 refine dS (IA i U (aA 0 U) cw dc I I)<|dS (fT i 0 (vI x) U cd (aA 0 U) AA U dc U)<|dP 2 [] mn ?_
 obtain ⟨y,hy⟩:=aJ lb i I
 have V:=bK iC hy
 refine dS (IA i U (aA 1 U) cw dc I I)<|dS (fT i 0 (vI y) U cd (aA 1 U) V U dc U)<|dP 1 [] mn ?_
 refine cR<|RK E<|cH U (bu fun h=>?_) (br fun h=>?_)
 ·refine WS fun _ F=>rP 1 [] mn ?_
  refine RK F<|aq<|Q1 hQ U U U ?_
  first|exact cB (cq (nH hx hy h)).symm|exact cB (fR (nU I A I)).symm|exact cB (cq (fun e=>by subst e; omega)).symm
 refine bZ<|aB<|KK C<|ak<|rP 2 [] mn ?_
 refine aC ?_
 have H:(vI (((i+1):Nat):Int))=(vI ((i:Int)+1)):=by exact cI I
 refine aR (J ⟨(i+1),⟨I,u0 A hx hy h⟩⟩ _ _ _ U os (cK 3<|aY U H<|du.nil _) (aH [0,1]))
theorem HI (h i:Int) (t:aa) (r:bT) (kA:OA) (kC:Nat) (az:List RA) (cA:OA) (cC:Nat) (bA:OA) (bC:Nat) (slA:OA) (slC:Nat) (drA:OA) (drC:Nat) (ha:List cy) (heA:OA) (heC:Nat) (hin:eO r az ha):
 ld Tryz.prog 31 [(vA (cp.cells (oQ r kA kC cA cC bA bC slA slC drA drC heA heC))),(vI h),(vI i),(vA (aa.cells t))] [(rd fg 3 2 eu),(rd kA r.ao.aM.length 9 (r.ao.aM.map al.cells)),(rd cA r.ao.ai.length 2 (List.zipWith ar.cells r.ao.ai az)),(fc (aU ar.g4 r.ao.ai az)),(rd bA r.ao.ae.length 4 (r.ao.ae.map bH.cells)),(rd slA r.aL.length 1 (r.aL.map iC)),(rd drA r.bE.length 1 (r.bE.map iC)),(rd heA r.an.length 1 (List.zipWith ct r.an ha)),(fc (aU iw r.an ha))] (fun (x:(OA)×Nat)=>(vT [(vS x.1 ((e8 r h i t).length) x.2),(vI (gT r h i t))])) (fun (x:(OA)×Nat)=>True) (fun (x:(OA)×Nat)=>[(own x.1 x.2 3 1 ((e8 r h i t).map iC))]):=by
 have IR:=hin.line
 have La:=hin.iH
 have Li:=hin.has
 have J8:=hin.iI
 have J6:=hin.draw
 have Dk:=dE (r:=r)
 refine dg kr Tryz.func31 U U fun w0 Q hQ hN=>?_
 try dsimp only
 refine WS fun _ IO=>fQ U fun b2=>fQ U fun b3=>bh 2 U<|RK IO<|WS fun _ A0=>rP 1 [] (mc 1 U mn) ?_
 refine cX (oB r kA kC az cA cC bA bC slA slC drA drC ha heA heC hin) (bg [2,3,4,5,6,7,8,9,10]) U fun y5 Do=>?_
 obtain ⟨EQ,LE,v,G,f,g,Ay⟩:=y5
 cases EQ
 ·obtain ⟨B,he⟩:=Do.2 rfl
  try dsimp only at B he
  subst B
  try dsimp only [cond_true,cond_false,List.cons_append,List.nil_append]
  refine bh 5 U<|RK A0<|aj fun _ J4=>WS fun _ AC=>rP 2 [] mn ?_
  refine RK AC<|bQ U (br fun w=>?_) (bu fun w=>?_)
  ·exact absurd w he
  refine WS fun _ AO=>rP 1 [] mn ?_
  have A:gT r h i t=cD r:=sf he
  have C:e8 r h i t=[]:=xN (by rw [A]; exact he)
  refine dV 3 1 ?_
  rw [show (own none 0 3 1 ([]:List (List Value)))=own none 0 3 1 ((e8 r h i t).map iC) from by rw [C]; rfl]
  refine rP 2 [] mn ?_
  refine RK AO<|aq ?_
  refine LX hQ (none,0) [0] [] mn U U U ?_ ?_
  ·first|rfl|(rw [A,C]; rfl)|(rw [A]; rfl)
  ·trivial
 obtain ⟨he,m⟩:=Do.1 rfl
 try dsimp only [cond_true,cond_false,List.cons_append,List.nil_append]
 have AB:=he
 try dsimp only at m
 have C2:=(fM he).2
 refine bh 5 U<|RK A0<|aj fun _ Ai=>WS fun _ As=>bh 1 U<|rS (SX (b_ (r:= .bool false) U U U nK) U U)<|RK As<|aW U<|WK Ai<|WS fun _ Z=>rP 4 [] (mc 4 U mn) ?_
 refine cX (xT r kA kC az cA cC bA bC slA slC drA drC ha heA heC Ay f g (Value.map (some G)) v h i t hin (by exact C2)) (l8 [7,8,9,10,11,12,13,14]<|av (ag (n:=(cS r).length) 1 U (m7 (by rw [Dk]; exact m)))<|av (dL 2 U s7)<|fj 0 U U<|aI) U fun Id d=>?_
 obtain ⟨Eq,J2,L,S,M,T,o,N,AA,O,V,P,W,R,X,Dz⟩:=Id
 cases Eq
 ·obtain ⟨B,he⟩:=d.2 rfl
  try dsimp only at B he
  subst B
  try dsimp only [cond_true,cond_false,List.cons_append,List.nil_append]
  refine bh 3 U<|AL U yp fun K5=>fX U rM U<|bh 1 U<|RK Z<|aj fun _ J5=>WS fun _ A1=>rP 2 [] mn ?_
  refine RK A1<|bQ U (br fun y=>?_) (bu fun y=>?_)
  ·exact absurd y he
  refine WS fun _ A2=>rP 1 [] mn ?_
  have A:gT r h i t=qG r h i t:=o7 AB
  have C:e8 r h i t=[]:=xN (by rw [A]; exact he)
  refine dV 3 1 ?_
  rw [show (own none 0 3 1 ([]:List (List Value)))=own none 0 3 1 ((e8 r h i t).map iC) from by rw [C]; rfl]
  refine rP 2 [] mn ?_
  refine RK A2<|aq ?_
  refine LX hQ (none,0) [0] [] mn U U U ?_ ?_
  ·first|rfl|(rw [A,C]; rfl)|(rw [A]; rfl)
  ·trivial
 obtain ⟨E,⟨j,Cx⟩,J⟩:=d.1 rfl
 try dsimp only [cond_true,cond_false,List.cons_append,List.nil_append]
 try dsimp only at E j Cx J
 have l:gT r h i t=0:=(o7 AB).trans E
 have C0:=hin.rep j Cx J
 refine bh 3 U<|AL U yp fun K8=>fX U rM U<|bh 1 U<|RK Z<|aj fun _ A3=>WS fun _ A4=>bh 1 U<|rS (SX (b_ (r:= .bool false) U U U nK) U U)<|RK A4<|aW U<|WK A3<|WS fun _ A5=>rP 1 [] (mc 0 U mn) ?_
 refine cX (oB (jL r h i t) L S o M T N AA O V P W Dz R X (by exact C0)) (fj 15 U U<|av (ag (n:=r.ao.aM.length) 1 U sm)<|av (ag (n:=r.ao.ai.length) 2 U (fG j))<|av (dL 3 U iB)<|av (ag (n:=r.ao.ae.length) 4 U sm)<|av (ag (n:=r.aL.length) 5 U sm)<|av (ag (n:=r.bE.length) 6 U sm)<|av (ag (n:=(gW r.an h i t).length) 7 U (dx J.1))<|av (gQ 8 U J)<|aI) U fun If e=>?_
 obtain ⟨FS,J3,s,p,Fd,Fm,Oj⟩:=If
 cases FS
 ·obtain ⟨B,he⟩:=e.2 rfl
  try dsimp only at B he
  subst B
  try dsimp only [cond_true,cond_false,List.cons_append,List.nil_append]
  exact absurd (yV l) he
 obtain ⟨he,m⟩:=e.1 rfl
 try dsimp only [cond_true,cond_false,List.cons_append,List.nil_append]
 have C3:=oL AB
 have F:=mu AB
 have Di:=oL he
 have J7:=mu he
 refine bh 5 U<|RK A5<|WS fun _ A6=>bh 1 U<|RK A6<|aj fun _ A7=>WS fun _ A8=>bh 1 U<|rS (SX (bO U U) U U)<|rP 2 [] (mc 13 U mn) ?_
 refine cX (F8 G) (aI) U fun GT J9=>?_
 try dsimp only
 refine cX (zN (aG r) G GT sd) (bg [17,0]) U fun In KM=>?_
 obtain ⟨K4,LD⟩:=In
 try dsimp only
 rw [show (aG r).length=(dv ((aG r).map (·.1))).length from by rw [gF,List.length_map]]
 refine rP 1 [] mn ?_
 have C1:(dv ((aG r).map (·.1))).length≤5:=by rw [gF,List.length_map]; exact F
 refine rP 1 [] mn ?_
 refine RK A8<|ax<|fZ 3 1 ?_
 have D:(0≤(dv ((aG r).map (·.1))).length):=by exact Nat.zero_le _
 refine bL (ι:={z:Nat×(OA)×Nat // (z.1≤(dv ((aG r).map (·.1))).length)}) [10,13,47,48] [1,3,4,5,6,8,9,10,11,12,13,14,15,16,17,18,19,22,23,24,25,26,27,28,29,30] U U (fun z=>[(15,(vS z.1.2.1 ((((dv ((aG r).map (·.1))).take z.1.1).filter (fun u=> !decide (dU (aG r) u (aF (aG r) u)=dU (aG (jL r h i t)) u (aF (aG (jL r h i t)) u)))).length) z.1.2.2)),(49,(vI (z.1.1:Int)))]) (fun z=>[(own z.1.2.1 z.1.2.2 3 1 ((((dv ((aG r).map (·.1))).take z.1.1).filter (fun u=> !decide (dU (aG r) u (aF (aG r) u)=dU (aG (jL r h i t)) u (aF (aG (jL r h i t)) u)))).map iC))]) (fun _=>rfl) (fun _=>rfl) (fun z=>(dv ((aG r).map (·.1))).length-z.1.1) ⟨(0,none,0),D⟩ (aV U) (aH [1,3,4,5,6,8,9,10,11,12,13,14,15,16,17,18,19,22,23,24,25,26,27,28,29,30,0]) ?_
 clear D
 rintro ⟨⟨k,a,c⟩,K⟩ J65 Y
 try dsimp only at K
 try dsimp only
 have LT:((((dv ((aG r).map (·.1))).take k).filter (fun u=> !decide (dU (aG r) u (aF (aG r) u)=dU (aG (jL r h i t)) u (aF (aG (jL r h i t)) u))))).length≤12:=Nat.le_trans (List.length_filter_le _ _) (by rw [List.length_take]; omega)
 refine WS fun _ A9=>rP 1 [] mn ?_
 refine RK A9<|aj fun _ B3=>bQ U (aO fun H1=>?_) (aN fun H1=>?_)
 ·refine bD<|ab<|ab<|ay<|KK A7<|WS fun _ Ci=>rP 1 [] mn ?_
  have A:=l
  have C:e8 r h i t=(((dv ((aG r).map (·.1))).take k).filter (fun u=> !decide (dU (aG r) u (aF (aG r) u)=dU (aG (jL r h i t)) u (aF (aG (jL r h i t)) u)))):=by rw [DY l,List.take_of_length_le I]
  rw [← C]
  refine rP 2 [] mn ?_
  refine RK Ci<|aq ?_
  refine LX hQ (a,c) [26] [] mn U U U ?_ ?_
  ·first|rfl|(rw [A,C]; rfl)|(rw [A]; rfl)
  ·trivial
 refine WK B3<|aj fun _ b=>ax<|WS fun _ B7=>?_
 obtain ⟨x,hx⟩:=aJ (dv ((aG r).map (·.1))) k I
 have IW:=bK iC hx
 refine rS (IA k U (ag (n:=(dv ((aG r).map (·.1))).length) 0 U sm) cw dc I I)<|rS (fT k 0 (vI x) U cd (ag (n:=(dv ((aG r).map (·.1))).length) 0 U sm) IW U dc U)<|bh 1 U<|RK B7<|WS fun _ B9=>rP 2 [] mn ?_
 refine cX (z_ r kA kC cA cC bA bC slA slC drA drC heA heC f ((cS r).length) g G v (aG r) x (by exact C3) (by exact Dr (aT hx)) I) (bg [13,16]) U fun JM Kj=>?_
 obtain ⟨Fn,Go⟩:=JM
 try dsimp only
 refine rP 2 [] mn ?_
 refine cX (z_ (bT.mk r.ao r.aL r.bE r.gJ (gW r.an h i t)) L S M T N AA O V P W R X Fd ((cS (jL r h i t)).length) Fm p s (aG (jL r h i t)) x (by exact Di) (by exact fun q=>by have:=Ll E x; rw [q] at this; exact Dr (aT hx) (Option.not_isSome_iff_eq_none.1 (by rw [← this]; decide))) I) (bg [2,5]) U fun JQ K0=>?_
 obtain ⟨F5,Hb⟩:=JQ
 try dsimp only
 refine rS (CL (NA (dU (aG r) x (aF (aG r) x)) Fn Go (dU (aG (jL r h i t)) x (aF (aG (jL r h i t)) x)) F5 Hb (by exact Nat.le_trans w6 I) (by exact Nat.le_trans w6 I)) (av (ag (n:=(dU (aG r) x (aF (aG r) x)).length) 1 U sm)<|av (ag (n:=(dU (aG (jL r h i t)) x (aF (aG (jL r h i t)) x)).length) 0 U sm)<|aI) U)<|rP 1 [] mn ?_
 refine RK B9<|bQ U (br fun H=>?_) (bu fun H=>?_)
 ·refine bZ<|aB<|KK b<|ak<|rP 1 [] mn ?_
  have C1:(dv ((aG r).map (·.1))).length≤5:=by rw [gF,List.length_map]; exact F
  refine rP 1 [] mn ?_
  refine aC ?_
  rw [show (((dv ((aG r).map (·.1))).take k).filter (fun u=> !decide (dU (aG r) u (aF (aG r) u)=dU (aG (jL r h i t)) u (aF (aG (jL r h i t)) u))))=(((dv ((aG r).map (·.1))).take (k+1)).filter (fun u=> !decide (dU (aG r) u (aF (aG r) u)=dU (aG (jL r h i t)) u (aF (aG (jL r h i t)) u)))) from (GF hx (by simpa using H)).symm]
  have Cp:(vI (((k+1):Nat):Int))=(vI ((k:Int)+1)):=by exact cI I
  refine aR (Y ⟨((k+1),a,c),(by first|omega|(simp only []; omega))⟩ _ _ _ U (by first|omega|(dsimp only; omega)) (cK 5<|aY U Cp<|du.nil _) (aH [2,3,4,5,6,7,8,9,10,11,12,13,14,15,16,17,18,19,20,21,22,23,24,25,26,27,28]))
 refine ak<|rP 2 [] mn ?_
 refine df (xs:=[.tmp 62]) (cs:=[(vI x)]) U cw js U U U U (by simp [Value.cells]) U U fun LA=>?_
 refine cL (es2:=(List.map iC (((dv ((aG r).map (·.1))).take (k+1)).filter (fun u=> !decide (dU (aG r) u (aF (aG r) u)=dU (aG (jL r h i t)) u (aF (aG (jL r h i t)) u)))))) (m':=(((dv ((aG r).map (·.1))).take (k+1)).filter (fun u=> !decide (dU (aG r) u (aF (aG r) u)=dU (aG (jL r h i t)) u (aF (aG (jL r h i t)) u)))).length) 29 U U U o2 U U sm (bf (es:=List.map iC [x]) 0 U U (by simp [bI]) U) (jM _) os (by simp only [maxLen]; first|omega|(simp; omega)) (by rw [wE hx (by simpa using H)]; simp) (by rw [wE hx (by simpa using H)]; simp) U fun GE Hi=>?_
 try dsimp only
 refine bh 1 U<|aC<|aB<|KK b<|ak<|rP 1 [] mn ?_
 have C1:(dv ((aG r).map (·.1))).length≤5:=by rw [gF,List.length_map]; exact F
 refine rP 1 [] mn ?_
 refine aC ?_
 have Ck:(vI (((k+1):Nat):Int))=(vI ((k:Int)+1)):=by exact cI I
 refine aR (Y ⟨((k+1),GE,Hi),(by first|omega|(simp only []; omega))⟩ _ _ _ U (by first|omega|(dsimp only; omega)) (cK 5<|aY U Ck<|du.nil _) (aH [3,4,5,6,7,8,9,10,11,12,13,14,15,16,17,18,19,20,21,22,23,24,25,26,27,28,29]))
end
section
open Go.RowKit
theorem mo (x y:Int):
 ep Tryz.prog 30 [(vI x),(vI y)] [] (vA (aa.cells (aa.mk x y))):=by
 refine bG kr Tryz.func30 U U fun D Q hQ hN=>?_
 try dsimp only
 refine WS fun _ A=>AL U dp fun C=>RK A<|WS fun _ B=>rP 2 [] mn ?_
 refine rS (SX (bk (xs:=[(0,.tmp 5),(1,.tmp 6)]) (cs:=(aa.cells (aa.mk x y))) U U (bj gv U)) U U)<|fX U cx U<|RK B<|aq ?_
 exact IC hQ [0] (mc 0 U mn) U U
theorem zY (x:Int):
 ep Tryz.prog 106 [(vI x)] [] (vA (cM.cells (cM.mk 0 (aa.mk x x)))):=by
 refine bG kr Tryz.func106 U U fun D Q hQ hN=>?_
 try dsimp only
 refine WS fun _ A=>AL U Dc fun C=>RK A<|WS fun _ B=>rP 2 [] mn ?_
 refine rS (CL (mo x x) (aI) U)<|rS (SX (bk (xs:=[(1,.tmp 5)]) (cs:=(cM.cells (cM.mk 0 (aa.mk x x)))) U U (bj S6 U)) U U)<|fX U Kf U<|RK B<|aq ?_
 exact IC hQ [0] (mc 0 U mn) U U
theorem qj (x y:Int):
 ep Tryz.prog 68 [(vI x),(vI y)] [] (vA (bp.cells (bp.mk false true (aa.mk x y) (dY.mk 0 0 (bo.mk none 0 0))))):=by
 refine bG kr Tryz.func68 U U fun D Q hQ hN=>?_
 try dsimp only
 refine WS fun _ A=>AL U Ow fun C=>RK A<|WS fun _ B=>rP 2 [] mn ?_
 refine rS (CL (mo x y) (aI) U)<|rS (SX (bk (xs:=[(1,.const (vB true)),(2,.tmp 7)]) (cs:=(bp.cells (bp.mk false true (aa.mk x y) (dY.mk 0 0 (bo.mk none 0 0))))) U U (bj Qh U)) U U)<|fX U Rp U<|RK B<|aq ?_
 exact IC hQ [0] (mc 0 U mn) U U
theorem Om:
 ld Tryz.prog 66 [] [] (fun (x:(OA)×Nat×(OA)×Nat×(List RA)×(OA)×Nat)=>(vA (bW.cells (bW.mk (bB.mk (bo.mk x.1 aP.ao.aM.length x.2.1)) aP.ao.gH (bo.mk x.2.2.1 aP.ao.ai.length x.2.2.2.1) (bo.mk x.2.2.2.2.2.1 aP.ao.ae.length x.2.2.2.2.2.2) aP.ao.cr aP.ao.eh aP.ao.cO)))) (fun (x:(OA)×Nat×(OA)×Nat×(List RA)×(OA)×Nat)=>x.2.2.2.2.1.length=aP.ao.ai.length∧er aP.ao x.2.2.2.2.1) (fun (x:(OA)×Nat×(OA)×Nat×(List RA)×(OA)×Nat)=>[(own x.1 x.2.1 153 9 (aP.ao.aM.map al.cells)),(own x.2.2.1 x.2.2.2.1 53 2 (List.zipWith ar.cells aP.ao.ai x.2.2.2.2.1)),(bw (aU ar.owns aP.ao.ai x.2.2.2.2.1)),(own x.2.2.2.2.2.1 x.2.2.2.2.2.2 160 4 (aP.ao.ae.map bH.cells))]):=by
 refine dg kr Tryz.func66 U U fun AA Q hQ hN=>?_
 try dsimp only
 refine WS fun _ E=>AL U Ut fun H=>RK E<|WS fun _ F=>bh 1 U<|RK F<|WS fun _ G=>rS (CL (mo 10000 10200) (aI) U)<|rS (CL (mo 0 100) (aI) U)<|rS (SX (bk (xs:=[(0,.const (vI 1)),(1,.tmp 2),(2,.tmp 3)]) (cs:=(al.cells (al.mk 1 (aa.mk 10000 10200) (aa.mk 0 100) (aa.mk 0 0) 0 0))) U U (bj Tp U)) U U)<|df (xs:=[.tmp 4]) (cs:=(al.cells (al.mk 1 (aa.mk 10000 10200) (aa.mk 0 100) (aa.mk 0 0) 0 0))) U w8 GI U U U U (by simp [Value.cells,al.aX]) U U fun B=>rS (SX (bk (xs:=[(0,.tmp 5)]) (cs:=(bB.cells (bB.mk (bo.mk (some ⟨B,0,none⟩) 1 1)))) U U (bj Uo U)) U U)<|rS (CL (mo 0 2) (aI) U)<|rS (SX (bk (xs:=[(0,.const (vI 0)),(1,.tmp 7)]) (cs:=(cz.cells (cz.mk 0 (aa.mk 0 2)))) U U (bj Te U)) U U)<|rS (CL (mo 5 6) (aI) U)<|rS (SX (bk (xs:=[(0,.const (vI 100000)),(1,.tmp 9)]) (cs:=(cz.cells (cz.mk 100000 (aa.mk 5 6)))) U U (bj Te U)) U U)<|df (xs:=[.tmp 8,.tmp 10]) (cs:=((cz.cells (cz.mk 0 (aa.mk 0 2)))++(cz.cells (cz.mk 100000 (aa.mk 5 6))))) U vJ yv U U U U (by simp [Value.cells,cz.aX]) U U fun A=>rS (SX (bk (xs:=[(0,.const (vI 100)),(1,.tmp 11)]) (cs:=(dq.cells (dq.mk 100 (bo.mk (some ⟨A,0,none⟩) 2 2)))) U U (bj U1 U)) U U)<|df (xs:=[.tmp 12]) (cs:=(dq.cells (dq.mk 100 (bo.mk (some ⟨A,0,none⟩) 2 2)))) U vD Oj U U U U (by simp [Value.cells,dq.aX]) U U fun C=>bh 1 U<|rS (CL (zY 1000) (aI) U)<|rS (SX (bk (xs:=[(0,.tmp 15)]) (cs:=(bH.cells (bH.mk (cM.mk 0 (aa.mk 1000 1000)) 0))) U U (bj JH U)) U U)<|bh 1 U<|rS (CL (zY 4000) (aI) U)<|rS (SX (bk (xs:=[(0,.tmp 18)]) (cs:=(bH.cells (bH.mk (cM.mk 0 (aa.mk 4000 4000)) 0))) U U (bj JH U)) U U)<|rP 1 [] mn ?_
 refine rS (CL (zY 9000) (aI) U)<|rS (SX (bk (xs:=[(0,.tmp 21)]) (cs:=(bH.cells (bH.mk (cM.mk 0 (aa.mk 9000 9000)) 0))) U U (bj JH U)) U U)<|df (xs:=[.tmp 16,.tmp 19,.tmp 22]) (cs:=((bH.cells (bH.mk (cM.mk 0 (aa.mk 1000 1000)) 0))++(bH.cells (bH.mk (cM.mk 0 (aa.mk 4000 4000)) 0))++(bH.cells (bH.mk (cM.mk 0 (aa.mk 9000 9000)) 0)))) U uG Tq U U U U (by simp [Value.cells,bH.aX]) U U fun D=>rS (SX (bk (xs:=[(0,.tmp 6),(1,.const (vI 2000)),(4,.const (vI 1)),(5,.const (vI 1)),(6,.const (vI 1)),(2,.tmp 13),(3,.tmp 23)]) (cs:=(bW.cells (bW.mk (bB.mk (bo.mk (some ⟨B,0,none⟩) 1 1)) 2000 (bo.mk (some ⟨C,0,none⟩) 1 1) (bo.mk (some ⟨D,0,none⟩) 3 3) 1 1 1))) U U (bj VT U)) U U) ?_
 refine cW (es:=(aP.ao.aM.map al.cells)) (C':=[_,_,_,(own (some ⟨B,0,none⟩) 1 153 9 (aP.ao.aM.map al.cells)),_]) 3 U (m6 al.aX _) U (by show _≤maxLen; exact Nat.le_trans (m:=10) (show (1:Nat)≤10 by decide) dc) U ?_
 refine cW (es:=(yq.bq.map cz.cells)) (C':=[_,_,(own (some ⟨A,0,none⟩) 2 55 3 (yq.bq.map cz.cells)),_,_]) 2 U (m6 cz.aX _) U (by show _≤maxLen; exact Nat.le_trans (m:=10) (show (2:Nat)≤10 by decide) dc) U ?_
 refine cW (es:=(List.zipWith ar.cells aP.ao.ai [((some ⟨A,0,none⟩),2)])) (C':=[_,(own (some ⟨C,0,none⟩) 1 53 2 (List.zipWith ar.cells aP.ao.ai [((some ⟨A,0,none⟩),2)])),_,_,_]) 1 U (by intro x hx; change x∈[ar.cells yq ((some ⟨A,0,none⟩),2)] at hx; rw [bJ.1 hx]; rfl) U (by show _≤maxLen; exact Nat.le_trans (m:=10) (show (1:Nat)≤10 by decide) dc) U ?_
 refine cW (es:=(aP.ao.ae.map bH.cells)) (C':=[(own (some ⟨D,0,none⟩) 3 160 4 (aP.ao.ae.map bH.cells)),_,_,_,_]) 0 U (m6 bH.aX _) U (by show _≤maxLen; exact Nat.le_trans (m:=10) (show (3:Nat)≤10 by decide) dc) U ?_
 refine xg<|O_ (X:=[]) (X':=aU ar.owns aP.ao.ai [((some ⟨A,0,none⟩),2)]) 0 3 U U U<|PI U Rg U<|RK G<|aq ?_
 refine LX hQ ((some ⟨B,0,none⟩),1,(some ⟨C,0,none⟩),1,[((some ⟨A,0,none⟩),2)],(some ⟨D,0,none⟩),3) [3,2,0,1] [0] (mc 4 U mn) U (by simp only [fw,List.all_nil,fI,Bool.and_true]; rfl) U U ?_
 exact ⟨U,Th 1 dc⟩
theorem Oh:
 ld Tryz.prog 67 [] [] (fun (x:(OA)×Nat)=>(vA (dY.cells (dY.mk mQ.Start mQ.gk (bo.mk x.1 mQ.ah.length x.2))))) (fun (x:(OA)×Nat)=>True) (fun (x:(OA)×Nat)=>[(own x.1 x.2 107 2 (mQ.ah.map aK.cells))]):=by
 refine dg kr Tryz.func67 U U fun E Q hQ hN=>?_
 try dsimp only
 refine WS fun _ B=>AL U Uj fun D=>RK B<|WS fun _ C=>rS (SX (bk (xs:=[(0,.const (vI 0)),(1,.const (vI 10600))]) (cs:=(aK.cells (aK.mk 0 10600))) U U (bj Fv U)) U U)<|rS (SX (bk (xs:=[(0,.const (vI 0)),(1,.const (vI 11000))]) (cs:=(aK.cells (aK.mk 0 11000))) U U (bj Fv U)) U U)<|rS (SX (bk (xs:=[(0,.const (vI 1)),(1,.const (vI 12600))]) (cs:=(aK.cells (aK.mk 1 12600))) U U (bj Fv U)) U U)<|df (xs:=[.tmp 1,.tmp 2,.tmp 3]) (cs:=((aK.cells (aK.mk 0 10600))++(aK.cells (aK.mk 0 11000))++(aK.cells (aK.mk 1 12600)))) U ym Gj U U U U (by simp [Value.cells,aK.aX]) U U fun A=>rS (SX (bk (xs:=[(0,.const (vI 10000)),(1,.const (vI 20000)),(2,.tmp 4)]) (cs:=(dY.cells (dY.mk 10000 20000 (bo.mk (some ⟨A,0,none⟩) 3 3)))) U U (bj Vh U)) U U)<|cW (es:=(mQ.ah.map aK.cells)) (C':=[(own (some ⟨A,0,none⟩) 3 107 2 (mQ.ah.map aK.cells)),_]) 0 U (m6 aK.aX _) U dc U<|sT U Rl U<|RK C<|aq<|LX hQ ((some ⟨A,0,none⟩),3) [0] [0] (mc 1 U mn) U U U U ?_
 trivial
end
section
open Go.RowKit
theorem jH:
 ld Tryz.prog 28 [] [] (fun (x:(OA)×Nat×(OA)×Nat×(List RA)×(OA)×Nat×(OA)×Nat×(OA)×Nat×(OA)×Nat×(List cy))=>(vA (cp.cells (cp.mk (bW.mk (bB.mk (bo.mk x.1 aP.ao.aM.length x.2.1)) aP.ao.gH (bo.mk x.2.2.1 aP.ao.ai.length x.2.2.2.1) (bo.mk x.2.2.2.2.2.1 aP.ao.ae.length x.2.2.2.2.2.2.1) aP.ao.cr aP.ao.eh aP.ao.cO) (bo.mk x.2.2.2.2.2.2.2.1 aP.aL.length x.2.2.2.2.2.2.2.2.1) (bo.mk x.2.2.2.2.2.2.2.2.2.1 aP.bE.length x.2.2.2.2.2.2.2.2.2.2.1) aP.gJ (bo.mk x.2.2.2.2.2.2.2.2.2.2.2.1 aP.an.length x.2.2.2.2.2.2.2.2.2.2.2.2.1))))) (fun (x:(OA)×Nat×(OA)×Nat×(List RA)×(OA)×Nat×(OA)×Nat×(OA)×Nat×(OA)×Nat×(List cy))=>eO aP x.2.2.2.2.1 x.2.2.2.2.2.2.2.2.2.2.2.2.2∧x.2.2.2.2.1.length=aP.ao.ai.length∧qh aP.an x.2.2.2.2.2.2.2.2.2.2.2.2.2) (fun (x:(OA)×Nat×(OA)×Nat×(List RA)×(OA)×Nat×(OA)×Nat×(OA)×Nat×(OA)×Nat×(List cy))=>[(own x.1 x.2.1 153 9 (aP.ao.aM.map al.cells)),(own x.2.2.1 x.2.2.2.1 53 2 (List.zipWith ar.cells aP.ao.ai x.2.2.2.2.1)),(bw (aU ar.owns aP.ao.ai x.2.2.2.2.1)),(own x.2.2.2.2.2.1 x.2.2.2.2.2.2.1 160 4 (aP.ao.ae.map bH.cells)),(own x.2.2.2.2.2.2.2.1 x.2.2.2.2.2.2.2.2.1 3 1 (aP.aL.map iC)),(own x.2.2.2.2.2.2.2.2.2.1 x.2.2.2.2.2.2.2.2.2.2.1 3 1 (aP.bE.map iC)),(own x.2.2.2.2.2.2.2.2.2.2.2.1 x.2.2.2.2.2.2.2.2.2.2.2.2.1 56 1 (List.zipWith ct aP.an x.2.2.2.2.2.2.2.2.2.2.2.2.2)),(bw (aU im aP.an x.2.2.2.2.2.2.2.2.2.2.2.2.2))]):=by
 refine dg kr Tryz.func28 U U fun Y Q hQ hN=>?_
 try dsimp only
 refine WS fun _ P=>AL U yp fun X=>RK P<|WS fun _ R=>cX Om (aI) U fun W T=>?_
 obtain ⟨J,M,K,N,L,E,F⟩:=W
 try dsimp only
 obtain ⟨S,O⟩:=T
 refine df (xs:=[.const (vI 4),.const (vI 7),.const (vI 9)]) (cs:=[(vI 4),(vI 7),(vI 9)]) U cw js U U U U (by simp [Value.cells]) U U fun G=>df (xs:=[.const (vI 2),.const (vI 0),.const (vI 1)]) (cs:=[(vI 2),(vI 0),(vI 1)]) U cw js U U U U (by simp [Value.cells]) U U fun H=>cX Oh (aI) U fun AA V=>?_
 obtain ⟨A,B⟩:=AA
 try dsimp only
 refine rS (SX (bk (xs:=[(3,.tmp 4)]) (cs:=(bp.cells (bp.mk false false (aa.mk 0 0) (dY.mk mQ.Start mQ.gk (bo.mk A mQ.ah.length B))))) U U (bj Qh U)) U U)<|rS (CL (qj 2600 2600) (aI) U)<|rS (CL (qj 2580 2609) (aI) U)<|df (xs:=[.tmp 5,.tmp 6,.tmp 7]) (cs:=((bp.cells (bp.mk false false (aa.mk 0 0) (dY.mk mQ.Start mQ.gk (bo.mk A mQ.ah.length B))))++(bp.cells (bp.mk false true (aa.mk 2600 2600) (dY.mk 0 0 (bo.mk none 0 0))))++(bp.cells (bp.mk false true (aa.mk 2580 2609) (dY.mk 0 0 (bo.mk none 0 0)))))) U ug Ow U U U U (by simp [Value.cells,bp.aX]) U U fun C=>rS (CL (qj 2555 2559) (aI) U)<|rS (CL (qj 2540 2549) (aI) U)<|rS (CL (qj 2570 2575) (aI) U)<|df (xs:=[.tmp 9,.tmp 10,.tmp 11]) (cs:=((bp.cells (bp.mk false true (aa.mk 2555 2559) (dY.mk 0 0 (bo.mk none 0 0))))++(bp.cells (bp.mk false true (aa.mk 2540 2549) (dY.mk 0 0 (bo.mk none 0 0))))++(bp.cells (bp.mk false true (aa.mk 2570 2575) (dY.mk 0 0 (bo.mk none 0 0)))))) U ug Ow U U U U (by simp [Value.cells,bp.aX]) U U fun D=>df (xs:=[.tmp 8,.tmp 12]) (cs:=[(vS (some ⟨C,0,none⟩) 3 3),(vS (some ⟨D,0,none⟩) 3 3)]) U nA Vv U U U U (by simp [Value.cells]) U U fun AB=>rS (SX (bk (xs:=[(0,.tmp 1),(1,.tmp 2),(2,.tmp 3),(3,.const (vI 2)),(4,.tmp 13)]) (cs:=(cp.cells (cp.mk (bW.mk (bB.mk (bo.mk J aP.ao.aM.length M)) aP.ao.gH (bo.mk K aP.ao.ai.length N) (bo.mk E aP.ao.ae.length F) aP.ao.cr aP.ao.eh aP.ao.cO) (bo.mk (some ⟨G,0,none⟩) 3 3) (bo.mk (some ⟨H,0,none⟩) 3 3) 2 (bo.mk (some ⟨AB,0,none⟩) 2 2)))) U U (bj Im U)) U U) ?_
 refine cW (es:=(aP.aL.map iC)) (C':=[_,_,_,_,_,(own (some ⟨G,0,none⟩) 3 3 1 (aP.aL.map iC)),_,_,_,_,_]) 5 U (m6 bI _) U (by show _≤maxLen; exact Nat.le_trans (m:=10) (show (3:Nat)≤10 by decide) dc) U ?_
 refine cW (es:=(aP.bE.map iC)) (C':=[_,_,_,_,(own (some ⟨H,0,none⟩) 3 3 1 (aP.bE.map iC)),_,_,_,_,_,_]) 4 U (m6 bI _) U (by show _≤maxLen; exact Nat.le_trans (m:=10) (show (3:Nat)≤10 by decide) dc) U ?_
 refine cW (es:=(List.zipWith aw.cells T_ [(A,B),(none,0),(none,0)])) (C':=[_,_,(own (some ⟨C,0,none⟩) 3 62 7 (List.zipWith aw.cells T_ [(A,B),(none,0),(none,0)])),_,_,_,_,_,_,_,_]) 2 U (pa Gd) U (by show _≤maxLen; exact Nat.le_trans (m:=10) (show (3:Nat)≤10 by decide) dc) U ?_
 refine cW (es:=(List.zipWith aw.cells Up [(none,0),(none,0),(none,0)])) (C':=[_,(own (some ⟨D,0,none⟩) 3 62 7 (List.zipWith aw.cells Up [(none,0),(none,0),(none,0)])),_,_,_,_,_,_,_,_,_]) 1 U (pa Gd) U (by show _≤maxLen; exact Nat.le_trans (m:=10) (show (3:Nat)≤10 by decide) dc) U ?_
 refine cW (es:=(List.zipWith ct aP.an [(((some ⟨C,0,none⟩),3),[(A,B),(none,0),(none,0)]),(((some ⟨D,0,none⟩),3),[(none,0),(none,0),(none,0)])])) (C':=[(own (some ⟨AB,0,none⟩) 2 56 1 (List.zipWith ct aP.an [(((some ⟨C,0,none⟩),3),[(A,B),(none,0),(none,0)]),(((some ⟨D,0,none⟩),3),[(none,0),(none,0),(none,0)])])),_,_,_,_,_,_,_,_,_,_]) 0 U (pa KA) U (by show _≤maxLen; exact Nat.le_trans (m:=10) (show (2:Nat)≤10 by decide) dc) U ?_
 refine dV 107 2<|dV 107 2<|dV 107 2<|dV 107 2<|dV 107 2<|uj (aU im aP.an [(((some ⟨C,0,none⟩),3),[(A,B),(none,0),(none,0)]),(((some ⟨D,0,none⟩),3),[(none,0),(none,0),(none,0)])]) [7,8,0,1,6,2,3,4] [5,9,10,11,12,13,14,15] U U<|Wc U rM U<|RK R<|aq ?_
 refine LX hQ (J,M,K,N,L,E,F,(some ⟨G,0,none⟩),3,(some ⟨H,0,none⟩),3,(some ⟨AB,0,none⟩),2,[(((some ⟨C,0,none⟩),3),[(A,B),(none,0),(none,0)]),(((some ⟨D,0,none⟩),3),[(none,0),(none,0),(none,0)])]) [4,5,6,7,3,2,1,0] [0] (mc 8 U mn) U (by show List.all _ _=true; simp only [fw,List.all_nil,fI,jU,Bool.and_true]; rfl) U U ?_
 exact ⟨Q9 O I7,S,I7⟩
end
section
open Go.RowKit
theorem DL (l:List Int) (lA:OA) (lC:Nat) (hlen:l.length=1):
 Dx Tryz.prog 81 [(vS lA 1 lC)] [] (own lA lC 3 1 (l.map iC)) (fun (x:Unit)=>(vS lA 1 lC)) (fun (x:Unit)=>True) (fun (x:Unit)=>(own lA lC 3 1 (l.map iC))):=by
 refine mO kr Tryz.func81 U U fun E Q hQ hN=>?_
 try dsimp only
 refine WS fun _ A=>bh 1 U<|RK A<|aj fun _ D=>WS fun _ B=>bh 2 U<|rS (SX (b_ (r:= .bool true) U U U g5) U U)<|RK B<|aQ U<|WS fun _ C=>rP 2 [] mn ?_
 refine RK C<|aq<|LM hQ () 0 [] mn U U U U ?_
 trivial
theorem DX (l:List Int) (lA:OA) (lC:Nat) (hlen:l.length=2):
 Dx Tryz.prog 81 [(vS lA 2 lC)] [] (own lA lC 3 1 (l.map iC)) (fun (x:(List Int))=>(vS lA (LH l) lC)) (fun (x:(List Int))=>True) (fun (x:(List Int))=>(own lA lC 3 1 (x.map iC))):=by
 refine mO kr Tryz.func81 U U fun c Q hQ hN=>?_
 try dsimp only
 refine WS fun _ M=>bh 1 U<|RK M<|aj fun _ N=>WS fun _ O=>bh 2 U<|rS (SX (b_ (r:= .bool false) U U U g5) U U)<|RK O<|aW U<|WK N<|aj fun _ P=>WS fun _ R=>bh 1 U<|RK R<|ax<|j5 3<|eD fun R6 V=>aj fun _ S=>WS fun _ T=>bh 3 U<|rS (SX (b_ (r:= .bool true) U U U g5) U U)<|RK T<|aQ U<|WK S<|aj fun _ AA=>ax<|aj fun _ B=>dK cE 10 kr<|dP 2 [] mn ?_
 obtain ⟨x,hx⟩:=aJ l 1 I
 have W:=bK iC hx
 refine dS (IA 1 U (ag (n:=2) 0 U sq) cw dc U I) ?_
 refine dS (fT 1 0 (vI x) U cd (ag (n:=l.length) 0 U sm) W U dc U)<|dP 2 [] mn ?_
 refine dS (SX (b_ (r:= .int .i64 0) U U U (r_ ⟨dc,dc⟩)) U U) ?_
 obtain ⟨y,hy⟩:=aJ l 0 I
 have X:=bK iC hy
 refine dS (IA 0 U (ag (n:=2) 0 U sq) cw dc U I) ?_
 refine dS (fT 0 0 (vI y) U cd (ag (n:=l.length) 0 U sm) X U dc U)<|dP 1 [] mn ?_
 refine cR<|RK B<|bQ U (aO fun A=>?_) (aN fun A=>?_)
 ·refine bZ<|aB<|KK AA<|ak<|bh 1 U<|rS (SX (b_ (r:= .int .i64 2) U U U (iD ⟨dc,dc⟩)) U U)<|bh 1 U<|RK V<|eD fun R19 b=>aj fun _ Z=>WS fun _ AB=>bh 3 U<|rS (SX (b_ (r:= .bool false) U U U g5) U U)<|RK AB<|aW U<|bD<|ab<|ab<|ay<|KK P<|WS fun _ J=>rP 2 [] mn ?_
  refine RK J<|aq ?_
  refine LM hQ l 0 [] mn U U U ?_ ?_
  ·(rw [B5 hlen hy hx A,hlen]; rfl)
  ·trivial
 refine WS fun _ C=>rP 2 [] mn ?_
 refine rS (V2 1 U cw U os) ?_
 refine bh 1 U<|RK C<|aj fun _ D=>WS fun _ E=>bh 1 U<|RK E<|ax<|j5 2<|eD fun R14 a=>aj fun _ Y=>WS fun _ F=>rP 4 [] mn ?_
 refine RK F<|cH U (aN fun L=>?_) (aO fun L=>?_)
 ·exfalso; omega
 refine bD<|ab<|ab<|ay<|KK D<|WS fun _ G=>rP 2 [] mn ?_
 refine rS (V2 1 U cw U os) ?_
 refine Nz (k:=1) 0 rfl rfl o2 (by intro v hv; simp [Value.cells] at hv; subst hv; rfl) rfl os I ?_
 try dsimp only
 rw [show (own lA lC 3 1 ((l.map iC).take 1))=(own lA lC 3 1 ((l.take 1).map iC)) from by rw [List.map_take]]
 refine RK G<|WS fun _ H=>DU 0 U fun K=>?_
 simp only [List.length_map,List.length_take] at K
 refine bh 2 U<|rS (UE 1 U cw U I)<|rP 1 [] mn ?_
 refine RK H<|aq ?_
 refine LM hQ (l.take 1) 0 [] mn U U U ?_ ?_
 ·(rw [zW hlen hy hx A]; rfl)
 ·trivial
end
section
open Go.RowKit
theorem yY (r:bT) (kA:OA) (kC:Nat) (az:List RA) (cA:OA) (cC:Nat) (bA:OA) (bC:Nat) (slA:OA) (slC:Nat) (drA:OA) (drC:Nat) (ha:List cy) (heA:OA) (heC:Nat) (a:Int) (gq:Nat) (hin:eO r az ha):
 ld Tryz.prog 49 [(vA (cp.cells (oQ r kA kC cA cC bA bC slA slC drA drC heA heC))),(vS (some ⟨gq,0,none⟩) 1 1)] [(rd fg 3 2 eu),(rd kA r.ao.aM.length 9 (r.ao.aM.map al.cells)),(rd cA r.ao.ai.length 2 (List.zipWith ar.cells r.ao.ai az)),(fc (aU ar.g4 r.ao.ai az)),(rd bA r.ao.ae.length 4 (r.ao.ae.map bH.cells)),(rd slA r.aL.length 1 (r.aL.map iC)),(rd drA r.bE.length 1 (r.bE.map iC)),(rd heA r.an.length 1 (List.zipWith ct r.an ha)),(fc (aU iw r.an ha)),(cb gq 3 [(vI a)])] (fun (x:Bool×Int×Nat×Nat×(OA)×Nat×(List RA)×(OA)×Nat)=>bif x.1 then (vT [(Value.pointer (some ⟨x.2.2.1,0,none⟩)),(vS x.2.2.2.2.2.2.2.1 1 x.2.2.2.2.2.2.2.2),(vI 0)]) else (vT [(Value.pointer none),(vS none 0 0),(vI x.2.1)])) (fun (x:Bool×Int×Nat×Nat×(OA)×Nat×(List RA)×(OA)×Nat)=>(x.1=true→(j6 r a=0∧x.2.2.2.2.2.2.1.length=r.an.length))∧(x.1=false→(x.2.1=j6 r a∧ ¬ j6 r a=0))) (fun (x:Bool×Int×Nat×Nat×(OA)×Nat×(List RA)×(OA)×Nat)=>bif x.1 then [(cb x.2.2.1 112 (fV.cells (fV.mk (oQ r kA kC cA cC bA bC slA slC drA drC heA heC) (bo.mk x.2.2.2.2.1 ((cS r).length) x.2.2.2.2.2.1) (Value.map (some x.2.2.2.1))))),(own x.2.2.2.2.1 x.2.2.2.2.2.1 109 1 (List.zipWith Eb (cS r) x.2.2.2.2.2.2.1)),(bw (aU DA (cS r) x.2.2.2.2.2.2.1)),(g_ iV x.2.2.2.1 (bM dD (aG r))),(own x.2.2.2.2.2.2.2.1 x.2.2.2.2.2.2.2.2 45 2 ([(aF (aG r) a)].map aa.cells))] else []):=by
 have y:=hin.line
 have A8:=hin.iH
 have A9:=hin.has
 have A1:=hin.iI
 have A0:=hin.draw
 have g:=dE (r:=r)
 refine dg kr Tryz.func49 U U fun w0 Q hQ hN=>?_
 try dsimp only
 refine WS fun _ w=>fQ U fun b2=>bh 3 U<|RK w<|WS fun _ N=>rP 1 [] (mc 0 U mn) ?_
 refine cX (oB r kA kC az cA cC bA bC slA slC drA drC ha heA heC hin) (bg [1,2,3,4,5,6,7,8,9]) U fun y4 j=>?_
 obtain ⟨k,A7,F,E,m,B,C⟩:=y4
 cases k
 ·obtain ⟨e,he⟩:=j.2 rfl
  try dsimp only at e he
  subst e
  try dsimp only [cond_true,cond_false,List.cons_append,List.nil_append]
  refine bh 5 U<|RK N<|aj fun _ AO=>WS fun _ H=>rP 2 [] mn ?_
  refine RK H<|bQ U (br fun G=>?_) (bu fun G=>?_)
  ·exact absurd G he
  refine WS fun _ AB=>rP 4 [] mn ?_
  refine RK AB<|aq<|LX hQ (false,(cD r),0,0,none,0,[],none,0) [] [] mn U (by rfl) U U ?_
  exact rL<|LI (I_ (i:=a) he) he
 obtain ⟨he,h⟩:=j.1 rfl
 try dsimp only [cond_true,cond_false,List.cons_append,List.nil_append]
 refine bh 5 U<|RK N<|aj fun _ J=>WS fun _ K=>bh 1 U<|rS (SX (b_ (r:= .bool false) U U U nK) U U)<|RK K<|aW U<|WK J<|aj fun _ L=>WS fun _ A=>rP 2 [] mn ?_
 refine rS (CL (ep.eq (An r kA kC az cA cC bA bC slA slC drA drC ha heA heC C m B (Value.map (some E)) F ([a]) (some ⟨gq,0,none⟩) 1 hin (by (simp; done))) cY) (l8 [6,7,8,9,10,11,12,13]<|av (ag (n:=(cS r).length) 1 U (m7 (by rw [g]; exact h)))<|av (dL 2 U s7)<|fj 0 U U<|av (ow 14 U U (by simp [bI]) U)<|aI) U) ?_
 refine rP 2 [] mn ?_
 refine dh (t:=26) U (bu fun v=>?_) (br fun v=>?_)
 ·refine bh 3 U<|bh 4 U<|bh 2 U<|RK A<|aQ U<|WS fun _ M=>rP 3 [] mn ?_
  refine RK M<|aq<|LX hQ (false,2,0,0,none,0,[],none,0) [] [] mn U (by rfl) U U ?_
  exact rL<|qf (L9 (i:=a) he I)
 refine rP 1 [] mn ?_
 refine cX (xr (some ⟨gq,0,none⟩) 1 1) (aI) U fun q A2=>?_
 try dsimp only
 refine cX (xJ ([a]) (some ⟨gq,0,none⟩) 1 q (by (simp; done))) (av (ow 15 U U (by simp [bI]) U)<|fj 0 U U<|aI) U fun AC A3=>?_
 obtain ⟨o,s⟩:=AC
 try dsimp only
 try dsimp only
 refine jd 0 U U U U (DL (dv ([a])) o s (by (simp; done))) U ks U (fun B3 A4=>?_)
 try dsimp only
 refine bh 3 U<|rS (SX (b_ (r:= .bool false) U U U g5) U U)<|bh 1 U<|RK A<|aW U<|WK L<|WS fun _ O=>bh 1 U<|RK O<|aj fun _ P=>WS fun _ R=>bh 3 U<|RK R<|ax<|j5 2<|eD fun R33 d=>WS fun _ S=>rS (SX (b_ (r:= .bool true) U U U g5) U U)<|RK S<|aj fun _ T=>aQ U<|WK T<|aj fun _ AA=>ax<|WS fun _ V=>rS (UB 0 0 U cw U dc U)<|fu 2 [] (mr 16 U mn) U<|RK V<|WS fun _ W=>bh 1 U<|rS (SX (bO U U) U U)<|fu 3 [] (mc 2 U mn) U<|rS (SX (j_ (kV:=iV) (x:=a) (l:=(aG r)) (f:=dD) (z:=(aa.mk 0 0)) U U U k8 (db mY) rO (by exact aA 5 U)) U U)<|bh 3 U<|AL U dp fun A5=>fX U cx U<|rP 1 [] mn ?_
 refine RK W<|aj fun _ X=>WS fun _ Y=>?_
 rw [show ((List.lookup a (aG r)).getD (aa.mk 0 0))=(aF (aG r) a) from rfl]
 refine rP 2 [] mn ?_
 refine RK Y<|cH U (fun D=>?_) (fun D=>?_)
 ·rw [Bool.not_eq_true'] at D
  refine WS fun _ Z=>rP 3 [] mn ?_
  refine RK Z<|aq<|LX hQ (false,6,0,0,none,0,[],none,0) [] [] mn U (by rfl) U U ?_
  exact rL<|qf (zu (i:=a) he I asm)
 rw [Bool.not_eq_false'] at D
 refine WK X<|ak<|rP 2 [] (mc 0 U mn) ?_
 refine df (xs:=[.tmp 54]) (cs:=(aa.cells (aF (aG r) a))) U gY dp U U U U (by simp [Value.cells,aa.aX]) U U fun A6=>dV 45 2<|cL (es2:=(List.map aa.cells ([(aF (aG r) a)]))) (m':=([(aF (aG r) a)]).length) 0 U U U xq U U sm (bf (es:=List.map aa.cells [(aF (aG r) a)]) 1 U U (by simp [aa.aX]) U) (g6 _) sm (by simp [maxLen]) sm sm U fun p u=>?_
 try dsimp only
 refine bh 1 U<|aC<|aB<|KK AA<|ak<|rS (SX (b_ (r:= .int .i64 1) U U U (iD ⟨dc,dc⟩)) U U)<|bh 1 U<|RK d<|eD fun R46 As=>WS fun _ b=>rS (SX (b_ (r:= .bool false) U U U g5) U U)<|RK b<|aj fun _ Ai=>aW U<|bD<|ab<|ab<|ay<|KK P<|WS fun _ c=>rP 5 [] mn ?_
 refine RK c<|aq ?_
 refine LX hQ (true,0,F,E,m,B,C,p,u) [5,6,7,8,0] [] mn U (by (show List.all _ _=true; simp only [cond_true,fw,List.all_nil,xP,Bool.and_true]; rfl)) U U ?_
 exact ⟨fun _=>⟨F_ he I asm,h⟩,NW⟩
end
section
open Go.RowKit
theorem zS (r:bT) (kA:OA) (kC:Nat) (az:List RA) (cA:OA) (cC:Nat) (bA:OA) (bC:Nat) (slA:OA) (slC:Nat) (drA:OA) (drC:Nat) (ha:List cy) (heA:OA) (heC:Nat) (a b:Int) (gq:Nat) (hin:eO r az ha):
 ld Tryz.prog 49 [(vA (cp.cells (oQ r kA kC cA cC bA bC slA slC drA drC heA heC))),(vS (some ⟨gq,0,none⟩) 2 2)] [(rd fg 3 2 eu),(rd kA r.ao.aM.length 9 (r.ao.aM.map al.cells)),(rd cA r.ao.ai.length 2 (List.zipWith ar.cells r.ao.ai az)),(fc (aU ar.g4 r.ao.ai az)),(rd bA r.ao.ae.length 4 (r.ao.ae.map bH.cells)),(rd slA r.aL.length 1 (r.aL.map iC)),(rd drA r.bE.length 1 (r.bE.map iC)),(rd heA r.an.length 1 (List.zipWith ct r.an ha)),(fc (aU iw r.an ha)),(cb gq 3 [(vI a),(vI b)])] (fun (x:Bool×Int×Nat×Nat×(OA)×Nat×(List RA)×(OA)×Nat)=>bif x.1 then (vT [(Value.pointer (some ⟨x.2.2.1,0,none⟩)),(vS x.2.2.2.2.2.2.2.1 2 x.2.2.2.2.2.2.2.2),(vI 0)]) else (vT [(Value.pointer none),(vS none 0 0),(vI x.2.1)])) (fun (x:Bool×Int×Nat×Nat×(OA)×Nat×(List RA)×(OA)×Nat)=>(x.1=true→(n9 r a b=0∧x.2.2.2.2.2.2.1.length=r.an.length))∧(x.1=false→(x.2.1=n9 r a b∧ ¬ n9 r a b=0))) (fun (x:Bool×Int×Nat×Nat×(OA)×Nat×(List RA)×(OA)×Nat)=>bif x.1 then [(cb x.2.2.1 112 (fV.cells (fV.mk (oQ r kA kC cA cC bA bC slA slC drA drC heA heC) (bo.mk x.2.2.2.2.1 ((cS r).length) x.2.2.2.2.2.1) (Value.map (some x.2.2.2.1))))),(own x.2.2.2.2.1 x.2.2.2.2.2.1 109 1 (List.zipWith Eb (cS r) x.2.2.2.2.2.2.1)),(bw (aU DA (cS r) x.2.2.2.2.2.2.1)),(g_ iV x.2.2.2.1 (bM dD (aG r))),(own x.2.2.2.2.2.2.2.1 x.2.2.2.2.2.2.2.2 45 2 ([(aF (aG r) a),(aF (aG r) b)].map aa.cells))] else []):=by
 have A6:=hin.line
 have Dz:=hin.iH
 have EQ:=hin.has
 have B9:=hin.iI
 have B7:=hin.draw
 have v:=dE (r:=r)
 refine dg kr Tryz.func49 U U fun w0 Q hQ hN=>?_
 try dsimp only
 refine WS fun _ A5=>fQ U fun b2=>bh 3 U<|RK A5<|WS fun _ N=>rP 1 [] (mc 0 U mn) ?_
 refine cX (oB r kA kC az cA cC bA bC slA slC drA drC ha heA heC hin) (bg [1,2,3,4,5,6,7,8,9]) U fun y4 y=>?_
 obtain ⟨AC,Dk,F,E,AO,C,D⟩:=y4
 cases AC
 ·obtain ⟨u,he⟩:=y.2 rfl
  try dsimp only at u he
  subst u
  try dsimp only [cond_true,cond_false,List.cons_append,List.nil_append]
  refine bh 5 U<|RK N<|aj fun _ A8=>WS fun _ H=>rP 2 [] mn ?_
  refine RK H<|bQ U (br fun G=>?_) (bu fun G=>?_)
  ·exact absurd G he
  refine WS fun _ AB=>rP 4 [] mn ?_
  refine RK AB<|aq<|LX hQ (false,(cD r),0,0,none,0,[],none,0) [] [] mn U (by rfl) U U ?_
  exact rL<|LI (MA (a:=a) (b:=b) he) he
 obtain ⟨he,w⟩:=y.1 rfl
 try dsimp only [cond_true,cond_false,List.cons_append,List.nil_append]
 refine bh 5 U<|RK N<|aj fun _ J=>WS fun _ K=>bh 1 U<|rS (SX (b_ (r:= .bool false) U U U nK) U U)<|RK K<|aW U<|WK J<|aj fun _ L=>WS fun _ B=>rP 2 [] mn ?_
 refine rS (CL (ep.eq (An r kA kC az cA cC bA bC slA slC drA drC ha heA heC D AO C (Value.map (some E)) F ([a,b]) (some ⟨gq,0,none⟩) 2 hin (by (simp; done))) re) (l8 [6,7,8,9,10,11,12,13]<|av (ag (n:=(cS r).length) 1 U (m7 (by rw [v]; exact w)))<|av (dL 2 U s7)<|fj 0 U U<|av (ow 14 U U (by simp [bI]) U)<|aI) U) ?_
 refine rP 2 [] mn ?_
 refine dh (t:=26) U (bu fun A3=>?_) (br fun A3=>?_)
 ·refine bh 3 U<|bh 4 U<|bh 2 U<|RK B<|aQ U<|WS fun _ M=>rP 3 [] mn ?_
  refine RK M<|aq<|LX hQ (false,2,0,0,none,0,[],none,0) [] [] mn U (by rfl) U U ?_
  exact rL<|qf (De (a:=a) (b:=b) he I)
 refine rP 1 [] mn ?_
 refine cX (xr (some ⟨gq,0,none⟩) 2 2) (aI) U fun A0 Ci=>?_
 try dsimp only
 refine cX (xJ ([a,b]) (some ⟨gq,0,none⟩) 2 A0 (by (simp; done))) (av (ow 15 U U (by simp [bI]) U)<|fj 0 U U<|aI) U fun A7 Ck=>?_
 obtain ⟨Ai,A1⟩:=A7
 try dsimp only
 try dsimp only
 refine jd 0 U U U U (DX (dv ([a,b])) Ai A1 (by (simp; done))) U ks U (fun Eq Cp=>?_)
 try dsimp only
 refine rP 3 [] mn ?_
 have Do:=KE a b
 refine rP 2 [] mn ?_
 refine RK B<|cH U (aN fun A4=>?_) (aO fun A4=>?_)
 ·refine WS fun _ O=>rP 3 [] mn ?_
  refine RK O<|aq<|LX hQ (false,2,0,0,none,0,[],none,0) [] [] mn U (by rfl) U U ?_
  exact rL<|qf (De (a:=a) (b:=b) he I)
 refine WK L<|WS fun _ P=>bh 1 U<|RK P<|aj fun _ R=>WS fun _ S=>bh 3 U<|RK S<|ax<|j5 3<|eD fun R35 q=>WS fun _ T=>rS (SX (b_ (r:= .bool true) U U U g5) U U)<|RK T<|aj fun _ AA=>aQ U<|WK AA<|aj fun _ V=>ax<|WS fun _ W=>rS (UB 0 0 U cw U dc U)<|fu 2 [] (mr 16 U mn) U<|RK W<|WS fun _ X=>bh 1 U<|rS (SX (bO U U) U U)<|fu 3 [] (mc 2 U mn) U<|rS (SX (j_ (kV:=iV) (x:=a) (l:=(aG r)) (f:=dD) (z:=(aa.mk 0 0)) U U U k8 (db mY) rO (by exact aA 5 U)) U U)<|bh 3 U<|AL U dp fun C0=>fX U cx U<|rP 1 [] mn ?_
 refine RK X<|aj fun _ Y=>WS fun _ Z=>?_
 rw [show ((List.lookup a (aG r)).getD (aa.mk 0 0))=(aF (aG r) a) from rfl]
 refine rP 2 [] mn ?_
 refine RK Z<|cH U (fun A=>?_) (fun A=>?_)
 ·rw [Bool.not_eq_true'] at A
  refine WS fun _ c=>rP 3 [] mn ?_
  refine RK c<|aq<|LX hQ (false,6,0,0,none,0,[],none,0) [] [] mn U (by rfl) U U ?_
  exact rL<|qf (yB (a:=a) (b:=b) he I (by exact .inl asm))
 rw [Bool.not_eq_false'] at A
 refine WK Y<|ak<|rP 2 [] (mc 0 U mn) ?_
 refine df (xs:=[.tmp 54]) (cs:=(aa.cells (aF (aG r) a))) U gY dp U U U U (by simp [Value.cells,aa.aX]) U U fun C1=>dV 45 2<|cL (es2:=(List.map aa.cells ([(aF (aG r) a)]))) (m':=([(aF (aG r) a)]).length) 0 U U U xq U U sm (bf (es:=List.map aa.cells [(aF (aG r) a)]) 1 U U (by simp [aa.aX]) U) (g6 _) sm (by simp [maxLen]) sm sm U fun Cx Di=>?_
 try dsimp only
 refine bh 1 U<|aC<|aB<|KK V<|ak<|rS (SX (b_ (r:= .int .i64 1) U U U (iD ⟨dc,dc⟩)) U U)<|bh 1 U<|RK q<|eD fun R48 s=>WS fun _ d=>rS (SX (b_ (r:= .bool true) U U U g5) U U)<|RK d<|aj fun _ e=>aQ U<|WK e<|aj fun _ g=>ax<|WS fun _ h=>rS (UB 1 1 U cw U dc U)<|fu 2 [] (mr 19 U mn) U<|RK h<|WS fun _ i=>bh 1 U<|rS (SX (bO U U) U U)<|fu 3 [] (mc 5 U mn) U<|rS (SX (j_ (kV:=iV) (x:=b) (l:=(aG r)) (f:=dD) (z:=(aa.mk 0 0)) U U U k8 (db mY) rO (by exact aA 8 U)) U U)<|bh 3 U<|AL U dp fun C2=>fX U cx U<|rP 1 [] mn ?_
 refine RK i<|aj fun _ j=>WS fun _ k=>?_
 rw [show ((List.lookup b (aG r)).getD (aa.mk 0 0))=(aF (aG r) b) from rfl]
 refine rP 2 [] mn ?_
 refine RK k<|cH U (fun A=>?_) (fun A=>?_)
 ·rw [Bool.not_eq_true'] at A
  refine WS fun _ m=>rP 3 [] mn ?_
  refine RK m<|aq<|LX hQ (false,6,0,0,none,0,[],none,0) [] [] mn U (by rfl) U U ?_
  exact rL<|qf (yB (a:=a) (b:=b) he I (by exact .inr asm))
 rw [Bool.not_eq_false'] at A
 refine WK j<|ak<|rP 2 [] (mc 0 U mn) ?_
 refine df (xs:=[.tmp 54]) (cs:=(aa.cells (aF (aG r) b))) U gY dp U U U U (by simp [Value.cells,aa.aX]) U U fun C3=>cL (es2:=(List.map aa.cells ([(aF (aG r) a),(aF (aG r) b)]))) (m':=([(aF (aG r) a),(aF (aG r) b)]).length) 2 U U U xq U U sm (bf (es:=List.map aa.cells [(aF (aG r) b)]) 0 U U (by simp [aa.aX]) U) (g6 _) sm (by simp [maxLen]) sm sm U fun As A2=>?_
 try dsimp only
 refine bh 1 U<|aC<|aB<|KK g<|ak<|rS (SX (b_ (r:= .int .i64 2) U U U (iD ⟨dc,dc⟩)) U U)<|bh 1 U<|RK s<|eD fun R61 B3=>WS fun _ o=>rS (SX (b_ (r:= .bool false) U U U g5) U U)<|RK o<|aj fun _ A9=>aW U<|bD<|ab<|ab<|ay<|KK R<|WS fun _ p=>rP 5 [] mn ?_
 refine RK p<|aq ?_
 refine LX hQ (true,0,F,E,AO,C,D,As,A2) [7,8,9,10,2] [] mn U (by (show List.all _ _=true; simp only [cond_true,fw,List.all_nil,xP,Bool.and_true]; rfl)) U U ?_
 exact ⟨fun _=>⟨M0 he I asm asm,w⟩,NW⟩
end
section
open Go.RowKit
theorem Ni (i:Int) (r:bT) (kA:OA) (kC:Nat) (az:List RA) (cA:OA) (cC:Nat) (bA:OA) (bC:Nat) (slA:OA) (slC:Nat) (drA:OA) (drC:Nat) (ha:List cy) (heA:OA) (heC:Nat) (hin:eO r az ha):
 ld Tryz.prog 16 [(vA (cp.cells (oQ r kA kC cA cC bA bC slA slC drA drC heA heC))),(vI i)] [(rd fg 3 2 eu),(rd kA r.ao.aM.length 9 (r.ao.aM.map al.cells)),(rd cA r.ao.ai.length 2 (List.zipWith ar.cells r.ao.ai az)),(fc (aU ar.g4 r.ao.ai az)),(rd bA r.ao.ae.length 4 (r.ao.ae.map bH.cells)),(rd slA r.aL.length 1 (r.aL.map iC)),(rd drA r.bE.length 1 (r.bE.map iC)),(rd heA r.an.length 1 (List.zipWith ct r.an ha)),(fc (aU iw r.an ha))] (fun (x:(OA)×Nat)=>(vT [(vS x.1 ((jm r i).length) x.2),(vI (j6 r i))])) (fun (x:(OA)×Nat)=>True) (fun (x:(OA)×Nat)=>[(own x.1 x.2 3 1 ((jm r i).map iC))]):=by
 have V:=hin.line
 have k:=hin.iH
 have l:=hin.has
 have c:=hin.iI
 have Z:=hin.draw
 have d:=dE (r:=r)
 refine dg kr Tryz.func16 U U fun o Q hQ hN=>?_
 try dsimp only
 refine WS fun _ AA=>fQ U fun n=>bh 2 U<|RK AA<|WS fun _ G=>rP 2 [] (mc 0 U mn) ?_
 refine df (xs:=[.tmp 11]) (cs:=[(vI i)]) U cw js U U U U (by simp [Value.cells]) U U fun h=>cX (yY r kA kC az cA cC bA bC slA slC drA drC ha heA heC i h hin) (bg [2,3,4,5,6,7,8,9,10,0]) U fun m L=>?_
 obtain ⟨M,j,T,S,N,O,Ay,f,g⟩:=m
 cases M
 ·obtain ⟨H,he⟩:=L.2 rfl
  try dsimp only at H he
  subst H
  try dsimp only [cond_true,cond_false,List.cons_append,List.nil_append]
  refine bh 7 U<|RK G<|aj fun _ Y=>WS fun _ B=>rP 2 [] mn ?_
  refine RK B<|bQ U (br fun A=>?_) (bu fun A=>?_)
  ·exact absurd A he
  refine WS fun _ C=>dV 3 1 ?_
  rw [show (own none 0 3 1 ([]:List (List Value)))=own none 0 3 1 ((jm r i).map iC) from by rw [yC he]; rfl]
  refine bh 1 U<|rP 2 [] mn ?_
  refine RK C<|aq ?_
  refine LX hQ (none,0) [0] [] mn U U U ?_ ?_
  ·(rw [yC he]; rfl)
  ·trivial
 obtain ⟨he,W⟩:=L.1 rfl
 try dsimp only [cond_true,cond_false,List.cons_append,List.nil_append]
 try dsimp only at W
 obtain ⟨J,a,AB⟩:=uI he
 have K:=oL J
 have b:=mu J
 refine bh 7 U<|RK G<|aj fun _ D=>WS fun _ E=>bh 1 U<|rS (SX (b_ (r:= .bool false) U U U nK) U U)<|RK E<|aW U<|WK D<|WS fun _ F=>rP 2 [] mn ?_
 refine cX (z_ r kA kC cA cC bA bC slA slC drA drC heA heC N ((cS r).length) O S T (aG r) i (by exact K) (by exact AB) I) (bg [0,3]) U fun X e=>?_
 obtain ⟨P,R⟩:=X
 try dsimp only
 rw [show (dU (aG r) i (aF (aG r) i))=jm r i from (yW he).symm]
 refine rP 2 [] mn ?_
 refine RK F<|aq ?_
 refine LX hQ (P,R) [0] [] mn U U U ?_ ?_
 ·(rw [he]; rfl)
 ·trivial
theorem Kr (a b:Int) (r:bT) (kA:OA) (kC:Nat) (az:List RA) (cA:OA) (cC:Nat) (bA:OA) (bC:Nat) (slA:OA) (slC:Nat) (drA:OA) (drC:Nat) (ha:List cy) (heA:OA) (heC:Nat) (hin:eO r az ha):
 ep Tryz.prog 27 [(vA (cp.cells (oQ r kA kC cA cC bA bC slA slC drA drC heA heC))),(vI a),(vI b)] [(rd fg 3 2 eu),(rd kA r.ao.aM.length 9 (r.ao.aM.map al.cells)),(rd cA r.ao.ai.length 2 (List.zipWith ar.cells r.ao.ai az)),(fc (aU ar.g4 r.ao.ai az)),(rd bA r.ao.ae.length 4 (r.ao.ae.map bH.cells)),(rd slA r.aL.length 1 (r.aL.map iC)),(rd drA r.bE.length 1 (r.bE.map iC)),(rd heA r.an.length 1 (List.zipWith ct r.an ha)),(fc (aU iw r.an ha))] (vT [(Value.int .u8 (vE r a b)),(vI (n9 r a b))]):=by
 have M:=hin.line
 have k:=hin.iH
 have l:=hin.has
 have V:=hin.iI
 have R:=hin.draw
 have W:=dE (r:=r)
 refine bG kr Tryz.func27 U U fun p Q hQ hN=>?_
 try dsimp only
 refine WS fun _ L=>fQ U fun o=>bh 2 U<|RK L<|WS fun _ H=>rP 3 [] (mc 0 U mn) ?_
 refine df (xs:=[.tmp 13,.tmp 14]) (cs:=[(vI a),(vI b)]) U cw js U U U U (by simp [Value.cells]) U U fun d=>cX (zS r kA kC az cA cC bA bC slA slC drA drC ha heA heC a b d hin) (bg [2,3,4,5,6,7,8,9,10,0]) U fun m J=>?_
 obtain ⟨K,e,g,f,Z,c,Ay,X,Y⟩:=m
 cases K
 ·obtain ⟨AB,he⟩:=J.2 rfl
  try dsimp only at AB he
  subst AB
  try dsimp only [cond_true,cond_false,List.cons_append,List.nil_append]
  refine bh 7 U<|RK H<|aj fun _ P=>WS fun _ C=>rP 2 [] mn ?_
  refine RK C<|bQ U (br fun B=>?_) (bu fun B=>?_)
  ·exact absurd B he
  refine WS fun _ D=>rP 3 [] mn ?_
  refine RK D<|aq<|Q2 hQ U U U U ?_
  (rw [show vE r a b=0 from if_neg he]; done)
 obtain ⟨he,O⟩:=J.1 rfl
 try dsimp only [cond_true,cond_false,List.cons_append,List.nil_append]
 try dsimp only at O
 obtain ⟨N,S,T,AA⟩:=yN he
 have A:=oL N
 have h:=g0 (i:=a) A
 have j:=g0 (i:=b) A
 refine bh 7 U<|RK H<|aj fun _ E=>WS fun _ F=>bh 1 U<|rS (SX (b_ (r:= .bool false) U U U nK) U U)<|RK F<|aW U<|WK E<|aj fun _ G=>dK cE 21 kr<|dP 1 [] mn ?_
 refine dS (IA 0 U (ag (n:=2) 4 U sq) gY dc U I) ?_
 refine dS (mW ((0*2)+1) U (ag (n:=([(aF (aG r) a),(aF (aG r) b)]).length) 4 U sm) (Nat.succ_pos _) fp U)<|dS (fT 0 1 (vI ((aF (aG r) a).Hi)) U cd (ag (n:=([(aF (aG r) a),(aF (aG r) b)]).length) 4 U sm) (show ([(aF (aG r) a),(aF (aG r) b)].map aa.cells)[0]? =some [(vI ((aF (aG r) a).Lo)),(vI ((aF (aG r) a).Hi))] from U) U dc U)<|dP 1 [] mn ?_
 refine dS (IA 1 U (ag (n:=2) 4 U sq) gY dc U I) ?_
 refine dS (mW (1*2) U (ag (n:=([(aF (aG r) a),(aF (aG r) b)]).length) 4 U sm) (Nat.succ_pos _) fp U)<|dS (fT 1 0 (vI ((aF (aG r) b).Lo)) U cd (ag (n:=([(aF (aG r) a),(aF (aG r) b)]).length) 4 U sm) (show ([(aF (aG r) a),(aF (aG r) b)].map aa.cells)[1]? =some [(vI ((aF (aG r) b).Lo)),(vI ((aF (aG r) b).Hi))] from U) U dc U)<|dP 2 [] mn ?_
 refine dS (IA 0 U (ag (n:=2) 4 U sq) gY dc U I) ?_
 refine dS (mW (0*2) U (ag (n:=([(aF (aG r) a),(aF (aG r) b)]).length) 4 U sm) (Nat.succ_pos _) fp U)<|dS (fT 0 0 (vI ((aF (aG r) a).Lo)) U cd (ag (n:=([(aF (aG r) a),(aF (aG r) b)]).length) 4 U sm) (show ([(aF (aG r) a),(aF (aG r) b)].map aa.cells)[0]? =some [(vI ((aF (aG r) a).Lo)),(vI ((aF (aG r) a).Hi))] from U) U dc U)<|dP 1 [] mn ?_
 refine dS (IA 1 U (ag (n:=2) 4 U sq) gY dc U I) ?_
 refine dS (mW ((1*2)+1) U (ag (n:=([(aF (aG r) a),(aF (aG r) b)]).length) 4 U sm) (Nat.succ_pos _) fp U)<|dS (fT 1 1 (vI ((aF (aG r) b).Hi)) U cd (ag (n:=([(aF (aG r) a),(aF (aG r) b)]).length) 4 U sm) (show ([(aF (aG r) a),(aF (aG r) b)].map aa.cells)[1]? =some [(vI ((aF (aG r) b).Lo)),(vI ((aF (aG r) b).Hi))] from U) U dc U)<|l5 1 U<|dS (CL (x4 (decide (((aF (aG r) a).Hi)<((aF (aG r) b).Lo))) (decide (((aF (aG r) a).Lo)<((aF (aG r) b).Hi)))) (aI) U)<|dP 2 [] mn ?_
 refine cR<|RK G<|aq<|Q2 hQ U U U U ?_
 (rw [he,show vE r a b=BD _ _ from if_pos he,← Of])
theorem Re (a b:Int) (r:bT) (kA:OA) (kC:Nat) (az:List RA) (cA:OA) (cC:Nat) (bA:OA) (bC:Nat) (slA:OA) (slC:Nat) (drA:OA) (drC:Nat) (ha:List cy) (heA:OA) (heC:Nat) (hin:eO r az ha):
 ep Tryz.prog 71 [(vA (cp.cells (oQ r kA kC cA cC bA bC slA slC drA drC heA heC))),(vI a),(vI b)] [(rd fg 3 2 eu),(rd kA r.ao.aM.length 9 (r.ao.aM.map al.cells)),(rd cA r.ao.ai.length 2 (List.zipWith ar.cells r.ao.ai az)),(fc (aU ar.g4 r.ao.ai az)),(rd bA r.ao.ae.length 4 (r.ao.ae.map bH.cells)),(rd slA r.aL.length 1 (r.aL.map iC)),(rd drA r.bE.length 1 (r.bE.map iC)),(rd heA r.an.length 1 (List.zipWith ct r.an ha)),(fc (aU iw r.an ha))] (vT [(Value.int .u8 (qv r a b)),(vI (n9 r a b))]):=by
 have T:=hin.line
 have q:=hin.iH
 have s:=hin.has
 have d:=hin.iI
 have X:=hin.draw
 have e:=dE (r:=r)
 refine bG kr Tryz.func71 U U fun w Q hQ hN=>?_
 try dsimp only
 refine WS fun _ P=>fQ U fun v=>bh 2 U<|RK P<|WS fun _ J=>rP 3 [] (mc 0 U mn) ?_
 refine df (xs:=[.tmp 14,.tmp 15]) (cs:=[(vI a),(vI b)]) U cw js U U U U (by simp [Value.cells]) U U fun l=>cX (zS r kA kC az cA cC bA bC slA slC drA drC ha heA heC a b l hin) (bg [2,3,4,5,6,7,8,9,10,0]) U fun u N=>?_
 obtain ⟨O,m,p,o,h,j,Ay,f,g⟩:=u
 cases O
 ·obtain ⟨M,he⟩:=N.2 rfl
  try dsimp only at M he
  subst M
  try dsimp only [cond_true,cond_false,List.cons_append,List.nil_append]
  refine bh 7 U<|RK J<|aj fun _ W=>WS fun _ E=>rP 2 [] mn ?_
  refine RK E<|bQ U (br fun D=>?_) (bu fun D=>?_)
  ·exact absurd D he
  refine WS fun _ F=>rP 3 [] mn ?_
  refine RK F<|aq<|Q2 hQ U U U U ?_
  (rw [show qv r a b=0 from if_neg he]; done)
 obtain ⟨he,V⟩:=N.1 rfl
 try dsimp only [cond_true,cond_false,List.cons_append,List.nil_append]
 try dsimp only at V
 obtain ⟨AA,Y,Z,c⟩:=yN he
 have B:=oL AA
 have R:=g0 (i:=a) B
 have S:=g0 (i:=b) B
 refine bh 7 U<|RK J<|aj fun _ G=>WS fun _ H=>rP 1 [] mn ?_
 refine rS (SX (b_ (r:= .bool false) U U U nK) U U)<|RK H<|aW U<|WK G<|aj fun _ AB=>dF cE [19,20] [] [] [0,1,2,3,4,5,6,7,8,9,10,11,12,13,14,15] [] U U U U U<|eS U (MV U) ?_
 refine eS U (IA 0 U (ag (n:=2) 4 U sq) gY dc U I) ?_
 refine eS U (mW (0*2) U (ag (n:=([(aF (aG r) a),(aF (aG r) b)]).length) 4 U sm) (Nat.succ_pos _) fp U)<|eS U (fT 0 0 (vI ((aF (aG r) a).Lo)) U cd (ag (n:=([(aF (aG r) a),(aF (aG r) b)]).length) 4 U sm) (show ([(aF (aG r) a),(aF (aG r) b)].map aa.cells)[0]? =some [(vI ((aF (aG r) a).Lo)),(vI ((aF (aG r) a).Hi))] from U) U dc U)<|eS U (MV U) ?_
 refine eS U (IA 1 U (ag (n:=2) 4 U sq) gY dc U I) ?_
 refine eS U (mW (1*2) U (ag (n:=([(aF (aG r) a),(aF (aG r) b)]).length) 4 U sm) (Nat.succ_pos _) fp U)<|eS U (fT 1 0 (vI ((aF (aG r) b).Lo)) U cd (ag (n:=([(aF (aG r) a),(aF (aG r) b)]).length) 4 U sm) (show ([(aF (aG r) a),(aF (aG r) b)].map aa.cells)[1]? =some [(vI ((aF (aG r) b).Lo)),(vI ((aF (aG r) b).Hi))] from U) U dc U)<|eS U (MX U)<|eS U (MV U) ?_
 refine eS U (IA 0 U (ag (n:=2) 4 U sq) gY dc U I) ?_
 refine eS U (mW ((0*2)+1) U (ag (n:=([(aF (aG r) a),(aF (aG r) b)]).length) 4 U sm) (Nat.succ_pos _) fp U)<|eS U (fT 0 1 (vI ((aF (aG r) a).Hi)) U cd (ag (n:=([(aF (aG r) a),(aF (aG r) b)]).length) 4 U sm) (show ([(aF (aG r) a),(aF (aG r) b)].map aa.cells)[0]? =some [(vI ((aF (aG r) a).Lo)),(vI ((aF (aG r) a).Hi))] from U) U dc U)<|eS U (MV U) ?_
 refine eS U (IA 1 U (ag (n:=2) 4 U sq) gY dc U I) ?_
 refine eS U (mW ((1*2)+1) U (ag (n:=([(aF (aG r) a),(aF (aG r) b)]).length) 4 U sm) (Nat.succ_pos _) fp U)<|eS U (fT 1 1 (vI ((aF (aG r) b).Hi)) U cd (ag (n:=([(aF (aG r) a),(aF (aG r) b)]).length) 4 U sm) (show ([(aF (aG r) a),(aF (aG r) b)].map aa.cells)[1]? =some [(vI ((aF (aG r) b).Lo)),(vI ((aF (aG r) b).Hi))] from U) U dc U)<|eS U (MN U)<|eS U (SX (bk (xs:=[(0,.tmp 32),(1,.tmp 41)]) (cs:=(aa.cells (aa.mk (max ((aF (aG r) a).Lo) ((aF (aG r) b).Lo)) (min ((aF (aG r) a).Hi) ((aF (aG r) b).Hi))))) U U (bj gv U)) U U)<|eT U<|cf U fun T22 K=>AL U dp fun k=>aC (K _ _ (aH [1,2,3,4,5,6,7,8,9,10,11,12,13,14,15,16]) ?_)
 refine cf U fun T24 L=>fX U cx U<|aC (L _ _ (aH [1,2,3,4,5,6,7,8,9,10,11,12,13,14,15,16]) ?_)
 refine fF U<|KK AB<|aj fun _ A=>dK cE 22 kr<|dP 1 [] mn ?_
 refine dS (IA 0 U (ag (n:=2) 5 U sq) gY dc U I) ?_
 refine dS (oT 0 0 (aa.cells (aF (aG r) a)) U cd (ag (n:=([(aF (aG r) a),(aF (aG r) b)]).length) 5 U sm) (show ([(aF (aG r) a),(aF (aG r) b)].map aa.cells)[0]? =some [(vI ((aF (aG r) a).Lo)),(vI ((aF (aG r) a).Hi))] from U) U dc U U)<|dP 1 [] mn ?_
 refine dS (IA 1 U (ag (n:=2) 5 U sq) gY dc U I) ?_
 refine dS (oT 1 0 (aa.cells (aF (aG r) b)) U cd (ag (n:=([(aF (aG r) a),(aF (aG r) b)]).length) 5 U sm) (show ([(aF (aG r) a),(aF (aG r) b)].map aa.cells)[1]? =some [(vI ((aF (aG r) b).Lo)),(vI ((aF (aG r) b).Hi))] from U) U dc U U)<|dS (BI U (ua _ _ (aF (aG r) a) (aF (aG r) b)))<|dP 1 [] mn ?_
 refine jy (t:=50) U (aO fun C=>?_) (aN fun C=>?_)
 ·refine mT 11 [] (mc 0 U mn) U<|dS (CL (x4 false (decide ((max ((aF (aG r) a).Lo) ((aF (aG r) b).Lo))≤(min ((aF (aG r) a).Hi) ((aF (aG r) b).Hi))))) (aI) U)<|dP 2 [] mn ?_
  refine cR<|RK A<|aq<|Q2 hQ U U U U ?_
  (rw [he,show qv r a b=rX _ _ from if_pos he,← OQ R.2.1 S.2.1 C]; done)
 refine mT 11 [] (mc 0 U mn) U<|dS (CL (x4 (decide ((max ((aF (aG r) a).Lo) ((aF (aG r) b).Lo))=(min ((aF (aG r) a).Hi) ((aF (aG r) b).Hi)))) (decide ((max ((aF (aG r) a).Lo) ((aF (aG r) b).Lo))≤(min ((aF (aG r) a).Hi) ((aF (aG r) b).Hi))))) (aI) U)<|dP 2 [] mn ?_
 refine cR<|RK A<|aq<|Q2 hQ U U U U ?_
 (rw [he,show qv r a b=rX _ _ from if_pos he,← MB C]; done)
end
section
open Go.RowKit
theorem Pe (i:Int) (r:bT) (kA:OA) (kC:Nat) (az:List RA) (cA:OA) (cC:Nat) (bA:OA) (bC:Nat) (slA:OA) (slC:Nat) (drA:OA) (drC:Nat) (ha:List cy) (heA:OA) (heC:Nat) (hin:eO r az ha):
 ep Tryz.prog 47 [(vA (cp.cells (oQ r kA kC cA cC bA bC slA slC drA drC heA heC))),(vI i)] [(rd fg 3 2 eu),(rd kA r.ao.aM.length 9 (r.ao.aM.map al.cells)),(rd cA r.ao.ai.length 2 (List.zipWith ar.cells r.ao.ai az)),(fc (aU ar.g4 r.ao.ai az)),(rd bA r.ao.ae.length 4 (r.ao.ae.map bH.cells)),(rd slA r.aL.length 1 (r.aL.map iC)),(rd drA r.bE.length 1 (r.bE.map iC)),(rd heA r.an.length 1 (List.zipWith ct r.an ha)),(fc (aU iw r.an ha))] (vT [(vA (aa.cells (px r i))),(vI (j6 r i))]):=by
 have M:=hin.line
 have g:=hin.iH
 have h:=hin.has
 have W:=hin.iI
 have R:=hin.draw
 have X:=dE (r:=r)
 refine bG kr Tryz.func47 U U fun m Q hQ hN=>?_
 try dsimp only
 refine WS fun _ L=>fQ U fun k=>AL U dp fun l=>bh 1 U<|RK L<|WS fun _ G=>rP 2 [] (mc 1 U mn) ?_
 refine df (xs:=[.tmp 11]) (cs:=[(vI i)]) U cw js U U U U (by simp [Value.cells]) U U fun d=>cX (yY r kA kC az cA cC bA bC slA slC drA drC ha heA heC i d hin) (bg [3,4,5,6,7,8,9,10,11,0]) U fun j J=>?_
 obtain ⟨K,e,f,O,a,b,c,Y,Z⟩:=j
 cases K
 ·obtain ⟨H,he⟩:=J.2 rfl
  try dsimp only at H he
  subst H
  try dsimp only [cond_true,cond_false,List.cons_append,List.nil_append]
  refine bh 7 U<|RK G<|aj fun _ P=>WS fun _ B=>rP 2 [] mn ?_
  refine RK B<|bQ U (br fun A=>?_) (bu fun A=>?_)
  ·exact absurd A he
  refine WS fun _ C=>rS (SX (bk (xs:=[]) (cs:=(aa.cells (aa.mk 0 0))) U U (bj gv U)) U U)<|bh 1 U<|sT U cx U<|rP 1 [] mn ?_
  refine RK C<|aq<|lG hQ [0] (mc 1 U mn) U ?_
  first|(rw [show px r i=dH from if_neg he]; rfl)|(rw [he,show px r i=aF _ _ from if_pos he]; done)
 obtain ⟨he,N⟩:=J.1 rfl
 try dsimp only [cond_true,cond_false,List.cons_append,List.nil_append]
 try dsimp only at N
 obtain ⟨AB,S,T⟩:=uI he
 have AA:=oL AB
 have V:=mu AB
 refine bh 7 U<|RK G<|aj fun _ D=>WS fun _ E=>bh 1 U<|rS (SX (b_ (r:= .bool false) U U U nK) U U)<|RK E<|aW U<|WK D<|WS fun _ F=>rP 1 [] mn ?_
 refine rS (IA 0 U (ag (n:=1) 4 U sq) gY dc U I) ?_
 refine rS (oT 0 0 (aa.cells (aF (aG r) i)) U cd (ag (n:=([(aF (aG r) i)]).length) 4 U sm) (show ([(aF (aG r) i)].map aa.cells)[0]? =some [(vI ((aF (aG r) i).Lo)),(vI ((aF (aG r) i).Hi))] from U) U dc U U)<|OH U cx U<|rP 1 [] mn ?_
 refine RK F<|aq<|lG hQ [0] (mc 6 U mn) U ?_
 first|(rw [show px r i=dH from if_neg he]; rfl)|(rw [he,show px r i=aF _ _ from if_pos he]; done)
end
section
open Go.RowKit
theorem yG (i lo hi:Int) (r:bT) (kA:OA) (kC:Nat) (az:List RA) (cA:OA) (cC:Nat) (bA:OA) (bC:Nat) (slA:OA) (slC:Nat) (drA:OA) (drC:Nat) (ha:List cy) (heA:OA) (heC:Nat) (hin:eO r az ha):
 ep Tryz.prog 32 [(vA (cp.cells (oQ r kA kC cA cC bA bC slA slC drA drC heA heC))),(vI i),(vI lo),(vI hi)] [(rd fg 3 2 eu),(rd kA r.ao.aM.length 9 (r.ao.aM.map al.cells)),(rd cA r.ao.ai.length 2 (List.zipWith ar.cells r.ao.ai az)),(fc (aU ar.g4 r.ao.ai az)),(rd bA r.ao.ae.length 4 (r.ao.ae.map bH.cells)),(rd slA r.aL.length 1 (r.aL.map iC)),(rd drA r.bE.length 1 (r.bE.map iC)),(rd heA r.an.length 1 (List.zipWith ct r.an ha)),(fc (aU iw r.an ha))] (vB (decide (j6 r i=0∧px r i=aa.mk lo hi))):=by
 have E:=hin.line
 have AA:=hin.iH
 have J:=hin.has
 have G:=hin.iI
 have F:=hin.draw
 have H:=dE (r:=r)
 refine bG kr Tryz.func32 U U fun M Q hQ hN=>?_
 try dsimp only
 refine WS fun _ C=>fQ U fun K=>bh 1 U<|RK C<|WS fun _ D=>fu 2 [] (mc 0 U mn) U<|rS (CL (Pe i r kA kC az cA cC bA bC slA slC drA drC ha heA heC hin) (bg [1,2,3,4,5,6,7,8,9]) U)<|bh 3 U<|AL U dp fun L=>fX U cx U<|bh 1 U<|RK D<|aj fun _ B=>dK cE 10 kr<|dP 3 [] mn ?_
 refine jy (t:=19) U (aO fun A=>?_) (aN fun A=>?_)
 ·refine dP 7 [] mn ?_
  refine cR<|RK B<|aq<|Q1 hQ U U U ?_
  first|exact cB (cq fun q=>A q.1).symm|exact cB (gi.2 ⟨fun q=>⟨A,q⟩,fun q=>q.2⟩)
 refine mT 3 [] (mc 0 U mn) U<|dS (CL (mo lo hi) (aI) U)<|dS (BI U (ua _ _ (px r i) (aa.mk lo hi)))<|dP 2 [] mn ?_
 refine cR<|RK B<|aq<|Q1 hQ U U U ?_
 first|exact cB (cq fun q=>A q.1).symm|exact cB (gi.2 ⟨fun q=>⟨A,q⟩,fun q=>q.2⟩)
theorem zr (i:Int) (want:List Int) (wantA:OA) (wantC:Nat) (r:bT) (kA:OA) (kC:Nat) (az:List RA) (cA:OA) (cC:Nat) (bA:OA) (bC:Nat) (slA:OA) (slC:Nat) (drA:OA) (drC:Nat) (ha:List cy) (heA:OA) (heC:Nat) (hin:eO r az ha) (hwl:want.length≤12):
 ep Tryz.prog 33 [(vA (cp.cells (oQ r kA kC cA cC bA bC slA slC drA drC heA heC))),(vI i),(vS wantA want.length wantC)] [(rd wantA want.length 1 (want.map iC)),(rd fg 3 2 eu),(rd kA r.ao.aM.length 9 (r.ao.aM.map al.cells)),(rd cA r.ao.ai.length 2 (List.zipWith ar.cells r.ao.ai az)),(fc (aU ar.g4 r.ao.ai az)),(rd bA r.ao.ae.length 4 (r.ao.ae.map bH.cells)),(rd slA r.aL.length 1 (r.aL.map iC)),(rd drA r.bE.length 1 (r.bE.map iC)),(rd heA r.an.length 1 (List.zipWith ct r.an ha)),(fc (aU iw r.an ha))] (vB (decide (j6 r i=0∧jm r i=want))):=by
 have E:=hin.line
 have K:=hin.iH
 have L:=hin.has
 have G:=hin.iI
 have F:=hin.draw
 have H:=dE (r:=r)
 have M:=Ea (r:=r) (i:=i)
 refine bG kr Tryz.func33 U U fun R Q hQ hN=>?_
 try dsimp only
 refine WS fun _ C=>fQ U fun P=>bh 1 U<|RK C<|WS fun _ D=>rP 2 [] (mc 0 U mn) ?_
 refine cX (Ni i r kA kC az cA cC bA bC slA slC drA drC ha heA heC hin) (bg [2,3,4,5,6,7,8,9,10]) U fun O N=>?_
 obtain ⟨AA,J⟩:=O
 try dsimp only
 refine bh 5 U<|RK D<|WS fun _ B=>rP 3 [] mn ?_
 refine bY (t:=17) U (aO fun A=>?_) (aN fun A=>?_)
 ·refine rP 5 [] mn ?_
  refine RK B<|aq<|Q1 hQ U U U ?_
  first|exact cB (cq fun q=>A q.1).symm|exact cB (gi.2 ⟨fun q=>⟨A,q⟩,fun q=>q.2⟩)
 refine bh 2 U<|rS (CL (kX (jm r i) AA J want wantA wantC I I) (av (ag (n:=(jm r i).length) 0 U sm)<|fj 2 U U<|aI) U)<|rP 2 [] mn ?_
 refine RK B<|aq<|Q1 hQ U U U ?_
 first|exact cB (cq fun q=>A q.1).symm|exact cB (gi.2 ⟨fun q=>⟨A,q⟩,fun q=>q.2⟩)
theorem zf (heatX:Int) (want:List Int) (wantA:OA) (wantC:Nat) (hwl:want.length≤12):
 ep Tryz.prog 35 [(vI heatX),(vS wantA want.length wantC)] [(rd fg 3 2 eu),(rd wantA want.length 1 (want.map iC))] (vB (decide (gO aP heatX=0∧cj aP heatX=want))):=by
 have b:=sv (r:=aP) (h:=heatX) dc
 refine bG kr Tryz.func35 U U fun d Q hQ hN=>?_
 try dsimp only
 refine WS fun _ V=>rP 1 [] mn ?_
 refine RK V<|WS fun _ W=>cX jH (aI) U fun c Y=>?_
 obtain ⟨N,S,P,AA,R,C,G,D,H,E,AB,F,J,M⟩:=c
 try dsimp only
 obtain ⟨L,X,K⟩:=Y
 refine rP 1 [] mn ?_
 refine cX (Bb heatX aP N S R P AA C G D H E AB M F J (by exact L)) (fj 8 U U<|av (ag (n:=aP.ao.aM.length) 0 U sm)<|av (ag (n:=aP.ao.ai.length) 1 U (fG X))<|av (dL 2 U iB)<|av (ag (n:=aP.ao.ae.length) 3 U sm)<|av (ag (n:=aP.aL.length) 4 U sm)<|av (ag (n:=aP.bE.length) 5 U sm)<|av (ag (n:=aP.an.length) 6 U (dx K.1))<|av (gQ 7 U K)<|aI) U fun Z a=>?_
 obtain ⟨O,T⟩:=Z
 try dsimp only
 refine bh 5 U<|RK W<|WS fun _ B=>rP 3 [] mn ?_
 refine bY (t:=15) U (aO fun A=>?_) (aN fun A=>?_)
 ·refine rP 5 [] mn ?_
  refine RK B<|aq<|Q1 hQ U U U ?_
  first|exact cB (cq fun q=>A q.1).symm|exact cB (gi.2 ⟨fun q=>⟨A,q⟩,fun q=>q.2⟩)
 refine bh 2 U<|rS (CL (kX (cj aP heatX) O T want wantA wantC I I) (av (ag (n:=(cj aP heatX).length) 0 U sm)<|fj 10 U U<|aI) U)<|rP 2 [] mn ?_
 refine RK B<|aq<|Q1 hQ U U U ?_
 first|exact cB (cq fun q=>A q.1).symm|exact cB (gi.2 ⟨fun q=>⟨A,q⟩,fun q=>q.2⟩)
theorem CM (a b:Int) (x y:Int):
 ep Tryz.prog 34 [(vI a),(vI b),(Value.int .u8 x),(Value.int .u8 y)] [(rd fg 3 2 eu)] (vB (decide (((n9 aP a b=0∧vE aP a b=x)∧n9 aP a b=0)∧qv aP a b=y))):=by
 refine bG kr Tryz.func34 U U fun w Q hQ hN=>?_
 try dsimp only
 refine WS fun _ p=>rP 1 [] mn ?_
 refine RK p<|WS fun _ r=>cX jH (aI) U fun v s=>?_
 obtain ⟨j,m,k,o,l,J,V,L,X,N,Z,P,d,h⟩:=v
 try dsimp only
 obtain ⟨F,G,E⟩:=s
 refine bh 2 U<|rS (CL (Kr a b aP j m l k o J V L X N Z h P d (by exact F)) (fj 8 U U<|av (ag (n:=aP.ao.aM.length) 0 U sm)<|av (ag (n:=aP.ao.ai.length) 1 U (fG G))<|av (dL 2 U iB)<|av (ag (n:=aP.ao.ae.length) 3 U sm)<|av (ag (n:=aP.aL.length) 4 U sm)<|av (ag (n:=aP.bE.length) 5 U sm)<|av (ag (n:=aP.an.length) 6 U (dx E.1))<|av (gQ 7 U E)<|aI) U)<|qX [8] U U<|rP 5 [] mn ?_
 refine RK r<|WS fun _ f=>cX jH (aI) U fun u g=>?_
 obtain ⟨H,T,AB,AA,S,K,W,M,Y,O,c,R,e,i⟩:=u
 try dsimp only
 obtain ⟨F,G,E⟩:=g
 refine bh 2 U<|rS (CL (Re a b aP H T S AB AA K W M Y O c i R e (by exact F)) (fj 8 U U<|av (ag (n:=aP.ao.aM.length) 0 U sm)<|av (ag (n:=aP.ao.ai.length) 1 U (fG G))<|av (dL 2 U iB)<|av (ag (n:=aP.ao.ae.length) 3 U sm)<|av (ag (n:=aP.aL.length) 4 U sm)<|av (ag (n:=aP.bE.length) 5 U sm)<|av (ag (n:=aP.an.length) 6 U (dx E.1))<|av (gQ 7 U E)<|aI) U)<|bh 5 U<|RK f<|WS fun _ D=>rP 3 [] mn ?_
 refine bY (t:=29) U (aO fun A=>?_) (aN fun A=>?_)
 ·refine rP 14 [] mn ?_
  refine RK D<|aq<|Q1 hQ U U U ?_
  first|exact cB (cq fun q=>A q.1.1.1).symm|exact cB (cq fun q=>B q.1.1.2).symm|exact cB (cq fun q=>C q.1.2).symm|exact cB (gi.2 ⟨fun q=>⟨⟨⟨A,B⟩,C⟩,q⟩,fun q=>q.2⟩)
 refine bh 2 U<|rS (BI U mJ)<|rP 2 [] mn ?_
 refine bY (t:=34) U (aO fun B=>?_) (aN fun B=>?_)
 ·refine rP 9 [] mn ?_
  refine RK D<|aq<|Q1 hQ U U U ?_
  first|exact cB (cq fun q=>A q.1.1.1).symm|exact cB (cq fun q=>B q.1.1.2).symm|exact cB (cq fun q=>C q.1.2).symm|exact cB (gi.2 ⟨fun q=>⟨⟨⟨A,B⟩,C⟩,q⟩,fun q=>q.2⟩)
 refine rP 4 [] mn ?_
 refine bY (t:=38) U (aO fun C=>?_) (aN fun C=>?_)
 ·refine rP 5 [] mn ?_
  refine RK D<|aq<|Q1 hQ U U U ?_
  first|exact cB (cq fun q=>A q.1.1.1).symm|exact cB (cq fun q=>B q.1.1.2).symm|exact cB (cq fun q=>C q.1.2).symm|exact cB (gi.2 ⟨fun q=>⟨⟨⟨A,B⟩,C⟩,q⟩,fun q=>q.2⟩)
 refine bh 2 U<|rS (BI U mJ)<|rP 2 [] mn ?_
 refine RK D<|aq<|Q1 hQ U U U ?_
 first|exact cB (cq fun q=>A q.1.1.1).symm|exact cB (cq fun q=>B q.1.1.2).symm|exact cB (cq fun q=>C q.1.2).symm|exact cB (gi.2 ⟨fun q=>⟨⟨⟨A,B⟩,C⟩,q⟩,fun q=>q.2⟩)
end
section
open Go.RowKit
theorem Jk:
 ep Tryz.prog 7 [] [(rd fg 3 2 eu)] (vB true):=by
 have Fd:=vr (r:=aP)
 have C3:=vr (r:=lu)
 have Zb:=BJ (r:=aP) (h:=0) (i:=2) (t:=aa.mk 2590 2599)
 have Za:aP.aL.length=3:=rfl
 refine bG kr Tryz.func7 U U fun w0 Q hQ hN=>?_
 try dsimp only
 refine WS fun _ ZP=>rP 1 [] mn ?_
 refine RK ZP<|WS fun _ ZQ=>cX jH (aI) U fun y3 ZS=>?_
 obtain ⟨ZK,ZN,ZL,ZO,ZM,Xt,Ya,Xx,Ye,X1,Yi,X5,Yn,ZA⟩:=y3
 try dsimp only
 obtain ⟨A,F,B⟩:=ZS
 refine rS (CL (QQ 0 0 aP ZK ZN ZM ZL ZO Xt Ya Xx Ye X1 Yi ZA X5 Yn (by exact A)) (fj 8 U U<|av (ag (n:=aP.ao.aM.length) 0 U sm)<|av (ag (n:=aP.ao.ai.length) 1 U (fG F))<|av (dL 2 U iB)<|av (ag (n:=aP.ao.ae.length) 3 U sm)<|av (ag (n:=aP.aL.length) 4 U sm)<|av (ag (n:=aP.bE.length) 5 U sm)<|av (ag (n:=aP.an.length) 6 U (dx B.1))<|av (gQ 7 U B)<|aI) U)<|bh 1 U<|qX [8] U U<|bh 2 U<|AL U dp fun Dk=>fX U cx U<|rP 1 [] mn ?_
 refine RK ZQ<|WS fun _ Yz=>cX jH (aI) U fun ZT Y6=>?_
 obtain ⟨Xn,YU,Xq,YX,YR,Xu,Yb,Xy,Yf,X2,Yj,X6,Yo,ZB⟩:=ZT
 try dsimp only
 obtain ⟨A,F,B⟩:=Y6
 refine cX (FI aP Xn YU YR Xq YX Xu Yb Xy Yf X2 Yj ZB X6 Yo (by exact A)) (fj 9 U U<|av (ag (n:=aP.ao.aM.length) 0 U sm)<|av (ag (n:=aP.ao.ai.length) 1 U (fG F))<|av (dL 2 U iB)<|av (ag (n:=aP.ao.ae.length) 3 U sm)<|av (ag (n:=aP.aL.length) 4 U sm)<|av (ag (n:=aP.bE.length) 5 U sm)<|av (ag (n:=aP.an.length) 6 U (dx B.1))<|av (gQ 7 U B)<|aI) U fun ZU Y7=>?_
 obtain ⟨a,Ci,Ck⟩:=ZU
 try dsimp only
 have Xb:=Y7
 have IO:=Xb
 refine bh 1 U<|qX [0,1,10,11] U U<|rP 4 [] mn ?_
 refine RK Yz<|WS fun _ Y0=>cX jH (aI) U fun ZV Y8=>?_
 obtain ⟨Xo,YV,Xr,YY,YS,Xv,Yc,Xz,Yg,X3,Yk,X7,Yp,ZC⟩:=ZV
 try dsimp only
 obtain ⟨A,F,B⟩:=Y8
 refine rS (CL (mo 2590 2599) (aI) U)<|cX (Lh 0 2 (aa.mk 2590 2599) aP Xo YV YS Xr YY Xv Yc Xz Yg X3 Yk ZC X7 Yp (by exact A)) (fj 11 U U<|av (ag (n:=aP.ao.aM.length) 0 U sm)<|av (ag (n:=aP.ao.ai.length) 1 U (fG F))<|av (dL 2 U iB)<|av (ag (n:=aP.ao.ae.length) 3 U sm)<|av (ag (n:=aP.aL.length) 4 U sm)<|av (ag (n:=aP.bE.length) 5 U sm)<|av (ag (n:=aP.an.length) 6 U (dx B.1))<|av (gQ 7 U B)<|aI) U fun ZW Id=>?_
 obtain ⟨ZD,ZZ,G,N,H,O,M,AB,P,J,R,K,S,L,T,AA⟩:=ZW
 cases ZD
 ·obtain ⟨Y4,he⟩:=Id.2 rfl
  try dsimp only at Y4 he
  subst Y4
  try dsimp only [cond_true,cond_false,List.cons_append,List.nil_append]
  exact absurd Ds he
 obtain ⟨Y5,⟨FS,Y3⟩,Di⟩:=Id.1 rfl
 try dsimp only [cond_true,cond_false,List.cons_append,List.nil_append]
 try dsimp only at Y5 FS Y3 Di
 have IW:eO lu _ _:=eO.rep A FS Y3 Di
 refine bh 1 U<|qX [0,1,2,3,4,5,6,7,16,17,18,19] U U<|bh 2 U<|AL U yp fun Cp=>fX U rM U<|bh 1 U<|RK Y0<|WS fun _ Y1=>rP 1 [] (mc 0 U mn) ?_
 refine cX (FI lu G N M H O AB P J R K S AA L T (by exact IW)) (fj 12 U U<|av (ag (n:=aP.ao.aM.length) 1 U (by rw [List.length_map]; rfl))<|av (ag (n:=aP.ao.ai.length) 2 U (fG FS))<|av (dL 3 U iB)<|av (ag (n:=aP.ao.ae.length) 4 U (by rw [List.length_map]; rfl))<|av (ag (n:=aP.aL.length) 5 U (by rw [List.length_map]; rfl))<|av (ag (n:=aP.bE.length) 6 U (by rw [List.length_map]; rfl))<|av (ag (n:=(gW aP.an 0 2 (aa.mk 2590 2599)).length) 7 U (dx Di.1))<|av (gQ 8 U Di)<|aI) U fun ZX Y9=>?_
 obtain ⟨b,A8,A9⟩:=ZX
 try dsimp only
 have Xb:=Y9
 have IR:=Xb
 refine rP 5 [] mn ?_
 refine RK Y1<|WS fun _ Y2=>cX jH (aI) U fun ZY Y_=>?_
 obtain ⟨Xp,YW,Xs,YZ,YT,Xw,Yd,X0,Yh,X4,Ym,X8,Yq,Xh⟩:=ZY
 try dsimp only
 obtain ⟨A,F,B⟩:=Y_
 refine rS (CL (mo 2590 2599) (aI) U)<|cX (HI 0 2 (aa.mk 2590 2599) aP Xp YW YT Xs YZ Xw Yd X0 Yh X4 Ym Xh X8 Yq (by exact A)) (fj 22 U U<|av (ag (n:=aP.ao.aM.length) 0 U sm)<|av (ag (n:=aP.ao.ai.length) 1 U (fG F))<|av (dL 2 U iB)<|av (ag (n:=aP.ao.ae.length) 3 U sm)<|av (ag (n:=aP.aL.length) 4 U sm)<|av (ag (n:=aP.bE.length) 5 U sm)<|av (ag (n:=aP.an.length) 6 U (dx B.1))<|av (gQ 7 U B)<|aI) U fun ZE ZR=>?_
 obtain ⟨W,Z⟩:=ZE
 try dsimp only
 refine bh 1 U<|qX [0,9,10,11,12,13,14,15,16,17,18,19,20,21,22,23] U U<|rP 4 [] mn ?_
 refine RK Y2<|aj fun _ Sb=>L8 cE [8,9,10,11,12,13,14,15,16,17,18,19,20,21,22,23,24,25,26,27,28,29,30,31,32,33,34,35,36,37,38,39,40,41,42,43,44,45,46,47,48,49,50,51,52,53,54,55,56,57,58,59,60,61,62,63,64,65,66,67,68,69,70,71,72,73] [0,1,2,3,4,5,6,7,8,9,10,11,12,13,14,15] U U U<|eS U (MV U)<|eS U (BI U mJ)<|eS U (MV U)<|JS (t:=40) U (aO fun Yr=>?_) (aN fun Yr=>?_)
 ·exact absurd (Pn.1) Yr
 refine eS U (LW 14 U cd U U)<|eS U (CL (mo 2596 2602) (aI) U)<|eS U (BI U (ua _ _ (iA aP 0 0) (aa.mk 2596 2602)))<|eS U (PK U)<|eS U (MV U)<|eT U<|hU U fun T106 Sh=>bY (t:=45) U (aO fun Ys=>?_) (aN fun Ys=>?_)
 ·exact absurd (Pn.2) Ys
 refine cX jH (aI) U fun ZF Xc=>?_
 obtain ⟨If,Op,J3,Pi,M2,J8,Qg,K4,Rn,LE,R1,Lo,R6,Xi⟩:=ZF
 try dsimp only
 obtain ⟨A,F,B⟩:=Xc
 refine RD Sh 8 U<|hU U fun T123 Sz=>rS (CL (yG 0 514 515 aP If Op M2 J3 Pi J8 Qg K4 Rn LE R1 Xi Lo R6 (by exact A)) (fj 23 U U<|av (ag (n:=aP.ao.aM.length) 0 U sm)<|av (ag (n:=aP.ao.ai.length) 1 U (fG F))<|av (dL 2 U iB)<|av (ag (n:=aP.ao.ae.length) 3 U sm)<|av (ag (n:=aP.aL.length) 4 U sm)<|av (ag (n:=aP.bE.length) 5 U sm)<|av (ag (n:=aP.an.length) 6 U (dx B.1))<|av (gQ 7 U B)<|aI) U)<|RD Sz 8 U<|hU U fun T124 S1=>qX [8,9,10,11,12,13,14,15,16,17,18,19,20,21,22,23] U U<|rS (PK U)<|RD S1 0 U<|hU U fun T125 S2=>rS (MV U)<|RD S2 0 U ?_
 refine xX (V:=OA×Nat×OA×Nat×List RA×OA×Nat×OA×Nat×OA×Nat×OA×Nat×List cy×Nat) (fun (j,z,l,AO,X,p,As,s,A1,v,A3,x,A5,c,e)=>eO aP X c∧X.length=aP.ao.ai.length∧qh aP.an c) (fun (j,z,l,AO,X,p,As,s,A1,v,A3,x,A5,c,e)=>[(3,(vS Ci ((dN aP).length) Ck)),(4,(vI (cD aP))),(5,(vP Cp)),(6,(vI 0)),(7,(vS A8 ((dN lu).length) A9)),(8,(vI (cD lu))),(9,(vS W ((e8 aP 0 2 (aa.mk 2590 2599)).length) Z)),(10,(vI (gT aP 0 2 (aa.mk 2590 2599)))),(49,(vB true)),(50,(vA (cp.cells (cp.mk (bW.mk (bB.mk (bo.mk j aP.ao.aM.length z)) aP.ao.gH (bo.mk l aP.ao.ai.length AO) (bo.mk p aP.ao.ae.length As) aP.ao.cr aP.ao.eh aP.ao.cO) (bo.mk s aP.aL.length A1) (bo.mk v aP.bE.length A3) aP.gJ (bo.mk x aP.an.length A5))))),(51,(vS (some ⟨e,0,none⟩) 2 2))]) (fun (j,z,l,AO,X,p,As,s,A1,v,A3,x,A5,c,e)=>[(cb e 3 [(vI 1),(vI 2)]),(own j z 153 9 (aP.ao.aM.map al.cells)),(own l AO 53 2 (List.zipWith ar.cells aP.ao.ai X)),(bw (aU ar.owns aP.ao.ai X)),(own p As 160 4 (aP.ao.ae.map bH.cells)),(own s A1 3 1 (aP.aL.map iC)),(own v A3 3 1 (aP.bE.map iC)),(own x A5 56 1 (List.zipWith ct aP.an c)),(bw (aU im aP.an c)),(own W Z 3 1 ((e8 aP 0 2 (aa.mk 2590 2599)).map iC)),(own A8 A9 29 1 (List.zipWith nq (dN lu) b)),(bw (aU sU (dN lu) b)),(cb Cp 32 (cp.cells (cp.mk (bW.mk (bB.mk (bo.mk G aP.ao.aM.length N)) aP.ao.gH (bo.mk H aP.ao.ai.length O) (bo.mk AB aP.ao.ae.length P) aP.ao.cr aP.ao.eh aP.ao.cO) (bo.mk J aP.aL.length R) (bo.mk K aP.bE.length S) aP.gJ (bo.mk L ((gW aP.an 0 2 (aa.mk 2590 2599)).length) T)))),(own G N 153 9 (aP.ao.aM.map al.cells)),(own H O 53 2 (List.zipWith ar.cells aP.ao.ai M)),(bw (aU ar.owns aP.ao.ai M)),(own AB P 160 4 (aP.ao.ae.map bH.cells)),(own J R 3 1 (aP.aL.map iC)),(own K S 3 1 (aP.bE.map iC)),(own L T 56 1 (List.zipWith ct (gW aP.an 0 2 (aa.mk 2590 2599)) AA)),(bw (aU im (gW aP.an 0 2 (aa.mk 2590 2599)) AA)),(own Ci Ck 29 1 (List.zipWith nq (dN aP) a)),(bw (aU sU (dN aP) a)),(cb Dk 45 (aa.cells (iA aP 0 0))),(rd fg 3 2 eu).ro]) 60 [14,15,16,17,18,19,20,21,22,23,24,25,26,27,28,29,30,31,32,33,34,35,36,37,38,39,40,41,42,43,44,45,46,47,48,49,50,51,52,53,54,55,56,57,58,59,60,61,62,63,64,65,66,67,68,69,70,71,72,73] (fun hJ=>?_) ?_
 ·refine iX [12,13] kr (eN ?_<|eN ?_<|kB)
  rotate_left 1
  ·refine il U U U fun T162 T2=>bY (t:=49) U (aO fun Do=>?_) (aN fun Do=>?_)
   ·exact absurd (⟨mC.1,mC.2.1⟩) Do
   refine df (xs:=[.const (vI 1),.const (vI 2)]) (cs:=[(vI 1),(vI 2)]) U cw js U U U U (by simp [Value.cells]) U U fun X_=>RD T2 1 U<|N1 12<|il U U U fun T164 T4=>cX jH (aI) U fun ZH Xe=>?_
   obtain ⟨JM,Os,J5,Pt,Na,KM,Qn,K8,Rt,La,R3,L2,R8,Xk⟩:=ZH
   try dsimp only
   obtain ⟨A,F,B⟩:=Xe
   refine RD T4 9 U ?_
   exact j2 hJ (JM,Os,J5,Pt,Na,KM,Qn,K8,Rt,La,R3,L2,R8,Xk,X_) ⟨A,F,B⟩ [8,0,1,2,3,4,5,6,7,9,10,11,12,13,14,15,16,17,18,19,20,21,22,23,24] U U U
  refine il U U U fun T143 TV=>bY (t:=49) U (aO fun Do=>?_) (aN fun Do=>?_)
  ·exact absurd (⟨mC.1,mC.2.1⟩) Do
  refine cX jH (aI) U fun ZG Xd=>?_
  obtain ⟨In,Or,J4,Pl,NE,J9,Ql,K5,Rq,LT,R2,L0,R7,Xj⟩:=ZG
  try dsimp only
  obtain ⟨A,F,B⟩:=Xd
  refine RD TV 8 U<|N1 13<|il U U U fun T160 T0=>df (xs:=[.const (vI 1),.const (vI 2)]) (cs:=[(vI 1),(vI 2)]) U cw js U U U U (by simp [Value.cells]) U U fun X9=>RD T0 9 U ?_
  exact j2 hJ (In,Or,J4,Pl,NE,J9,Ql,K5,Rq,LT,R2,L0,R7,Xj,X9) ⟨A,F,B⟩ [0,1,2,3,4,5,6,7,8,9,10,11,12,13,14,15,16,17,18,19,20,21,22,23,24] U U U
 rintro ⟨j,z,l,AO,X,p,As,s,A1,v,A3,x,A5,c,e⟩ ⟨A,F,B⟩
 try dsimp only
 refine hU U fun T181 T5=>rS (CL (zr 0 ([1,2]) (some ⟨e,0,none⟩) 2 aP j z X l AO p As s A1 v A3 c x A5 (by exact A) dc) (av (bf 0 U U (by simp [bI]) U)<|fj 24 U U<|av (ag (n:=aP.ao.aM.length) 1 U sm)<|av (ag (n:=aP.ao.ai.length) 2 U (fG F))<|av (dL 3 U iB)<|av (ag (n:=aP.ao.ae.length) 4 U sm)<|av (ag (n:=aP.aL.length) 5 U sm)<|av (ag (n:=aP.bE.length) 6 U sm)<|av (ag (n:=aP.an.length) 7 U (dx B.1))<|av (gQ 8 U B)<|aI) U)<|RD T5 9 U<|hU U fun T182 T6=>qX [0,9,10,11,12,13,14,15,16,17,18,19,20,21,22,23,24] U U<|rS (PK U)<|RD T6 1 U<|hU U fun T183 T7=>rS (MV U)<|RD T7 1 U ?_
 refine xX (V:=OA×Nat×OA×Nat×List RA×OA×Nat×OA×Nat×OA×Nat×OA×Nat×List cy×Nat) (fun (k,AC,o,Ai,Y,q,A0,u,A2,w,A4,y,A6,d,f)=>eO aP Y d∧Y.length=aP.ao.ai.length∧qh aP.an d) (fun (k,AC,o,Ai,Y,q,A0,u,A2,w,A4,y,A6,d,f)=>[(3,(vS Ci ((dN aP).length) Ck)),(4,(vI (cD aP))),(5,(vP Cp)),(6,(vI 0)),(7,(vS A8 ((dN lu).length) A9)),(8,(vI (cD lu))),(9,(vS W ((e8 aP 0 2 (aa.mk 2590 2599)).length) Z)),(10,(vI (gT aP 0 2 (aa.mk 2590 2599)))),(54,(vB true)),(55,(vA (cp.cells (cp.mk (bW.mk (bB.mk (bo.mk k aP.ao.aM.length AC)) aP.ao.gH (bo.mk o aP.ao.ai.length Ai) (bo.mk q aP.ao.ae.length A0) aP.ao.cr aP.ao.eh aP.ao.cO) (bo.mk u aP.aL.length A2) (bo.mk w aP.bE.length A4) aP.gJ (bo.mk y aP.an.length A6))))),(56,(vS (some ⟨f,0,none⟩) 2 2))]) (fun (k,AC,o,Ai,Y,q,A0,u,A2,w,A4,y,A6,d,f)=>[(cb f 3 [(vI 2),(vI 3)]),(own k AC 153 9 (aP.ao.aM.map al.cells)),(own o Ai 53 2 (List.zipWith ar.cells aP.ao.ai Y)),(bw (aU ar.owns aP.ao.ai Y)),(own q A0 160 4 (aP.ao.ae.map bH.cells)),(own u A2 3 1 (aP.aL.map iC)),(own w A4 3 1 (aP.bE.map iC)),(own y A6 56 1 (List.zipWith ct aP.an d)),(bw (aU im aP.an d)),(cb e 3 [(vI 1),(vI 2)]),(own W Z 3 1 ((e8 aP 0 2 (aa.mk 2590 2599)).map iC)),(own A8 A9 29 1 (List.zipWith nq (dN lu) b)),(bw (aU sU (dN lu) b)),(cb Cp 32 (cp.cells (cp.mk (bW.mk (bB.mk (bo.mk G aP.ao.aM.length N)) aP.ao.gH (bo.mk H aP.ao.ai.length O) (bo.mk AB aP.ao.ae.length P) aP.ao.cr aP.ao.eh aP.ao.cO) (bo.mk J aP.aL.length R) (bo.mk K aP.bE.length S) aP.gJ (bo.mk L ((gW aP.an 0 2 (aa.mk 2590 2599)).length) T)))),(own G N 153 9 (aP.ao.aM.map al.cells)),(own H O 53 2 (List.zipWith ar.cells aP.ao.ai M)),(bw (aU ar.owns aP.ao.ai M)),(own AB P 160 4 (aP.ao.ae.map bH.cells)),(own J R 3 1 (aP.aL.map iC)),(own K S 3 1 (aP.bE.map iC)),(own L T 56 1 (List.zipWith ct (gW aP.an 0 2 (aa.mk 2590 2599)) AA)),(bw (aU im (gW aP.an 0 2 (aa.mk 2590 2599)) AA)),(own Ci Ck 29 1 (List.zipWith nq (dN aP) a)),(bw (aU sU (dN aP) a)),(cb Dk 45 (aa.cells (iA aP 0 0))),(rd fg 3 2 eu).ro]) 55 [19,20,21,22,23,24,25,26,27,28,29,30,31,32,33,34,35,36,37,38,39,40,41,42,43,44,45,46,47,48,49,50,51,52,53,54,55,56,57,58,59,60,61,62,63,64,65,66,67,68,69,70,71,72,73] (fun hJ=>?_) ?_
 ·refine iX [17,18] kr (eN ?_<|eN ?_<|kB)
  rotate_left 1
  ·refine il U U U fun T220 UV=>bY (t:=54) U (aO fun Dz=>?_) (aN fun Dz=>?_)
   ·exact absurd (⟨mC.1,mC.2.2⟩) Dz
   refine df (xs:=[.const (vI 2),.const (vI 3)]) (cs:=[(vI 2),(vI 3)]) U cw js U U U U (by simp [Value.cells]) U U fun YB=>RD UV 2 U<|N1 17<|il U U U fun T222 UX=>cX jH (aI) U fun ZJ Xg=>?_
   obtain ⟨J2,PW,J7,P_,Nr,K0,RE,LD,R0,Lk,R5,Mo,ST,Xm⟩:=ZJ
   try dsimp only
   obtain ⟨A,F,B⟩:=Xg
   refine RD UX 10 U ?_
   exact j2 hJ (J2,PW,J7,P_,Nr,K0,RE,LD,R0,Lk,R5,Mo,ST,Xm,YB) ⟨A,F,B⟩ [8,0,1,2,3,4,5,6,7,9,10,11,12,13,14,15,16,17,18,19,20,21,22,23,24,25] U U U
  refine il U U U fun T201 T8=>bY (t:=54) U (aO fun Dz=>?_) (aN fun Dz=>?_)
  ·exact absurd (⟨mC.1,mC.2.2⟩) Dz
  refine cX jH (aI) U fun ZI Xf=>?_
  obtain ⟨JQ,PP,J6,P8,Ne,Kj,Qr,LA,Ry,Li,R4,L3,R9,Xl⟩:=ZI
  try dsimp only
  obtain ⟨A,F,B⟩:=Xf
  refine RD T8 9 U<|N1 18<|il U U U fun T218 T9=>df (xs:=[.const (vI 2),.const (vI 3)]) (cs:=[(vI 2),(vI 3)]) U cw js U U U U (by simp [Value.cells]) U U fun YA=>RD T9 10 U ?_
  exact j2 hJ (JQ,PP,J6,P8,Ne,Kj,Qr,LA,Ry,Li,R4,L3,R9,Xl,YA) ⟨A,F,B⟩ [0,1,2,3,4,5,6,7,8,9,10,11,12,13,14,15,16,17,18,19,20,21,22,23,24,25] U U U
 rintro ⟨k,AC,o,Ai,Y,q,A0,u,A2,w,A4,y,A6,d,f⟩ ⟨A,F,B⟩
 try dsimp only
 refine hU U fun T239 UZ=>rS (CL (zr 2 ([2,3]) (some ⟨f,0,none⟩) 2 aP k AC Y o Ai q A0 u A2 w A4 d y A6 (by exact A) dc) (av (bf 0 U U (by simp [bI]) U)<|fj 25 U U<|av (ag (n:=aP.ao.aM.length) 1 U sm)<|av (ag (n:=aP.ao.ai.length) 2 U (fG F))<|av (dL 3 U iB)<|av (ag (n:=aP.ao.ae.length) 4 U sm)<|av (ag (n:=aP.aL.length) 5 U sm)<|av (ag (n:=aP.bE.length) 6 U sm)<|av (ag (n:=aP.an.length) 7 U (dx B.1))<|av (gQ 8 U B)<|aI) U)<|RD UZ 10 U<|hU U fun T240 VO=>qX [0,9,10,11,12,13,14,15,16,17,18,19,20,21,22,23,24,25] U U<|rS (PK U)<|RD VO 2 U<|hU U fun T241 VV=>rS (MV U)<|RD VV 2 U<|hU U fun T242 VW=>bY (t:=59) U (aO fun Yt=>?_) (aN fun Yt=>?_)
 ·exact absurd (⟨Ch.1,Ch.2.2⟩) Yt
 refine rS (CL (CM 1 2 2 0) (bg [17]) U)<|RD VW 2 U<|hU U fun T243 V5=>rS (PK U)<|RD V5 2 U<|hU U fun T244 V7=>rS (MV U)<|RD V7 2 U<|hU U fun T245 WB=>bY (t:=62) U (aO fun Yu=>?_) (aN fun Yu=>?_)
 ·exact absurd (⟨⟨⟨AU.1,AU.2.1⟩,AU.1⟩,AU.2.2⟩) Yu
 refine rS (CL (CM 0 1 0 1) (bg [17]) U)<|RD WB 2 U<|hU U fun T246 WC=>rS (PK U)<|RD WC 2 U<|hU U fun T247 WD=>rS (MV U)<|RD WD 2 U<|hU U fun T248 WE=>bY (t:=65) U (aO fun Yv=>?_) (aN fun Yv=>?_)
 ·exact absurd (⟨⟨⟨Aw.1,Aw.2.1⟩,Aw.1⟩,Aw.2.2⟩) Yv
 refine rS (MV U)<|RD WE 2 U<|hU U fun T249 WF=>rS (BI U mJ)<|RD WF 2 U<|hU U fun T250 WG=>rS (PK U)<|RD WG 2 U<|hU U fun T251 WH=>rS (MV U)<|RD WH 2 U ?_
 refine xX (V:=Nat×Nat) (fun (C,g)=>True) (fun (C,g)=>[(5,(vP Cp)),(6,(vI 0)),(7,(vS A8 ((dN lu).length) A9)),(8,(vI (cD lu))),(9,(vS W ((e8 aP 0 2 (aa.mk 2590 2599)).length) Z)),(10,(vI (gT aP 0 2 (aa.mk 2590 2599)))),(69,(vB true)),(70,(vS Ci ((dN aP).length) Ck)),(71,(vS (some ⟨C,0,none⟩) 3 3)),(72,(vS (some ⟨g,0,none⟩) 1 1))]) (fun (C,g)=>[(cb g 29 [(vS (some ⟨C,0,none⟩) 3 3)]),(cb C 3 [(vI 0),(vI 1),(vI 2)]),(cb f 3 [(vI 2),(vI 3)]),(cb e 3 [(vI 1),(vI 2)]),(own W Z 3 1 ((e8 aP 0 2 (aa.mk 2590 2599)).map iC)),(own A8 A9 29 1 (List.zipWith nq (dN lu) b)),(bw (aU sU (dN lu) b)),(cb Cp 32 (cp.cells (cp.mk (bW.mk (bB.mk (bo.mk G aP.ao.aM.length N)) aP.ao.gH (bo.mk H aP.ao.ai.length O) (bo.mk AB aP.ao.ae.length P) aP.ao.cr aP.ao.eh aP.ao.cO) (bo.mk J aP.aL.length R) (bo.mk K aP.bE.length S) aP.gJ (bo.mk L ((gW aP.an 0 2 (aa.mk 2590 2599)).length) T)))),(own G N 153 9 (aP.ao.aM.map al.cells)),(own H O 53 2 (List.zipWith ar.cells aP.ao.ai M)),(bw (aU ar.owns aP.ao.ai M)),(own AB P 160 4 (aP.ao.ae.map bH.cells)),(own J R 3 1 (aP.aL.map iC)),(own K S 3 1 (aP.bE.map iC)),(own L T 56 1 (List.zipWith ct (gW aP.an 0 2 (aa.mk 2590 2599)) AA)),(bw (aU im (gW aP.an 0 2 (aa.mk 2590 2599)) AA)),(own Ci Ck 29 1 (List.zipWith nq (dN aP) a)),(bw (aU sU (dN aP) a)),(cb Dk 45 (aa.cells (iA aP 0 0))),(rd fg 3 2 eu).ro]) 39 [35,36,37,38,39,40,41,42,43,44,45,46,47,48,49,50,51,52,53,54,55,56,57,58,59,60,61,62,63,64,65,66,67,68,69,70,71,72,73] (fun hJ=>?_) ?_
 ·refine iX [32,33] kr (eN ?_<|eN ?_<|kB)
  ·refine il U U U fun T254 WI=>bY (t:=69) U (aO fun EQ=>?_) (aN fun EQ=>?_)
   ·exact absurd (qR) EQ
   refine rS (MV U)<|RD WI 2 U<|N1 33<|il U U U fun T255 WL=>df (xs:=[.const (vI 0),.const (vI 1),.const (vI 2)]) (cs:=[(vI 0),(vI 1),(vI 2)]) U cw js U U U U (by simp [Value.cells]) U U fun Fm=>RD WL 3 U<|N1 34<|il U U U fun T257 WM=>df (xs:=[.tmp 71]) (cs:=[(vS (some ⟨Fm,0,none⟩) 3 3)]) U pn vG U U U U (by simp [Value.cells]) U U fun YC=>RD WM 4 U ?_
   exact j2 hJ (Fm,YC) trivial [0,1,2,3,4,5,6,7,8,9,10,11,12,13,14,15,16,17,18,19] U U U
  refine il U U U fun T259 WN=>bY (t:=69) U (aO fun EQ=>?_) (aN fun EQ=>?_)
  ·exact absurd (qR) EQ
  refine df (xs:=[.const (vI 0),.const (vI 1),.const (vI 2)]) (cs:=[(vI 0),(vI 1),(vI 2)]) U cw js U U U U (by simp [Value.cells]) U U fun C0=>RD WN 3 U<|iX [32,34] kr (eN ?_<|eN ?_<|kB)
  rotate_left 1
  ·refine il U U U fun T264 WQ=>df (xs:=[.tmp 71]) (cs:=[(vS (some ⟨C0,0,none⟩) 3 3)]) U pn vG U U U U (by simp [Value.cells]) U U fun YE=>RD WQ 4 U<|N1 32<|il U U U fun T266 WR=>rS (MV U)<|RD WR 4 U ?_
   exact j2 hJ (C0,YE) trivial [0,1,2,3,4,5,6,7,8,9,10,11,12,13,14,15,16,17,18,19] U U U
  refine il U U U fun T261 WO=>rS (MV U)<|RD WO 3 U<|N1 34<|il U U U fun T262 WP=>df (xs:=[.tmp 71]) (cs:=[(vS (some ⟨C0,0,none⟩) 3 3)]) U pn vG U U U U (by simp [Value.cells]) U U fun YD=>RD WP 4 U ?_
  exact j2 hJ (C0,YD) trivial [0,1,2,3,4,5,6,7,8,9,10,11,12,13,14,15,16,17,18,19] U U U
 rintro ⟨C,g⟩-
 try dsimp only
 refine hU U fun T267 WT=>?_
 refine cW (es:=(([0,1,2]:List Int).map iC)) (C':=[_,(own (some ⟨C,0,none⟩) 3 3 1 (([0,1,2]:List Int).map iC)),_,_,_,_,_,_,_,_,_,_,_,_,_,_,_,_,_,_]) 1 U (m6 bI _) U (by show _≤maxLen; exact Nat.le_trans (m:=10) (show (3:Nat)≤10 by decide) dc) U ?_
 refine cW (es:=(List.zipWith nq [([0,1,2]:List Int)] [((some ⟨C,0,none⟩),3)])) (C':=[(own (some ⟨g,0,none⟩) 1 29 1 (List.zipWith nq [([0,1,2]:List Int)] [((some ⟨C,0,none⟩),3)])),_,_,_,_,_,_,_,_,_,_,_,_,_,_,_,_,_,_,_]) 0 U (pa Lu) U (by show _≤maxLen; exact Nat.le_trans (m:=10) (show (1:Nat)≤10 by decide) dc) U ?_
 refine uj (aU sU [([0,1,2]:List Int)] [((some ⟨C,0,none⟩),3)]) [1] [0,2,3,4,5,6,7,8,9,10,11,12,13,14,15,16,17,18,19] U U<|rS (CL (vv (dN aP) ([([0,1,2]:List Int)]) a Ci Ck ([((some ⟨C,0,none⟩),3)]) (some ⟨g,0,none⟩) 1 (by first|exact Fd.1|exact C3.1) dc (by first|exact Fd.2|exact C3.2) dc (by exact IO) (by rfl)) (av (ag (n:=(dN aP).length) 16 U (lp IO))<|av (dL 17 U FK)<|av (ag (n:=([([0,1,2]:List Int)]).length) 1 U sm)<|av (dL 0 U FK)<|aI) U)<|RD WT 4 U<|hU U fun T268 WU=>rS (PK U)<|RD WU 4 U<|hU U fun T269 WV=>rS (MV U)<|RD WV 4 U<|hU U fun T270 WW=>bY (t:=75) U (aO fun Yw=>?_) (aN fun Yw=>?_)
 ·exact absurd (NY) Yw
 refine rS (MV U)<|RD WW 4 U<|hU U fun T271 WX=>rS (SX (b_ (r:= .bool true) U U U mJ) U U)<|RD WX 4 U<|hU U fun T272 WY=>rS (PK U)<|RD WY 4 U<|hU U fun T273 WZ=>rS (MV U)<|RD WZ 4 U<|hU U fun T274 Wk=>rS (LW 7 U cd U U)<|RD Wk 4 U<|hU U fun T275 Wl=>?_
 refine rS (CL (yG 2 516 516 lu G N M H O AB P J R K S AA L T (by exact IW)) (fj 19 U U<|av (ag (n:=aP.ao.aM.length) 8 U (by rw [List.length_map]; rfl))<|av (ag (n:=aP.ao.ai.length) 9 U (fG FS))<|av (dL 10 U iB)<|av (ag (n:=aP.ao.ae.length) 11 U (by rw [List.length_map]; rfl))<|av (ag (n:=aP.aL.length) 12 U (by rw [List.length_map]; rfl))<|av (ag (n:=aP.bE.length) 13 U (by rw [List.length_map]; rfl))<|av (ag (n:=(gW aP.an 0 2 (aa.mk 2590 2599)).length) 14 U (dx Di.1))<|av (gQ 15 U Di)<|aI) U) ?_
 refine RD Wl 4 U<|hU U fun T276 Wm=>rS (PK U)<|RD Wm 4 U<|hU U fun T277 Wn=>rS (MV U)<|RD Wn 4 U<|hU U fun T278 Wo=>bY (t:=83) U (aO fun Yx=>?_) (aN fun Yx=>?_)
 ·exact absurd (Lp) Yx
 refine rS (MV U)<|RD Wo 4 U<|hU U fun T279 Wp=>rS (BI U mJ)<|RD Wp 4 U<|hU U fun T280 Wq=>rS (PK U)<|RD Wq 4 U<|hU U fun T281 Wr=>rS (MV U)<|RD Wr 4 U ?_
 refine xX (V:=Nat×Nat×Nat) (fun (D,E,A7)=>True) (fun (D,E,A7)=>[(9,(vS W ((e8 aP 0 2 (aa.mk 2590 2599)).length) Z)),(10,(vI (gT aP 0 2 (aa.mk 2590 2599)))),(71,(vS (some ⟨C,0,none⟩) 3 3)),(87,(vB true)),(88,(vS A8 ((dN lu).length) A9)),(89,(vS (some ⟨D,0,none⟩) 2 2)),(90,(vS (some ⟨E,0,none⟩) 1 1)),(91,(vS (some ⟨A7,0,none⟩) 2 2))]) (fun (D,E,A7)=>[(cb A7 29 [(vS (some ⟨D,0,none⟩) 2 2),(vS (some ⟨E,0,none⟩) 1 1)]),(cb E 3 [(vI 2)]),(cb D 3 [(vI 0),(vI 1)]),(bw (aU sU [([0,1,2]:List Int)] [((some ⟨C,0,none⟩),3)])),(own (some ⟨g,0,none⟩) 1 29 1 (List.zipWith nq [([0,1,2]:List Int)] [((some ⟨C,0,none⟩),3)])),(cb f 3 [(vI 2),(vI 3)]),(cb e 3 [(vI 1),(vI 2)]),(own W Z 3 1 ((e8 aP 0 2 (aa.mk 2590 2599)).map iC)),(own A8 A9 29 1 (List.zipWith nq (dN lu) b)),(bw (aU sU (dN lu) b)),(cb Cp 32 (cp.cells (cp.mk (bW.mk (bB.mk (bo.mk G aP.ao.aM.length N)) aP.ao.gH (bo.mk H aP.ao.ai.length O) (bo.mk AB aP.ao.ae.length P) aP.ao.cr aP.ao.eh aP.ao.cO) (bo.mk J aP.aL.length R) (bo.mk K aP.bE.length S) aP.gJ (bo.mk L ((gW aP.an 0 2 (aa.mk 2590 2599)).length) T)))),(own G N 153 9 (aP.ao.aM.map al.cells)),(own H O 53 2 (List.zipWith ar.cells aP.ao.ai M)),(bw (aU ar.owns aP.ao.ai M)),(own AB P 160 4 (aP.ao.ae.map bH.cells)),(own J R 3 1 (aP.aL.map iC)),(own K S 3 1 (aP.bE.map iC)),(own L T 56 1 (List.zipWith ct (gW aP.an 0 2 (aa.mk 2590 2599)) AA)),(bw (aU im (gW aP.an 0 2 (aa.mk 2590 2599)) AA)),(own Ci Ck 29 1 (List.zipWith nq (dN aP) a)),(bw (aU sU (dN aP) a)),(cb Dk 45 (aa.cells (iA aP 0 0))),(rd fg 3 2 eu).ro]) 20 [54,55,56,57,58,59,60,61,62,63,64,65,66,67,68,69,70,71,72,73] (fun hJ=>?_) ?_
 ·refine iX [50,51,52] kr (eN ?_<|eN ?_<|eN ?_<|kB)
  ·refine il U U U fun T285 Ws=>bY (t:=87) U (aO fun Cx=>?_) (aN fun Cx=>?_)
   ·exact absurd (xC) Cx
   refine rS (MV U)<|RD Ws 4 U<|iX [51,52] kr (eN ?_<|eN ?_<|kB)
   rotate_left 1
   ·refine il U U U fun T292 Ww=>df (xs:=[.const (vI 2)]) (cs:=[(vI 2)]) U cw js U U U U (by simp [Value.cells]) U U fun GE=>RD Ww 5 U<|N1 51<|il U U U fun T294 Wx=>df (xs:=[.const (vI 0),.const (vI 1)]) (cs:=[(vI 0),(vI 1)]) U cw js U U U U (by simp [Value.cells]) U U fun GT=>RD Wx 6 U<|N1 53<|il U U U fun T296 Wy=>df (xs:=[.tmp 89,.tmp 90]) (cs:=[(vS (some ⟨GT,0,none⟩) 2 2),(vS (some ⟨GE,0,none⟩) 1 1)]) U pn vG U U U U (by simp [Value.cells]) U U fun YG=>RD Wy 7 U ?_
    exact j2 hJ (GT,GE,YG) trivial [0,2,1,3,4,5,6,7,8,9,10,11,12,13,14,15,16,17,18,19,20,21,22] U U U
   refine il U U U fun T286 Wt=>df (xs:=[.const (vI 0),.const (vI 1)]) (cs:=[(vI 0),(vI 1)]) U cw js U U U U (by simp [Value.cells]) U U fun Fn=>RD Wt 5 U<|N1 52<|il U U U fun T288 Wu=>df (xs:=[.const (vI 2)]) (cs:=[(vI 2)]) U cw js U U U U (by simp [Value.cells]) U U fun F5=>RD Wu 6 U<|N1 53<|il U U U fun T290 Wv=>df (xs:=[.tmp 89,.tmp 90]) (cs:=[(vS (some ⟨Fn,0,none⟩) 2 2),(vS (some ⟨F5,0,none⟩) 1 1)]) U pn vG U U U U (by simp [Value.cells]) U U fun YF=>RD Wv 7 U ?_
   exact j2 hJ (Fn,F5,YF) trivial [0,1,2,3,4,5,6,7,8,9,10,11,12,13,14,15,16,17,18,19,20,21,22] U U U
  ·refine il U U U fun T298 Wz=>bY (t:=87) U (aO fun Cx=>?_) (aN fun Cx=>?_)
   ·exact absurd (xC) Cx
   refine df (xs:=[.const (vI 0),.const (vI 1)]) (cs:=[(vI 0),(vI 1)]) U cw js U U U U (by simp [Value.cells]) U U fun B3=>RD Wz 5 U<|iX [50,52] kr (eN ?_<|eN ?_<|kB)
   ·refine il U U U fun T300 W0=>rS (MV U)<|RD W0 5 U<|N1 52<|il U U U fun T301 W1=>df (xs:=[.const (vI 2)]) (cs:=[(vI 2)]) U cw js U U U U (by simp [Value.cells]) U U fun Go=>RD W1 6 U<|N1 53<|il U U U fun T303 W2=>df (xs:=[.tmp 89,.tmp 90]) (cs:=[(vS (some ⟨B3,0,none⟩) 2 2),(vS (some ⟨Go,0,none⟩) 1 1)]) U pn vG U U U U (by simp [Value.cells]) U U fun YH=>RD W2 7 U ?_
    exact j2 hJ (B3,Go,YH) trivial [0,1,2,3,4,5,6,7,8,9,10,11,12,13,14,15,16,17,18,19,20,21,22] U U U
   refine il U U U fun T305 W3=>df (xs:=[.const (vI 2)]) (cs:=[(vI 2)]) U cw js U U U U (by simp [Value.cells]) U U fun C1=>RD W3 6 U<|iX [50,53] kr (eN ?_<|eN ?_<|kB)
   rotate_left 1
   ·refine il U U U fun T310 W6=>df (xs:=[.tmp 89,.tmp 90]) (cs:=[(vS (some ⟨B3,0,none⟩) 2 2),(vS (some ⟨C1,0,none⟩) 1 1)]) U pn vG U U U U (by simp [Value.cells]) U U fun YJ=>RD W6 7 U<|N1 50<|il U U U fun T312 W7=>rS (MV U)<|RD W7 7 U ?_
    exact j2 hJ (B3,C1,YJ) trivial [0,1,2,3,4,5,6,7,8,9,10,11,12,13,14,15,16,17,18,19,20,21,22] U U U
   refine il U U U fun T307 W4=>rS (MV U)<|RD W4 6 U<|N1 53<|il U U U fun T308 W5=>df (xs:=[.tmp 89,.tmp 90]) (cs:=[(vS (some ⟨B3,0,none⟩) 2 2),(vS (some ⟨C1,0,none⟩) 1 1)]) U pn vG U U U U (by simp [Value.cells]) U U fun YI=>RD W5 7 U ?_
   exact j2 hJ (B3,C1,YI) trivial [0,1,2,3,4,5,6,7,8,9,10,11,12,13,14,15,16,17,18,19,20,21,22] U U U
  refine il U U U fun T313 W8=>bY (t:=87) U (aO fun Cx=>?_) (aN fun Cx=>?_)
  ·exact absurd (xC) Cx
  refine df (xs:=[.const (vI 2)]) (cs:=[(vI 2)]) U cw js U U U U (by simp [Value.cells]) U U fun B7=>RD W8 5 U<|iX [50,51] kr (eN ?_<|eN ?_<|kB)
  ·refine il U U U fun T315 W9=>rS (MV U)<|RD W9 5 U<|N1 51<|il U U U fun T316 W_=>df (xs:=[.const (vI 0),.const (vI 1)]) (cs:=[(vI 0),(vI 1)]) U cw js U U U U (by simp [Value.cells]) U U fun Hb=>RD W_ 6 U<|N1 53<|il U U U fun T318 XA=>df (xs:=[.tmp 89,.tmp 90]) (cs:=[(vS (some ⟨Hb,0,none⟩) 2 2),(vS (some ⟨B7,0,none⟩) 1 1)]) U pn vG U U U U (by simp [Value.cells]) U U fun YK=>RD XA 7 U ?_
   exact j2 hJ (Hb,B7,YK) trivial [0,2,1,3,4,5,6,7,8,9,10,11,12,13,14,15,16,17,18,19,20,21,22] U U U
  refine il U U U fun T320 XB=>df (xs:=[.const (vI 0),.const (vI 1)]) (cs:=[(vI 0),(vI 1)]) U cw js U U U U (by simp [Value.cells]) U U fun C2=>RD XB 6 U<|iX [50,53] kr (eN ?_<|eN ?_<|kB)
  rotate_left 1
  ·refine il U U U fun T325 XE=>df (xs:=[.tmp 89,.tmp 90]) (cs:=[(vS (some ⟨C2,0,none⟩) 2 2),(vS (some ⟨B7,0,none⟩) 1 1)]) U pn vG U U U U (by simp [Value.cells]) U U fun YM=>RD XE 7 U<|N1 50<|il U U U fun T327 XG=>rS (MV U)<|RD XG 7 U ?_
   exact j2 hJ (C2,B7,YM) trivial [0,2,1,3,4,5,6,7,8,9,10,11,12,13,14,15,16,17,18,19,20,21,22] U U U
  refine il U U U fun T322 XC=>rS (MV U)<|RD XC 6 U<|N1 53<|il U U U fun T323 XD=>df (xs:=[.tmp 89,.tmp 90]) (cs:=[(vS (some ⟨C2,0,none⟩) 2 2),(vS (some ⟨B7,0,none⟩) 1 1)]) U pn vG U U U U (by simp [Value.cells]) U U fun YL=>RD XD 7 U ?_
  exact j2 hJ (C2,B7,YL) trivial [0,2,1,3,4,5,6,7,8,9,10,11,12,13,14,15,16,17,18,19,20,21,22] U U U
 rintro ⟨D,E,A7⟩-
 try dsimp only
 refine hU U fun T328 XH=>?_
 refine cW (es:=(([0,1]:List Int).map iC)) (C':=[_,_,(own (some ⟨D,0,none⟩) 2 3 1 (([0,1]:List Int).map iC)),_,_,_,_,_,_,_,_,_,_,_,_,_,_,_,_,_,_,_,_]) 2 U (m6 bI _) U (by show _≤maxLen; exact Nat.le_trans (m:=10) (show (2:Nat)≤10 by decide) dc) U ?_
 refine cW (es:=(([2]:List Int).map iC)) (C':=[_,(own (some ⟨E,0,none⟩) 1 3 1 (([2]:List Int).map iC)),_,_,_,_,_,_,_,_,_,_,_,_,_,_,_,_,_,_,_,_,_]) 1 U (m6 bI _) U (by show _≤maxLen; exact Nat.le_trans (m:=10) (show (1:Nat)≤10 by decide) dc) U ?_
 refine cW (es:=(List.zipWith nq [([0,1]:List Int),([2]:List Int)] [((some ⟨D,0,none⟩),2),((some ⟨E,0,none⟩),1)])) (C':=[(own (some ⟨A7,0,none⟩) 2 29 1 (List.zipWith nq [([0,1]:List Int),([2]:List Int)] [((some ⟨D,0,none⟩),2),((some ⟨E,0,none⟩),1)])),_,_,_,_,_,_,_,_,_,_,_,_,_,_,_,_,_,_,_,_,_,_]) 0 U (pa Lu) U (by show _≤maxLen; exact Nat.le_trans (m:=10) (show (2:Nat)≤10 by decide) dc) U ?_
 refine uj (aU sU [([0,1]:List Int),([2]:List Int)] [((some ⟨D,0,none⟩),2),((some ⟨E,0,none⟩),1)]) [2,1] [0,3,4,5,6,7,8,9,10,11,12,13,14,15,16,17,18,19,20,21,22] U U<|rS (CL (vv (dN lu) ([([0,1]:List Int),([2]:List Int)]) b A8 A9 ([((some ⟨D,0,none⟩),2),((some ⟨E,0,none⟩),1)]) (some ⟨A7,0,none⟩) 2 (by first|exact Fd.1|exact C3.1) dc (by first|exact Fd.2|exact C3.2) dc (by exact IR) (by rfl)) (av (ag (n:=(dN lu).length) 7 U (lp IR))<|av (dL 8 U FK)<|av (ag (n:=([([0,1]:List Int),([2]:List Int)]).length) 1 U sm)<|av (dL 0 U FK)<|aI) U)<|RD XH 6 U<|hU U fun T329 XI=>rS (PK U)<|RD XI 6 U<|hU U fun T330 XJ=>rS (MV U)<|RD XJ 6 U<|hU U fun T331 XK=>bY (t:=94) U (aO fun Yy=>?_) (aN fun Yy=>?_)
 ·exact absurd (ME) Yy
 refine rS (MV U)<|RD XK 6 U<|hU U fun T332 XL=>rS (BI U mJ)<|RD XL 6 U<|hU U fun T333 XM=>rS (PK U)<|RD XM 6 U<|hU U fun T334 XN=>rS (MV U)<|RD XN 6 U ?_
 refine xX (V:=Nat) (fun B9=>True) (fun B9=>[(71,(vS (some ⟨C,0,none⟩) 3 3)),(89,(vS (some ⟨D,0,none⟩) 2 2)),(90,(vS (some ⟨E,0,none⟩) 1 1)),(98,(vB true)),(99,(vS W ((e8 aP 0 2 (aa.mk 2590 2599)).length) Z)),(100,(vS (some ⟨B9,0,none⟩) 1 1))]) (fun B9=>[(cb B9 3 [(vI 2)]),(bw (aU sU [([0,1]:List Int),([2]:List Int)] [((some ⟨D,0,none⟩),2),((some ⟨E,0,none⟩),1)])),(own (some ⟨A7,0,none⟩) 2 29 1 (List.zipWith nq [([0,1]:List Int),([2]:List Int)] [((some ⟨D,0,none⟩),2),((some ⟨E,0,none⟩),1)])),(bw (aU sU [([0,1,2]:List Int)] [((some ⟨C,0,none⟩),3)])),(own (some ⟨g,0,none⟩) 1 29 1 (List.zipWith nq [([0,1,2]:List Int)] [((some ⟨C,0,none⟩),3)])),(cb f 3 [(vI 2),(vI 3)]),(cb e 3 [(vI 1),(vI 2)]),(own W Z 3 1 ((e8 aP 0 2 (aa.mk 2590 2599)).map iC)),(own A8 A9 29 1 (List.zipWith nq (dN lu) b)),(bw (aU sU (dN lu) b)),(cb Cp 32 (cp.cells (cp.mk (bW.mk (bB.mk (bo.mk G aP.ao.aM.length N)) aP.ao.gH (bo.mk H aP.ao.ai.length O) (bo.mk AB aP.ao.ae.length P) aP.ao.cr aP.ao.eh aP.ao.cO) (bo.mk J aP.aL.length R) (bo.mk K aP.bE.length S) aP.gJ (bo.mk L ((gW aP.an 0 2 (aa.mk 2590 2599)).length) T)))),(own G N 153 9 (aP.ao.aM.map al.cells)),(own H O 53 2 (List.zipWith ar.cells aP.ao.ai M)),(bw (aU ar.owns aP.ao.ai M)),(own AB P 160 4 (aP.ao.ae.map bH.cells)),(own J R 3 1 (aP.aL.map iC)),(own K S 3 1 (aP.bE.map iC)),(own L T 56 1 (List.zipWith ct (gW aP.an 0 2 (aa.mk 2590 2599)) AA)),(bw (aU im (gW aP.an 0 2 (aa.mk 2590 2599)) AA)),(own Ci Ck 29 1 (List.zipWith nq (dN aP) a)),(bw (aU sU (dN aP) a)),(cb Dk 45 (aa.cells (iA aP 0 0))),(rd fg 3 2 eu).ro]) 11 [63,64,65,66,67,68,69,70,71,72,73] (fun hJ=>?_) ?_
 ·refine iX [61,62] kr (eN ?_<|eN ?_<|kB)
  rotate_left 1
  ·refine il U U U fun T339 XQ=>bY (t:=98) U (aO fun Eq=>?_) (aN fun Eq=>?_)
   ·exact absurd (Ds) Eq
   refine df (xs:=[.const (vI 2)]) (cs:=[(vI 2)]) U cw js U U U U (by simp [Value.cells]) U U fun YO=>RD XQ 7 U<|N1 61<|il U U U fun T341 XR=>rS (MV U)<|RD XR 7 U ?_
   exact j2 hJ YO trivial [0,1,2,3,4,5,6,7,8,9,10,11,12,13,14,15,16,17,18,19,20,21,22] U U U
  refine il U U U fun T336 XO=>bY (t:=98) U (aO fun Eq=>?_) (aN fun Eq=>?_)
  ·exact absurd (Ds) Eq
  refine rS (MV U)<|RD XO 6 U<|N1 62<|il U U U fun T337 XP=>df (xs:=[.const (vI 2)]) (cs:=[(vI 2)]) U cw js U U U U (by simp [Value.cells]) U U fun YN=>RD XP 7 U ?_
  exact j2 hJ YN trivial [0,1,2,3,4,5,6,7,8,9,10,11,12,13,14,15,16,17,18,19,20,21,22] U U U
 rintro B9-
 try dsimp only
 refine hU U fun T342 XS=>rS (CL (kX (e8 aP 0 2 (aa.mk 2590 2599)) W Z ([2]) (some ⟨B9,0,none⟩) 1 I dc) (av (ag (n:=(e8 aP 0 2 (aa.mk 2590 2599)).length) 7 U sm)<|av (bf 0 U U (by simp [bI]) U)<|aI) U)<|RD XS 7 U<|hU U fun T343 XU=>rS (PK U)<|RD XU 7 U<|hU U fun T344 XV=>rS (MV U)<|RD XV 7 U<|hU U fun T345 XW=>bY (t:=103) U (aO fun Hi=>?_) (aN fun Hi=>?_)
 ·exact absurd (Ol) Hi
 refine df (xs:=[.const (vI 0),.const (vI 2),.const (vI 1)]) (cs:=[(vI 0),(vI 2),(vI 1)]) U cw js U U U U (by simp [Value.cells]) U U fun YP=>RD XW 8 U<|hU U fun T347 XX=>rS (CL (zf 1 ([0,2,1]) (some ⟨YP,0,none⟩) 3 dc) (fj 23 U U<|av (bf 0 U U (by simp [bI]) U)<|aI) U)<|RD XX 8 U<|hU U fun T348 XY=>rS (PK U)<|RD XY 8 U<|hU U fun T349 XZ=>rS (MV U)<|RD XZ 8 U<|hU U fun T350 Xa=>bY (t:=107) U (aO fun H1=>?_) (aN fun H1=>?_)
 ·exact absurd (Lm) H1
 refine df (xs:=[.const (vI 0),.const (vI 1),.const (vI 2)]) (cs:=[(vI 0),(vI 1),(vI 2)]) U cw js U U U U (by simp [Value.cells]) U U fun YQ=>RD Xa 9 U<|JK [109,110,0] kr kr U _ U U (aH [9,10,11,12,13,14,15,16,17,18,19,20,21,22,23,24])<|dS (CL (zf 2 ([0,1,2]) (some ⟨YQ,0,none⟩) 3 dc) (fj 24 U U<|av (bf 0 U U (by simp [bI]) U)<|aI) U)<|dP 2 [] mn ?_
 refine cR<|RK Sb<|aq<|Q1 hQ U U U ?_
 exact cB (fR IS)
end
section
open Go.RowKit
theorem iT (n lo hi:Int):
 ep Tryz.prog 91 [(vI n),(vI lo),(vI hi)] [] (vB (decide (lo≤n∧n≤hi))):=by
 refine bG kr Tryz.func91 U U fun D Q hQ hN=>?_
 try dsimp only
 refine WS fun _ B=>bh 1 U<|RK B<|WS fun _ A=>rP 4 [] mn ?_
 refine dh (t:=10) U (aN fun C=>?_) (aO fun C=>?_)
 ·refine rP 5 [] mn ?_
  refine RK A<|aq<|Q1 hQ U U U ?_
  exact cB (gi.2 I)
 refine rP 5 [] mn ?_
 refine RK A<|aq<|Q1 hQ U U U ?_
 exact cB (cq I).symm
theorem CT (ts:List al) (tsA:OA) (tsC:Nat) (hst: ∀ x∈ts,bP x) (hlen:ts.length≤12):
 ld Tryz.prog 170 [(vA (bB.cells (bB.mk (bo.mk tsA ts.length tsC))))] [(rd tsA ts.length 9 (ts.map al.cells))] (fun (x:(OA)×Nat)=>(vS x.1 ((hZ ts (ts.length+1)).length) x.2)) (fun (x:(OA)×Nat)=>True) (fun (x:(OA)×Nat)=>[(own x.1 x.2 45 2 ((hZ ts (ts.length+1)).map aa.cells))]):=by
 refine dg kr Tryz.func170 U U fun V Q hQ hN=>?_
 try dsimp only
 refine WS fun _ J=>fQ U fun AB=>bh 1 U<|RK J<|WS fun _ K=>bh 1 U<|RK K<|aj fun _ L=>WS fun _ M=>rP 1 [] mn ?_
 refine RK M<|ax<|fZ 45 2 ?_
 have A:(0≤ts.length+1):=by exact Nat.zero_le _
 refine bL (ι:={z:Nat×(OA)×Nat // (z.1≤ts.length+1)}) [1] [1,2] U U (fun z=>[(3,(vS z.1.2.1 ((hZ ts z.1.1).length) z.1.2.2)),(4,(vI (z.1.1:Int)))]) (fun z=>[(own z.1.2.1 z.1.2.2 45 2 ((hZ ts z.1.1).map aa.cells))]) (fun _=>rfl) (fun _=>rfl) (fun z=>ts.length+1-z.1.1) ⟨(0,none,0),A⟩ (aV U) (aH [1,2,0]) ?_
 clear A
 rintro ⟨⟨i,a,c⟩,B⟩ J6 AC
 try dsimp only at B
 try dsimp only
 refine aj fun _ N=>WS fun _ O=>rP 5 [] (mc 0 U mn) ?_
 refine RK O<|bQ U (aO fun T=>?_) (aN fun T=>?_)
 ·refine bD<|ab<|ab<|ay<|KK L<|WS fun _ E=>?_
  obtain rfl:i=ts.length+1:=by omega
  refine rP 2 [] mn ?_
  refine RK E<|aq<|LX hQ (a,c) [2] [] mn U U U U ?_
  trivial
 refine WK N<|aj fun _ C=>ax<|WS fun _ D=>fu 2 [] (mc 0 U mn) U<|rS (CL (AA ts tsA tsC 0 (i:Int) hst hlen I) (bg [1]) U)<|bh 3 U<|AL U dp fun P=>AL U dp fun R=>sT U cx U<|fX U cx U<|RK D<|ak<|rP 2 [] (mc 1 U mn) ?_
 refine df (xs:=[.tmp 21]) (cs:=(aa.cells (eK ts (0:Int).toNat ((i:Int)-0).toNat))) U gY dp U U U U (by simp [Value.cells,aa.aX]) U U fun S=>?_
 refine cL (es2:=(List.map aa.cells (hZ ts (i+1)))) (m':=(hZ ts (i+1)).length) 5 U U U xq U U sm (bf (es:=List.map aa.cells [(eK ts (0:Int).toNat ((i:Int)-0).toNat)]) 0 U U (by simp [aa.aX]) U) (g6 _) (by simp only [oS]; omega) (by simp only [maxLen,oS]; omega) (by rw [CN]; simp) sm U fun G H=>?_
 try dsimp only
 refine bh 1 U<|aC<|aB<|KK C<|ak<|rP 3 [] mn ?_
 refine aC ?_
 have F:(vI (((i+1):Nat):Int))=(vI ((i:Int)+1)):=by exact cI I
 refine aR (AC ⟨((i+1),G,H),(by first|omega|(simp only []; omega))⟩ _ _ _ U os (du.cons U<|du.cons U<|aY U F<|du.nil _) (aH [3,4,5]))
theorem SZ (ts:List al) (tsA:OA) (tsC:Nat) (s:cM) (hlen:ts.length≤1000000) (hside: ∀ x∈ts,0≤x.jo∧x.jo≤255):
 ep Tryz.prog 133 [(vA (bB.cells (bB.mk (bo.mk tsA ts.length tsC)))),(vA (cM.cells s))] [(rd tsA ts.length 9 (ts.map al.cells))] (vT [(vA (aa.cells (Qd ts s))),(vI (F0 ts s))]):=by
 refine bG kr Tryz.func133 U U fun r Q hQ hN=>?_
 try dsimp only
 refine WS fun _ R=>fQ U fun i=>fQ U fun k=>AL U dp fun l=>bh 1 U<|RK R<|aj fun _ S=>WS fun _ T=>fu 1 [] (mc 2 U mn) U<|rS (CL (v8 ts tsA tsC hlen) (bg [3]) U)<|rP 1 [] mn ?_
 refine RK T<|cH U (fun AB=>?_) (fun AB=>?_)
 ·rw [Bool.not_eq_true'] at AB
  refine WS fun _ AA=>rS (SX (bk (xs:=[]) (cs:=(aa.cells (aa.mk 0 0))) U U (bj gv U)) U U)<|fX U cx U<|rP 1 [] mn ?_
  refine RK AA<|aq<|lG hQ [0] (mc 0 U mn) U ?_
  (have e:=Me (s:=s) (by simpa using AB); rw [e.1,e.2]<;>rfl)
 rw [Bool.not_eq_false'] at AB
 refine WK S<|aj fun _ V=>WS fun _ W=>?_
 have M:=kd AB
 have Z:=kN AB
 refine fu 2 [0,1] (mc 2 U (mc 1 U mn)) U<|rS (CL (rG ts tsA tsC s asm asm) (bg [3]) U)<|rP 1 [] mn ?_
 refine RK W<|cH U (bu fun D=>?_) (br fun D=>?_)
 ·refine WS fun _ O=>rS (SX (bk (xs:=[]) (cs:=(aa.cells (aa.mk 0 0))) U U (bj gv U)) U U)<|fX U cx U<|rP 1 [] mn ?_
  refine RK O<|aq<|lG hQ [0] (mc 0 U mn) U ?_
  (have e:=KX AB D; rw [e.1,e.2]<;>rfl)
 refine WK V<|aj fun _ H=>pw cE [0,2,3] [1,4,5,6,7] [false,false,false] [] [(cb l 45 (aa.cells (aa.mk 0 0))),(cb k 158 (cM.cells s)),(cb i 24 (bB.cells (bB.mk (bo.mk tsA ts.length tsC)))),(rd tsA ts.length 9 (ts.map al.cells)).ro] [] kr (aH [0,1,2,3]) (aH []) ?_
 have q:=D.1
 have N:=qp M D
 have p:(hZ ts (ts.length+1)).length=ts.length+1:=oS
 refine eS U (LW 2 U cd U U)<|eS U (FA 0 U fp U)<|eS U (L1 (vI s.a_) 1 U cd U U)<|eT U<|iX [1,6] kr (eN ?_<|eN ?_<|kB)
 rotate_left 1
 ·refine NO U U [1,4,5,7] fun T12 J=>AL U dp fun f=>RD J 1 U<|N1 1<|NO U U [4,5,7] fun T14 P=>cX (CT ts tsA tsC asm asm) (bg [4]) U fun Y b=>?_
  obtain ⟨d,o⟩:=Y
  try dsimp only
  refine RD P 2 U<|N1 4<|NO U U [5,7] fun T19 E=>?_
  obtain ⟨z,hz⟩:=aJ (hZ ts (ts.length+1)) ((s.a_).toNat) I
  have A:=bK aa.cells hz
  refine rS (IA ((s.a_).toNat) U (ag (n:=(hZ ts (ts.length+1)).length) 0 U sm) gY dc I I)<|RD E 2 U<|N1 5<|NO U U [7] fun T20 F=>rS (oT ((s.a_).toNat) 0 (aa.cells z) U cd (ag (n:=(hZ ts (ts.length+1)).length) 0 U sm) A U dc U U)<|RD F 2 U<|N1 7<|NO U U [] fun T21 C=>sT U cx U<|RD C 2 U<|p_<|KK H<|WS fun _ B=>rP 1 [] mn ?_
  have A:=pH hz
  have G:=mq M 0 s.a_.toNat
  unfold lF at N
  rw [← A] at G
  refine fu 11 [0,1,0,1] (mc 1 U (mc 3 U mn)) U<|rS (SX (bk (xs:=[(0,.tmp 27),(1,.tmp 33)]) (cs:=(aa.cells (aa.mk (z.Lo+s.mN.Lo) (z.Hi+s.mN.Hi)))) U U (bj gv U)) U U)<|GG U cx U<|rP 1 [] mn ?_
  refine RK B<|aq<|lG hQ [0] (mc 2 U mn) U ?_
  (have e:=wo AB D; subst A; rw [e.1,e.2]<;>rfl)
 refine NO U U [4,5,6,7] fun T12 J=>cX (CT ts tsA tsC asm asm) (bg [3]) U fun X a=>?_
 obtain ⟨c,m⟩:=X
 try dsimp only
 refine RD J 1 U<|iX [4,6] kr (eN ?_<|eN ?_<|kB)
 rotate_left 1
 ·refine NO U U [4,5,7] fun T17 K=>AL U dp fun g=>RD K 2 U<|N1 4<|NO U U [5,7] fun T19 E=>?_
  obtain ⟨z,hz⟩:=aJ (hZ ts (ts.length+1)) ((s.a_).toNat) I
  have A:=bK aa.cells hz
  refine rS (IA ((s.a_).toNat) U (ag (n:=(hZ ts (ts.length+1)).length) 1 U sm) gY dc I I)<|RD E 2 U<|N1 5<|NO U U [7] fun T20 F=>rS (oT ((s.a_).toNat) 0 (aa.cells z) U cd (ag (n:=(hZ ts (ts.length+1)).length) 1 U sm) A U dc U U)<|RD F 2 U<|N1 7<|NO U U [] fun T21 C=>fX U cx U<|RD C 2 U<|p_<|KK H<|WS fun _ B=>rP 1 [] mn ?_
  have A:=pH hz
  have G:=mq M 0 s.a_.toNat
  unfold lF at N
  rw [← A] at G
  refine fu 11 [0,1,0,1] (mc 0 U (mc 3 U mn)) U<|rS (SX (bk (xs:=[(0,.tmp 27),(1,.tmp 33)]) (cs:=(aa.cells (aa.mk (z.Lo+s.mN.Lo) (z.Hi+s.mN.Hi)))) U U (bj gv U)) U U)<|GG U cx U<|rP 1 [] mn ?_
  refine RK B<|aq<|lG hQ [0] (mc 2 U mn) U ?_
  (have e:=wo AB D; subst A; rw [e.1,e.2]<;>rfl)
 refine NO U U [5,6,7] fun T17 K=>?_
 obtain ⟨z,hz⟩:=aJ (hZ ts (ts.length+1)) ((s.a_).toNat) I
 have A:=bK aa.cells hz
 refine rS (IA ((s.a_).toNat) U (ag (n:=(hZ ts (ts.length+1)).length) 0 U sm) gY dc I I)<|RD K 1 U<|iX [5,6] kr (eN ?_<|eN ?_<|kB)
 rotate_left 1
 ·refine NO U U [5,7] fun T18 L=>AL U dp fun h=>RD L 2 U<|N1 5<|NO U U [7] fun T20 F=>rS (oT ((s.a_).toNat) 0 (aa.cells z) U cd (ag (n:=(hZ ts (ts.length+1)).length) 1 U sm) A U dc U U)<|RD F 2 U<|N1 7<|NO U U [] fun T21 C=>fX U cx U<|RD C 2 U<|p_<|KK H<|WS fun _ B=>rP 1 [] mn ?_
  have A:=pH hz
  have G:=mq M 0 s.a_.toNat
  unfold lF at N
  rw [← A] at G
  refine fu 11 [0,1,0,1] (mc 0 U (mc 3 U mn)) U<|rS (SX (bk (xs:=[(0,.tmp 27),(1,.tmp 33)]) (cs:=(aa.cells (aa.mk (z.Lo+s.mN.Lo) (z.Hi+s.mN.Hi)))) U U (bj gv U)) U U)<|GG U cx U<|rP 1 [] mn ?_
  refine RK B<|aq<|lG hQ [0] (mc 2 U mn) U ?_
  (have e:=wo AB D; subst A; rw [e.1,e.2]<;>rfl)
 refine NO U U [6,7] fun T18 L=>rS (oT ((s.a_).toNat) 0 (aa.cells z) U cd (ag (n:=(hZ ts (ts.length+1)).length) 0 U sm) A U dc U U)<|RD L 1 U<|N1 6<|NO U U [7] fun T19 E=>AL U dp fun j=>RD E 2 U<|N1 7<|NO U U [] fun T21 C=>fX U cx U<|RD C 2 U<|p_<|KK H<|WS fun _ B=>rP 1 [] mn ?_
 have A:=pH hz
 have G:=mq M 0 s.a_.toNat
 unfold lF at N
 rw [← A] at G
 refine fu 11 [0,1,0,1] (mc 0 U (mc 3 U mn)) U<|rS (SX (bk (xs:=[(0,.tmp 27),(1,.tmp 33)]) (cs:=(aa.cells (aa.mk (z.Lo+s.mN.Lo) (z.Hi+s.mN.Hi)))) U U (bj gv U)) U U)<|GG U cx U<|rP 1 [] mn ?_
 refine RK B<|aq<|lG hQ [0] (mc 2 U mn) U ?_
 (have e:=wo AB D; subst A; rw [e.1,e.2]<;>rfl)
theorem Hn (ts:List al) (tsA:OA) (tsC:Nat) (p:cM) (q:cM) (hlen:ts.length≤1000000) (hside: ∀ x∈ts,0≤x.jo∧x.jo≤255) (hord: ¬ q.a_<p.a_):
 ep Tryz.prog 134 [(vA (bB.cells (bB.mk (bo.mk tsA ts.length tsC)))),(vA (cM.cells p)),(vA (cM.cells q))] [(rd tsA ts.length 9 (ts.map al.cells))] (vT [(vA (aa.cells (kR ts p q))),(vI (lZ ts p q))]):=by
 refine bG kr Tryz.func134 U U fun k Q hQ hN=>?_
 try dsimp only
 refine WS fun _ N=>fQ U fun f=>fQ U fun g=>fQ U fun i=>AL U dp fun j=>bh 1 U<|RK N<|aj fun _ O=>WS fun _ P=>fu 1 [] (mc 3 U mn) U<|rS (CL (v8 ts tsA tsC hlen) (bg [4]) U)<|rP 1 [] mn ?_
 refine RK P<|cH U (fun A=>?_) (fun A=>?_)
 ·rw [Bool.not_eq_true'] at A
  refine WS fun _ R=>rS (SX (bk (xs:=[]) (cs:=(aa.cells (aa.mk 0 0))) U U (bj gv U)) U U)<|fX U cx U<|rP 1 [] mn ?_
  refine RK R<|aq<|lG hQ [0] (mc 0 U mn) U ?_
  (have e:=ui (a:=p) (b:=q) (by simpa using A); rw [e.1,e.2]<;>rfl)
 rw [Bool.not_eq_false'] at A
 refine WK O<|aj fun _ S=>WS fun _ E=>?_
 have D:=kd A
 have M:=kN A
 refine fu 2 [0,1] (mc 3 U (mc 2 U mn)) U<|rS (CL (rG ts tsA tsC p asm asm) (bg [4]) U)<|rP 2 [] mn ?_
 refine dh (t:=20) U (bu fun B=>?_) (br fun B=>?_)
 ·refine bh 5 U<|RK E<|aQ U<|WS fun _ G=>rS (SX (bk (xs:=[]) (cs:=(aa.cells (aa.mk 0 0))) U U (bj gv U)) U U)<|fX U cx U<|rP 1 [] mn ?_
  refine RK G<|aq<|lG hQ [0] (mc 0 U mn) U ?_
  (have e:=pd (a:=p) (b:=q) A (fun h=>by first|exact B h.1|exact C h.2); rw [e.1,e.2]<;>rfl)
 refine fu 2 [0,1] (mc 3 U (mc 1 U mn)) U<|rS (CL (rG ts tsA tsC q asm asm) (bg [4]) U)<|rP 2 [] mn ?_
 refine RK E<|cH U (bu fun C=>?_) (br fun C=>?_)
 ·refine WS fun _ H=>rS (SX (bk (xs:=[]) (cs:=(aa.cells (aa.mk 0 0))) U U (bj gv U)) U U)<|fX U cx U<|rP 1 [] mn ?_
  refine RK H<|aq<|lG hQ [0] (mc 0 U mn) U ?_
  (have e:=pd (a:=p) (b:=q) A (fun h=>by first|exact B h.1|exact C h.2); rw [e.1,e.2]<;>rfl)
 refine WK S<|aj fun _ AC=>WS fun _ J=>?_
 have AB:fy ts p∧fy ts q:=⟨B,C⟩
 have T:=qp D B
 have V:=qp D C
 have c:=B.1
 have d:=C.1
 have Y:=x5 D M C B
 unfold lF at T V
 refine rP 5 [0,1] (mc 1 U (mc 2 U mn)) ?_
 refine RK J<|cH U (aN fun F=>?_) (aO fun F=>?_)
 ·exfalso; omega
 refine WK AC<|WS fun _ K=>rP 2 [] (mc 3 U mn) ?_
 have Z:=mq D p.a_.toNat (q.a_-p.a_).toNat
 refine fu 3 [0,1] (mc 2 U (mc 1 U mn)) U<|rS (CL (AA ts tsA tsC p.a_ q.a_ asm asm I) (bg [4]) U)<|bh 3 U<|AL U dp fun W=>AL U dp fun X=>sT U cx U<|fX U cx U<|RK K<|WS fun _ L=>fu 20 [0,1,2,0,1,2] (mc 1 U (mc 3 U (mc 4 U mn))) U<|rS (SX (bk (xs:=[(0,.tmp 64),(1,.tmp 74)]) (cs:=(aa.cells (aa.mk ((((eK ts p.a_.toNat (q.a_-p.a_).toNat).Lo)+q.mN.Lo)-p.mN.Hi) ((((eK ts p.a_.toNat (q.a_-p.a_).toNat).Hi)+q.mN.Hi)-p.mN.Lo)))) U U (bj gv U)) U U)<|GG U cx U<|rP 1 [] mn ?_
 refine RK L<|aq<|lG hQ [0] (mc 2 U mn) U ?_
 (have e:=lg A AB; rw [e.1,e.2,qF F]<;>rfl)
theorem Mn (ts:List al) (tsA:OA) (tsC:Nat) (p:cM) (q:cM) (hlen:ts.length≤1000000) (hside: ∀ x∈ts,0≤x.jo∧x.jo≤255):
 ep Tryz.prog 134 [(vA (bB.cells (bB.mk (bo.mk tsA ts.length tsC)))),(vA (cM.cells p)),(vA (cM.cells q))] [(rd tsA ts.length 9 (ts.map al.cells))] (vT [(vA (aa.cells (kR ts p q))),(vI (lZ ts p q))]):=by
 refine bG kr Tryz.func134 U U fun u Q hQ hN=>?_
 try dsimp only
 refine WS fun _ S=>fQ U fun n=>fQ U fun o=>fQ U fun r=>AL U dp fun s=>bh 1 U<|RK S<|aj fun _ T=>WS fun _ AB=>fu 1 [] (mc 3 U mn) U<|rS (CL (v8 ts tsA tsC hlen) (bg [4]) U)<|rP 1 [] mn ?_
 refine RK AB<|cH U (fun A=>?_) (fun A=>?_)
 ·rw [Bool.not_eq_true'] at A
  refine WS fun _ V=>rS (SX (bk (xs:=[]) (cs:=(aa.cells (aa.mk 0 0))) U U (bj gv U)) U U)<|fX U cx U<|rP 1 [] mn ?_
  refine RK V<|aq<|lG hQ [0] (mc 0 U mn) U ?_
  (have e:=ui (a:=p) (b:=q) (by simpa using A); rw [e.1,e.2]<;>rfl)
 rw [Bool.not_eq_false'] at A
 refine WK T<|aj fun _ W=>WS fun _ E=>?_
 have D:=kd A
 have P:=kN A
 refine fu 2 [0,1] (mc 3 U (mc 2 U mn)) U<|rS (CL (rG ts tsA tsC p asm asm) (bg [4]) U)<|rP 2 [] mn ?_
 refine dh (t:=20) U (bu fun B=>?_) (br fun B=>?_)
 ·refine bh 5 U<|RK E<|aQ U<|WS fun _ G=>rS (SX (bk (xs:=[]) (cs:=(aa.cells (aa.mk 0 0))) U U (bj gv U)) U U)<|fX U cx U<|rP 1 [] mn ?_
  refine RK G<|aq<|lG hQ [0] (mc 0 U mn) U ?_
  (have e:=pd (a:=p) (b:=q) A (fun h=>by first|exact B h.1|exact C h.2); rw [e.1,e.2]<;>rfl)
 refine fu 2 [0,1] (mc 3 U (mc 1 U mn)) U<|rS (CL (rG ts tsA tsC q asm asm) (bg [4]) U)<|rP 2 [] mn ?_
 refine RK E<|cH U (bu fun C=>?_) (br fun C=>?_)
 ·refine WS fun _ H=>rS (SX (bk (xs:=[]) (cs:=(aa.cells (aa.mk 0 0))) U U (bj gv U)) U U)<|fX U cx U<|rP 1 [] mn ?_
  refine RK H<|aq<|lG hQ [0] (mc 0 U mn) U ?_
  (have e:=pd (a:=p) (b:=q) A (fun h=>by first|exact B h.1|exact C h.2); rw [e.1,e.2]<;>rfl)
 refine WK W<|aj fun _ AC=>WS fun _ J=>?_
 have R:fy ts p∧fy ts q:=⟨B,C⟩
 have X:=qp D B
 have Y:=qp D C
 have l:=B.1
 have m:=C.1
 have j:=x5 D P C B
 unfold lF at X Y
 refine rP 5 [0,1] (mc 1 U (mc 2 U mn)) ?_
 refine RK J<|cH U (aN fun F=>?_) (aO fun F=>?_)
 ·refine WS fun _ K=>fu 3 [0,1,2] (mc 3 U (mc 1 U (mc 2 U mn))) U<|rS (CL (Hn ts tsA tsC q p hlen hside I) (bg [4]) U)<|bh 3 U<|AL U dp fun d=>fX U cx U<|bh 1 U<|RK K<|WS fun _ L=>rP 2 [] (mc 0 U mn) ?_
  have O:kR ts q p=j4 ts q p:=(lg A ⟨C,B⟩).2
  have Z: -400000≤(kR ts q p).Lo∧(kR ts q p).Hi≤400000:=by rw [O]; omega
  have c:(kR ts q p).Lo≤(kR ts q p).Hi:=by rw [O]; omega
  refine rS (NG U ⟨I,I⟩)<|fu 2 [] (mc 0 U mn) U<|rS (NG U ⟨I,I⟩)<|rS (SX (bk (xs:=[(0,.tmp 41),(1,.tmp 44)]) (cs:=(aa.cells (aa.mk (-((kR ts q p).Hi)) (-((kR ts q p).Lo))))) U U (bj gv U)) U U)<|sT U cx U<|rP 1 [] mn ?_
  refine RK L<|aq<|lG hQ [0] (mc 1 U mn) U ?_
  (have e:=lg A R; have i:=lg A ⟨C,B⟩; rw [e.1,e.2,i.2,EW F]<;>rfl)
 refine WK AC<|WS fun _ M=>rP 2 [] (mc 3 U mn) ?_
 have k:=mq D p.a_.toNat (q.a_-p.a_).toNat
 refine fu 3 [0,1] (mc 2 U (mc 1 U mn)) U<|rS (CL (AA ts tsA tsC p.a_ q.a_ asm asm I) (bg [4]) U)<|bh 3 U<|AL U dp fun f=>AL U dp fun g=>sT U cx U<|fX U cx U<|RK M<|WS fun _ N=>fu 20 [0,1,2,0,1,2] (mc 1 U (mc 3 U (mc 4 U mn))) U<|rS (SX (bk (xs:=[(0,.tmp 64),(1,.tmp 74)]) (cs:=(aa.cells (aa.mk ((((eK ts p.a_.toNat (q.a_-p.a_).toNat).Lo)+q.mN.Lo)-p.mN.Hi) ((((eK ts p.a_.toNat (q.a_-p.a_).toNat).Hi)+q.mN.Hi)-p.mN.Lo)))) U U (bj gv U)) U U)<|GG U cx U<|rP 1 [] mn ?_
 refine RK N<|aq<|lG hQ [0] (mc 2 U mn) U ?_
 (have e:=lg A R; rw [e.1,e.2,qF F]<;>rfl)
end
section
open Go.RowKit
theorem Jf (l:aZ) (kA:OA) (kC:Nat) (az:List RA) (cA:OA) (cC:Nat) (bA:OA) (bC:Nat) (hraw:sY l az):
 ep Tryz.prog 20 [(vA (bW.cells (lh l kA kC cA cC bA bC)))] [(rd kA l.aM.length 9 (l.aM.map al.cells)),(rd cA l.ai.length 2 (List.zipWith ar.cells l.ai az)),(fc (aU ar.g4 l.ai az)),(rd bA l.ae.length 4 (l.ae.map bH.cells))] (vB (decide (lW l))):=by
 have e:=hraw.sQ
 have d:=hraw.sr
 have a:=hraw.od
 have b:=hraw.sj
 refine bG kr Tryz.func20 U U fun g Q hQ hN=>?_
 try dsimp only
 refine WS fun _ O=>fQ U fun f=>bh 1 U<|RK O<|aj fun _ P=>WS fun _ D=>bh 1 U<|rS (LP (bB.cells (bB.mk (bo.mk kA l.aM.length kC))) 0 U cd U U U)<|rS (CL (Nd l.aM kA kC) (bg [1]) U)<|rP 1 [] mn ?_
 refine dh (t:=7) U (aN fun Z=>?_) (aO fun Z=>?_)
 ·refine bh 11 U<|RK D<|aQ U<|WS fun _ R=>rP 1 [] mn ?_
  refine RK R<|aq<|Q1 hQ U U U ?_
  exact cB (fR (.inl I)).symm
 refine rP 6 [] (mc 0 U mn) ?_
 refine dh (t:=13) U (aN fun C=>?_) (aO fun C=>?_)
 ·refine bh 5 U<|RK D<|aQ U<|WS fun _ S=>rP 1 [] mn ?_
  refine RK S<|aq<|Q1 hQ U U U ?_
  exact cB (fR (.inl I)).symm
 refine rP 5 [] (mc 0 U mn) ?_
 refine RK D<|cH U (aN fun N=>?_) (aO fun N=>?_)
 ·refine WS fun _ T=>rP 1 [] mn ?_
  refine RK T<|aq<|Q1 hQ U U U ?_
  exact cB (fR (.inl I)).symm
 refine WK P<|aj fun _ AA=>WS fun _ V=>rP 1 [] mn ?_
 refine RK V<|ax ?_
 have A:(0≤l.ai.length)∧(Aq l 0):=by exact ⟨Nat.zero_le _,fun j c hj=>absurd hj (Nat.not_lt_zero _)⟩
 refine bL (ι:={z:Nat // (z≤l.ai.length)∧(Aq l z)}) [1] [0,1,2,3,4] U U (fun z=>[(3,(vI (z.1:Int)))]) (fun z=>[]) (fun _=>rfl) (fun _=>rfl) (fun z=>l.ai.length-z.1) ⟨0,A⟩ (aV U) (aH [0,1,2,3,4]) ?_
 clear A
 rintro ⟨i,⟨W,B⟩⟩ J10 F
 try dsimp only
 refine aj fun _ G=>WS fun _ H=>rP 5 [] (mc 0 U mn) ?_
 refine RK H<|bQ U (aO fun C=>?_) (aN fun C=>?_)
 ·refine bD<|ab<|ab<|ay<|KK AA<|WS fun _ L=>rP 1 [] mn ?_
  refine RK L<|aq<|Q1 hQ U U U ?_
  exact cB (cq (IH I I B)).symm
 refine WK G<|aj fun _ AB=>ax<|WS fun _ J=>rP 3 [] (mc 0 U mn) ?_
 obtain ⟨x,hx⟩:=aJ l.ai i I
 obtain ⟨xa,X⟩:=aJ az i I
 have Y:(List.zipWith ar.cells l.ai az)[i]? =some (ar.cells x xa):=dG hx X
 refine rS (IA i U (aA 2 U) vD dc I I)<|rS (mW ((i*2)+1) U (aA 2 U) (Nat.mul_pos I dc) fp U)<|rS (fT i 1 (vS xa.1 x.bq.length xa.2) U cd (aA 2 U) Y U dc U)<|rP 2 [] mn ?_
 refine RK J<|cH U (aN fun E=>?_) (aO fun E=>?_)
 ·refine WS fun _ K=>rP 1 [] mn ?_
  refine RK K<|aq<|Q1 hQ U U U ?_
  exact cB (fR (JF hx E)).symm
 refine bZ<|aB<|KK AB<|ak<|rP 3 [] mn ?_
 refine aC ?_
 have M:(vI (((i+1):Nat):Int))=(vI ((i:Int)+1)):=by exact cI I
 refine aR (F ⟨(i+1),⟨I,lP B hx I⟩⟩ _ _ _ U os (du.cons U<|aY U M<|du.nil _) (aH [0,1,2,3,4]))
theorem xx (d m:Int) (hd:0≤d∧d≤1000) (hm:0≤m∧m≤90000000):
 ep Tryz.prog 132 [(vI d),(vI m)] [] (vI (pk (d*m) 1000000)):=by
 have J:=QM (a:=d) (b:=m) (A:=1000) (B:=90000000) hd.1 hd.2 hm.1 hm.2
 refine bG kr Tryz.func132 U U fun K Q hQ hN=>?_
 try dsimp only
 refine WS fun _ C=>bh 1 U<|RK C<|WS fun _ D=>bh 2 U<|rS (BI U (Gu ⟨I,I⟩))<|bh 1 U<|RK D<|aj fun _ E=>WS fun _ F=>bh 1 U<|rS (BI U (Pb I I))<|rP 1 [] mn ?_
 refine RK F<|cH U (aN fun AA=>?_) (aO fun AA=>?_)
 ·refine WS fun _ G=>bh 1 U<|rS (BI U (tD I I I))<|rP 2 [] mn ?_
  refine RK G<|aq<|Q1 hQ U U U ?_
  exact cI (by unfold pk; omega)
 refine WK E<|WS fun _ H=>bh 1 U<|rS (BI U (tD I I I))<|rP 1 [] mn ?_
 refine RK H<|aq<|Q1 hQ U U U ?_
 exact cI (by unfold pk; omega)
theorem I6 (c:ar) (sA:OA) (sC:Nat) (hlen:c.bq.length≤1000000):
 ep Tryz.prog 92 [(vA (dq.cells (dq.mk c.dw (bo.mk sA c.bq.length sC))))] [(rd sA c.bq.length 3 (c.bq.map cz.cells))] (vB (decide (e_ c))):=by
 refine bG kr Tryz.func92 U U fun w0 Q hQ hN=>?_
 try dsimp only
 refine WS fun _ Do=>fQ U fun b2=>bh 1 U<|RK Do<|aj fun _ Dz=>WS fun _ A6=>fu 2 [] (mc 0 U mn) U<|rS (CL (iT c.dw 0 1000) (aI) U)<|rP 2 [] mn ?_
 refine dh (t:=14) U (bu fun Cp=>?_) (br fun Cp=>?_)
 ·refine bh 6 U<|RK A6<|aQ U<|WS fun _ EQ=>rP 1 [] mn ?_
  refine RK EQ<|aq<|Q1 hQ U U U ?_
  exact cB (cq fun h=>by have q1:=h.rV; have q2:=h.len; omega).symm
 refine fu 3 [] (mc 0 U mn) U<|rS (CL (iT (c.bq.length:Int) 1 5) (aI) U)<|rP 2 [] mn ?_
 refine RK A6<|cH U (bu fun Cx=>?_) (br fun Cx=>?_)
 ·refine WS fun _ Eq=>rP 1 [] mn ?_
  refine RK Eq<|aq<|Q1 hQ U U U ?_
  exact cB (cq fun h=>by have q1:=h.rV; have q2:=h.len; omega).symm
 refine WK Dz<|aj fun _ FS=>WS fun _ Fd=>rP 1 [] mn ?_
 refine RK Fd<|ax ?_
 have A:(0≤c.bq.length)∧(∀ (j:Nat) y,j<0→c.bq[j]? =some y→fB c j y):=by exact ⟨Nat.zero_le _,fun j y hj=>absurd hj (Nat.not_lt_zero _)⟩
 refine bL (ι:={z:Nat // (z≤c.bq.length)∧(∀ (j:Nat) y,j<z→c.bq[j]? =some y→fB c j y)}) [1] [0,1] U U (fun z=>[(3,(vI (z.1:Int)))]) (fun z=>[]) (fun _=>rfl) (fun _=>rfl) (fun z=>c.bq.length-z.1) ⟨0,A⟩ (aV U) (aH [0,1]) ?_
 clear A
 rintro ⟨i,⟨a,C⟩⟩ J9 f
 try dsimp only
 have Go:=Mt a C
 refine aj fun _ g=>WS fun _ l=>rP 5 [] (mc 0 U mn) ?_
 refine RK l<|cH U (aN fun C0=>?_) (aO fun C0=>?_)
 ·refine WK g<|aj fun _ AA=>ax<|WS fun _ n=>rP 3 [] (mc 0 U mn) ?_
  obtain ⟨x,hx⟩:=aJ c.bq i I
  have b:=bK cz.cells hx
  refine rS (IA i U (aA 1 U) vJ dc I I)<|rS (oT i 0 (cz.cells x) U cd (aA 1 U) b U dc U U)<|AL U yv fun GE=>fX U AX U<|RK n<|aj fun _ B=>dK cE 41 kr<|mT 2 [] (mc 0 U mn) U<|dS (CL (iT x.At 0 86400000) (aI) U)<|dP 2 [] mn ?_
  refine jf (t:=37) U (bu fun C1=>?_) (br fun C1=>?_)
  ·refine l5 36 U<|cR<|RK B<|aQ U<|WS fun _ p=>rP 1 [] mn ?_
   refine RK p<|aq<|Q1 hQ U U U ?_
   exact cB (cq fun h=>by have q:=h.sync i x hx; unfold fB at q; (rw [gI I] at q; omega)).symm
  refine dP 3 [] mn ?_
  refine jy (t:=40) U (aO fun C2=>?_) (aN fun C2=>?_)
  ·refine dP 19 [] (mc 0 U mn) ?_
   refine jf (t:=59) U (aN fun X=>?_) (aO fun X=>?_)
   ·refine l5 14 U<|cR<|RK B<|aQ U<|WS fun _ w=>rP 1 [] mn ?_
    refine RK w<|aq<|Q1 hQ U U U ?_
    exact cB (cq fun h=>by have q:=h.sync i x hx; unfold fB at q; (rw [gI I] at q; omega)).symm
   refine dP 9 [] (mc 0 U mn) ?_
   refine jf (t:=68) U (aN fun Y=>?_) (aO fun Y=>?_)
   ·refine l5 5 U<|cR<|RK B<|aQ U<|WS fun _ AC=>rP 1 [] mn ?_
    refine RK AC<|aq<|Q1 hQ U U U ?_
    exact cB (cq fun h=>by have q:=h.sync i x hx; unfold fB at q; (rw [gI I] at q; omega)).symm
   refine dP 5 [] (mc 0 U mn) ?_
   refine cR<|RK B<|bQ U (aO fun Z=>?_) (aN fun Z=>?_)
   ·refine bZ<|aB<|KK AA<|ak<|rP 3 [] mn ?_
    refine aC ?_
    have A9:(vI (((i+1):Nat):Int))=(vI ((i:Int)+1)):=by exact cI I
    refine aR (f ⟨(i+1),⟨I,lP C hx (by unfold fB; (rw [gI I]; omega))⟩⟩ _ _ _ U os (du.cons U<|aY U A9<|du.nil _) (aH [1,2]))
   refine WS fun _ AO=>rP 1 [] mn ?_
   refine RK AO<|aq<|Q1 hQ U U U ?_
   exact cB (cq fun h=>by have q:=h.sync i x hx; unfold fB at q; (rw [gI I] at q; omega)).symm
  refine dP 6 [0,1] (mc 0 U (mc 1 U mn)) ?_
  obtain ⟨y,hy⟩:=aJ c.bq (i-1) I
  have d:=bK cz.cells hy
  refine dS (IA (i-1) U (aA 2 U) vJ dc I I)<|dS (mW ((i-1)*3) U (aA 2 U) (Nat.mul_pos I dc) fp U)<|dS (fT (i-1) 0 (vI y.At) U cd (aA 2 U) d U dc U)<|dP 4 [] mn ?_
  refine jf (t:=53) U (aN fun C3=>?_) (aO fun C3=>?_)
  ·refine l5 20 U<|cR<|RK B<|aQ U<|WS fun _ r=>rP 1 [] mn ?_
   refine RK r<|aq<|Q1 hQ U U U ?_
   exact cB (cq fun h=>by have q:=h.sync i x hx; unfold fB at q; (rw [xU I hy] at q; omega)).symm
  refine dP 6 [] (mc 0 U mn) ?_
  refine jf (t:=59) U (aN fun X=>?_) (aO fun X=>?_)
  ·refine l5 14 U<|cR<|RK B<|aQ U<|WS fun _ s=>rP 1 [] mn ?_
   refine RK s<|aq<|Q1 hQ U U U ?_
   exact cB (cq fun h=>by have q:=h.sync i x hx; unfold fB at q; (rw [gI I] at q; omega)).symm
  refine dP 9 [] (mc 0 U mn) ?_
  refine jf (t:=68) U (aN fun Y=>?_) (aO fun Y=>?_)
  ·refine l5 5 U<|cR<|RK B<|aQ U<|WS fun _ u=>rP 1 [] mn ?_
   refine RK u<|aq<|Q1 hQ U U U ?_
   exact cB (cq fun h=>by have q:=h.sync i x hx; unfold fB at q; (rw [gI I] at q; omega)).symm
  refine dP 5 [] (mc 0 U mn) ?_
  refine cR<|RK B<|bQ U (aO fun Z=>?_) (aN fun Z=>?_)
  ·refine bZ<|aB<|KK AA<|ak<|rP 3 [] mn ?_
   refine aC ?_
   have A8:(vI (((i+1):Nat):Int))=(vI ((i:Int)+1)):=by exact cI I
   refine aR (f ⟨(i+1),⟨I,lP C hx (by unfold fB; (rw [xU I hy]; omega))⟩⟩ _ _ _ U os (du.cons U<|aY U A8<|du.nil _) (aH [1,2]))
  refine WS fun _ v=>rP 1 [] mn ?_
  refine RK v<|aq<|Q1 hQ U U U ?_
  exact cB (cq fun h=>by have q:=h.sync i x hx; unfold fB at q; (rw [gI I] at q; omega)).symm
 refine bD<|ab<|ab<|ay<|KK FS<|aj fun _ Ai=>WS fun _ As=>rP 1 [] mn ?_
 refine RK As<|ax ?_
 have A:(0≤c.bq.length)∧(tp c 0):=by exact ⟨Nat.zero_le _,fun j y hj=>absurd hj (Nat.not_lt_zero _)⟩
 refine bL (ι:={z:Nat // (z≤c.bq.length)∧(tp c z)}) [1] [0,1] U U (fun z=>[(5,(vI (z.1:Int)))]) (fun z=>[]) (fun _=>rfl) (fun _=>rfl) (fun z=>c.bq.length-z.1) ⟨0,A⟩ (aV U) (aH [0,1]) ?_
 clear A
 rintro ⟨m,⟨B7,G⟩⟩ J28 e
 try dsimp only
 have F:=wk (P:=fB c) I C
 refine aj fun _ A0=>WS fun _ A1=>rP 5 [] (mc 0 U mn) ?_
 refine RK A1<|bQ U (aO fun Di=>?_) (aN fun Di=>?_)
 ·refine bD<|ab<|ab<|ay<|KK Ai<|WS fun _ A7=>rP 1 [] mn ?_
  refine RK A7<|aq<|Q1 hQ U U U ?_
  exact cB (fR (Mr I I (wk I C) I G)).symm
 refine WK A0<|aj fun _ A2=>ax<|WS fun _ A3=>rP 1 [] mn ?_
 refine RK A3<|ax ?_
 have A:(0≤m)∧(∀ y,c.bq[m]? =some y→Fy c y 0):=by exact ⟨Nat.zero_le _,fun y _ j o hj=>absurd hj (Nat.not_lt_zero _)⟩
 refine bL (ι:={z:Nat // (z≤m)∧(∀ y,c.bq[m]? =some y→Fy c y z)}) [1,5] [0,1] U U (fun z=>[(6,(vI (z.1:Int)))]) (fun z=>[]) (fun _=>rfl) (fun _=>rfl) (fun z=>m-z.1) ⟨0,A⟩ (aV U) (aH [0,1]) ?_
 clear A
 rintro ⟨k,⟨B9,D⟩⟩ J33 T
 try dsimp only
 refine aj fun _ A4=>WS fun _ A5=>rP 3 [] mn ?_
 refine RK A5<|bQ U (aO fun Dk=>?_) (aN fun Dk=>?_)
 ·refine bD<|ab<|ab<|ay<|aB<|KK A2<|ak<|rP 3 [] mn ?_
  refine aC ?_
  have B3:(vI (((m+1):Nat):Int))=(vI ((m:Int)+1)):=by exact cI I
  refine aR (e ⟨(m+1),⟨I,Eg G D I⟩⟩ _ _ _ U os (du.cons U<|aY U B3<|du.nil _) (aH [0,1]))
 refine WK A4<|aj fun _ V=>ax<|aj fun _ W=>pw cE [0,1,2,3,4,5,6,7,8,9] [10,11,12,13] [false,false,false,false,false,false,false,false,false,false] [] [(cb b2 53 (dq.cells (dq.mk c.dw (bo.mk sA c.bq.length sC)))),(rd sA c.bq.length 3 (c.bq.map cz.cells)).ro] [] kr (aH [0,1]) (aH [])<|eS U (FA 1 U fp U)<|eS U (L1 (vS sA c.bq.length sC) 0 U cd U U)<|eS U (MV U) ?_
 obtain ⟨x,hx⟩:=aJ c.bq k I
 have b:=bK cz.cells hx
 refine eS U (IA k U (aA 1 U) vJ dc I I)<|eS U (oT k 0 (cz.cells x) U cd (aA 1 U) b U dc U U)<|eS U (FA 1 U fp U)<|eS U (L1 (vS sA c.bq.length sC) 0 U cd U U)<|eS U (MV U) ?_
 obtain ⟨y,hy⟩:=aJ c.bq m I
 have d:=bK cz.cells hy
 refine eS U (IA m U (aA 1 U) vJ dc I I)<|eS U (oT m 0 (cz.cells y) U cd (aA 1 U) d U dc U U)<|eT U<|iX [10,11] kr (eN ?_<|eN ?_<|kB)
 rotate_left 1
 ·refine NO U U [10,12,13] fun T38 M=>AL U yv fun Ci=>RD M 1 U<|N1 10<|NO U U [12,13] fun T40 N=>AL U yv fun Ck=>RD N 2 U<|N1 12<|NO U U [13] fun T42 O=>fX U AX U<|RD O 2 U<|N1 13<|NO U U [] fun T43 R=>sT U AX U<|RD R 2 U<|p_<|KK W<|WS fun _ J=>rP 6 [0,1,2] (mc 2 U (mc 1 U (mc 0 U mn))) ?_
  obtain ⟨Fm,Fn,F5⟩:=uo (fun j z _ hz=>F j z hz) hy (F _ _ hy) (show k<m by omega) hx
  refine bh 1 U<|rS (CL (xx c.dw (y.At-x.At) I I) (aI) U)<|bh 1 U<|RK J<|WS fun _ E=>rP 10 [0,1] (mc 0 U (mc 1 U mn)) ?_
  refine dh (t:=113) U (aN fun H=>?_) (aO fun H=>?_)
  ·refine bh 10 U<|RK E<|aQ U<|WS fun _ K=>rP 1 [] mn ?_
   refine RK K<|aq<|Q1 hQ U U U ?_
   exact cB (cq fun h=>by have q:=h.pair m k y x hy I hx; unfold nP at q; omega).symm
  refine rP 10 [0,1] (mc 1 U (mc 0 U mn)) ?_
  refine RK E<|bQ U (aO fun AB=>?_) (aN fun AB=>?_)
  ·refine bZ<|aB<|KK V<|ak<|rP 3 [] mn ?_
   refine aC ?_
   have S:(vI (((k+1):Nat):Int))=(vI ((k:Int)+1)):=by exact cI I
   refine aR (T ⟨(k+1),⟨I,fun z hz=>by rw [hy] at hz; cases hz; exact lP (D _ hy) hx (by unfold nP; omega)⟩⟩ _ _ _ rfl os (du.cons rfl<|du.cons rfl<|aY rfl S<|du.nil _) (aH [2,3]))
  refine WS fun _ L=>rP 1 [] mn ?_
  refine RK L<|aq<|Q1 hQ U U U ?_
  exact cB (cq fun h=>by have q:=h.pair m k y x hy I hx; unfold nP at q; omega).symm
 refine NO U U [11,12,13] fun T38 M=>AL U yv fun Ci=>RD M 1 U<|N1 11<|NO U U [12,13] fun T40 N=>AL U yv fun Ck=>RD N 2 U<|N1 12<|NO U U [13] fun T42 O=>sT U AX U<|RD O 2 U<|N1 13<|NO U U [] fun T43 R=>fX U AX U<|RD R 2 U<|p_<|KK W<|WS fun _ J=>rP 6 [0,1,2] (mc 2 U (mc 0 U (mc 1 U mn))) ?_
 obtain ⟨Fm,Fn,F5⟩:=uo (fun j z _ hz=>F j z hz) hy (F _ _ hy) (show k<m by omega) hx
 refine bh 1 U<|rS (CL (xx c.dw (y.At-x.At) I I) (aI) U)<|bh 1 U<|RK J<|WS fun _ E=>rP 10 [0,1] (mc 1 U (mc 0 U mn)) ?_
 refine dh (t:=113) U (aN fun H=>?_) (aO fun H=>?_)
 ·refine bh 10 U<|RK E<|aQ U<|WS fun _ K=>rP 1 [] mn ?_
  refine RK K<|aq<|Q1 hQ U U U ?_
  exact cB (cq fun h=>by have q:=h.pair m k y x hy I hx; unfold nP at q; omega).symm
 refine rP 10 [0,1] (mc 0 U (mc 1 U mn)) ?_
 refine RK E<|bQ U (aO fun AB=>?_) (aN fun AB=>?_)
 ·refine bZ<|aB<|KK V<|ak<|rP 3 [] mn ?_
  refine aC ?_
  have S:(vI (((k+1):Nat):Int))=(vI ((k:Int)+1)):=by exact cI I
  refine aR (T ⟨(k+1),⟨I,fun z hz=>by rw [hy] at hz; cases hz; exact lP (D _ hy) hx (by unfold nP; omega)⟩⟩ _ _ _ rfl os (du.cons rfl<|du.cons rfl<|aY rfl S<|du.nil _) (aH [2,3]))
 refine WS fun _ L=>rP 1 [] mn ?_
 refine RK L<|aq<|Q1 hQ U U U ?_
 exact cB (cq fun h=>by have q:=h.pair m k y x hy I hx; unfold nP at q; omega).symm
theorem C7 (c:ar) (sA:OA) (sC:Nat) (at_:Int) (hc:e_ c) (ha:0≤at_∧at_≤90000000):
 ep Tryz.prog 197 [(vA (dq.cells (dq.mk c.dw (bo.mk sA c.bq.length sC)))),(vI at_)] [(rd sA c.bq.length 3 (c.bq.map cz.cells))] (vA (aa.cells (iz c at_))):=by
 have e:=hc.len
 have W:=hc.rV
 refine bG kr Tryz.func197 U U fun j Q hQ hN=>?_
 try dsimp only
 refine WS fun _ R=>fQ U fun g=>AL U dp fun h=>RK R<|WS fun _ S=>AL U dp fun d=>RK S<|aj fun _ T=>WS fun _ AA=>rP 1 [] mn ?_
 refine RK AA<|ax ?_
 have A:(0≤c.bq.length):=by exact Nat.zero_le _
 refine bL (ι:={z:Nat // (z≤c.bq.length)}) [1,2,4,5] [1,2,3] U U (fun z=>[(6,(vI (z.1:Int)))]) (fun z=>[(cb d 45 (aa.cells (kP c at_ z.1)))]) (fun _=>rfl) (fun _=>rfl) (fun z=>c.bq.length-z.1) ⟨0,A⟩ (aV U) (aH [1,2,3,0]) ?_
 clear A
 rintro ⟨i,X⟩ J8 D
 try dsimp only
 refine aj fun _ V=>WS fun _ E=>rP 5 [] (mc 1 U mn) ?_
 refine RK E<|bQ U (aO fun O=>?_) (aN fun O=>?_)
 ·refine bD<|ab<|ab<|ay<|KK T<|WS fun _ J=>rP 1 [] (mc 3 U mn) ?_
  refine fX U cx U<|RK J<|aq<|IC hQ [0] (mc 0 U mn) U ?_
  rw [Fa hc (show c.bq.length≤i by omega)]
 refine WK V<|aj fun _ B=>ax<|WS fun _ F=>rP 3 [] (mc 1 U mn) ?_
 obtain ⟨x,hx⟩:=aJ c.bq i I
 have Z:=bK cz.cells hx
 refine rS (IA i U (aA 2 U) vJ dc I I)<|rS (oT i 0 (cz.cells x) U cd (aA 2 U) Z U dc U U)<|AL U yv fun a=>fX U AX U<|RK F<|WS fun _ G=>rP 2 [] (mc 2 U mn) ?_
 have Y:=hc.uq hx
 have f:0≤pk (c.dw*max (at_-x.At) (x.At-at_)) 1000000∧pk (c.dw*max (at_-x.At) (x.At-at_)) 1000000≤90001:=ux W ha Y.1
 refine fu 8 [] (mc 0 U mn) U<|rS (MX U)<|rS (CL (xx c.dw (max (at_-x.At) (x.At-at_)) I I) (aI) U)<|bh 1 U<|RK G<|WS fun _ H=>fu 10 [] (mc 0 U mn) U<|rS (SX (bk (xs:=[(0,.tmp 38),(1,.tmp 43)]) (cs:=(aa.cells (aa.mk (x.eI.Lo-(pk (c.dw*(max (at_-x.At) (x.At-at_))) 1000000)) (x.eI.Hi+(pk (c.dw*(max (at_-x.At) (x.At-at_))) 1000000))))) U U (bj gv U)) U U)<|AL U dp fun b=>fX U cx U<|RK H<|aj fun _ C=>WS fun _ AB=>rP 2 [] mn ?_
 refine RK AB<|bQ U (aO fun P=>?_) (aN fun P=>?_)
 ·refine WK C<|ak<|fu 4 [0,1] (mc 5 U (mc 0 U mn)) U<|rS (MX U)<|rP 4 [0,1] (mc 5 U (mc 0 U mn)) ?_
  refine rS (MN U)<|rS (SX (bk (xs:=[(0,.tmp 52),(1,.tmp 57)]) (cs:=(aa.cells (aa.mk (max ((kP c at_ i).Lo) (x.eI.Lo-(pk (c.dw*(max (at_-x.At) (x.At-at_))) 1000000))) (min ((kP c at_ i).Hi) (x.eI.Hi+(pk (c.dw*(max (at_-x.At) (x.At-at_))) 1000000)))))) U U (bj gv U)) U U)<|ID U cx U<|aC<|aB<|KK B ?_
  have M:(aa.cells (aa.mk (max ((kP c at_ i).Lo) (x.eI.Lo-(pk (c.dw*(max (at_-x.At) (x.At-at_))) 1000000))) (min ((kP c at_ i).Hi) (x.eI.Hi+(pk (c.dw*(max (at_-x.At) (x.At-at_))) 1000000)))))=(aa.cells (kP c at_ (i+1))):=by exact congrArg aa.cells (BK hx I).symm
  rw [M]
  refine ak<|rP 3 [] mn ?_
  refine aC ?_
  have N:(vI (((i+1):Nat):Int))=(vI ((i:Int)+1)):=by exact cI I
  refine aR (D ⟨(i+1),(by first|omega|(simp only []; omega))⟩ _ _ _ U os (cK 4<|aY U N<|du.nil _) (aH [2,3,4,5]))
 refine ak<|fu 1 [] (mc 0 U mn) U<|ID U cx U<|RK C<|ak<|fu 4 [0,1] (mc 5 U (mc 0 U mn)) U<|rS (MX U)<|rP 4 [0,1] (mc 5 U (mc 0 U mn)) ?_
 refine rS (MN U)<|rS (SX (bk (xs:=[(0,.tmp 52),(1,.tmp 57)]) (cs:=(aa.cells (aa.mk (max (x.eI.Lo-(pk (c.dw*(max (at_-x.At) (x.At-at_))) 1000000)) (x.eI.Lo-(pk (c.dw*(max (at_-x.At) (x.At-at_))) 1000000))) (min (x.eI.Hi+(pk (c.dw*(max (at_-x.At) (x.At-at_))) 1000000)) (x.eI.Hi+(pk (c.dw*(max (at_-x.At) (x.At-at_))) 1000000)))))) U U (bj gv U)) U U)<|ID U cx U<|aC<|aB<|KK B ?_
 have K:(aa.cells (aa.mk (max (x.eI.Lo-(pk (c.dw*(max (at_-x.At) (x.At-at_))) 1000000)) (x.eI.Lo-(pk (c.dw*(max (at_-x.At) (x.At-at_))) 1000000))) (min (x.eI.Hi+(pk (c.dw*(max (at_-x.At) (x.At-at_))) 1000000)) (x.eI.Hi+(pk (c.dw*(max (at_-x.At) (x.At-at_))) 1000000)))))=(aa.cells (kP c at_ (i+1))):=by exact congrArg aa.cells (AP hc ha hx I).symm
 rw [K]
 refine ak<|rP 3 [] mn ?_
 refine aC ?_
 have L:(vI (((i+1):Nat):Int))=(vI ((i:Int)+1)):=by exact cI I
 refine aR (D ⟨(i+1),(by first|omega|(simp only []; omega))⟩ _ _ _ U os (cK 4<|aY U L<|du.nil _) (aH [2,3,4,5]))
theorem JX (l:aZ) (kA:OA) (kC:Nat) (az:List RA) (cA:OA) (cC:Nat) (bA:OA) (bC:Nat) (n:Int) (hin:er l az) (htr:c_ l.aM=true) (hbk: ∀ b∈l.ae,jV l b) (hn:0≤n∧n<(l.ae.length:Int)):
 ep Tryz.prog 94 [(vA (bW.cells (lh l kA kC cA cC bA bC))),(vI n)] [(rd kA l.aM.length 9 (l.aM.map al.cells)),(rd cA l.ai.length 2 (List.zipWith ar.cells l.ai az)),(fc (aU ar.g4 l.ai az)),(rd bA l.ae.length 4 (l.ae.map bH.cells))] (vI (mg l n.toNat)):=by
 have AA:=hin.sQ
 have S:=hin.sr
 have P:=hin.od
 have R:=hin.sj
 have T:=hin.side
 refine bG kr Tryz.func94 U U fun X Q hQ hN=>?_
 try dsimp only
 refine WS fun _ G=>fQ U fun V=>bh 1 U<|RK G<|aj fun _ H=>WS fun _ AB=>rP 2 [] mn ?_
 refine RK AB<|cH U (aN fun F=>?_) (aO fun F=>?_)
 ·refine aj fun _ J=>dF cE [11,12] [] [] [0,1,2,3,4] [] U U U U U<|eS U (FA 0 U fp U)<|eS U (LP (bB.cells (bB.mk (bo.mk kA l.aM.length kC))) 0 U cd U U U)<|eS U (FA 3 U fp U)<|eS U (L1 (vS bA l.ae.length bC) 0 U cd U U) ?_
  obtain ⟨y,hy⟩:=aJ l.ae 0 I
  have A:=bK bH.cells hy
  refine eS U (IA 0 U (aA 4 U) uG dc U I)<|eS U (mW (0*4) U (aA 4 U) (Nat.mul_pos I dc) fp U)<|eS U (oT 0 0 (cM.cells y.mR) U cd (aA 4 U) A U dc U U)<|eS U (CL (SZ l.aM kA kC y.mR asm asm) (bg [1]) U)<|eS U (MV U)<|eS U (EX U)<|eS U (EX U)<|eS U (AG U)<|eT U<|cf U fun T6 L=>AL U dp fun W=>aC (L _ _ (aH [1,2,3,4,5]) ?_)
  refine cf U fun T8 M=>fX U cx U<|aC (M _ _ (aH [1,2,3,4,5]) ?_)
  refine fF U<|KK J<|WS fun _ K=>rP 3 [] (mc 0 U mn) ?_
  refine RK K<|aq<|Q1 hQ U U U ?_
  (refine congrArg (Value.int .i64) ?_; rw [show n.toNat=0 by omega]; rw [zM hy,(wo htr (hbk _ (List.mem_of_getElem? hy)).1).2])
 refine WK H<|aj fun _ B=>dF cE [19,20] [] [] [0,1,2,3,4] [] U U U U U<|eS U (FA 0 U fp U)<|eS U (LP (bB.cells (bB.mk (bo.mk kA l.aM.length kC))) 0 U cd U U U)<|eS U (FA 3 U fp U)<|eS U (L1 (vS bA l.ae.length bC) 0 U cd U U)<|eS U (MV U)<|eS U (BI U (r_ ⟨I,I⟩)) ?_
 obtain ⟨y,hy⟩:=aJ l.ae (((n-1)).toNat) I
 have A:=bK bH.cells hy
 refine eS U (IA (((n-1)).toNat) U (aA 4 U) uG dc I I)<|eS U (mW ((((n-1)).toNat)*4) U (aA 4 U) (Nat.mul_pos I dc) fp U)<|eS U (oT (((n-1)).toNat) 0 (cM.cells y.mR) U cd (aA 4 U) A U dc U U)<|eS U (FA 3 U fp U)<|eS U (L1 (vS bA l.ae.length bC) 0 U cd U U)<|eS U (MV U) ?_
 obtain ⟨x,hx⟩:=aJ l.ae ((n).toNat) I
 have N:=bK bH.cells hx
 refine eS U (IA ((n).toNat) U (aA 4 U) uG dc I I)<|eS U (mW (((n).toNat)*4) U (aA 4 U) (Nat.mul_pos I dc) fp U)<|eS U (oT ((n).toNat) 0 (cM.cells x.mR) U cd (aA 4 U) N U dc U U)<|eS U (CL (Mn l.aM kA kC y.mR x.mR asm asm) (bg [1]) U)<|eS U (MV U)<|eS U (EX U)<|eS U (EX U)<|eS U (AG U)<|eT U<|cf U fun T11 D=>AL U dp fun O=>aC (D _ _ (aH [1,2,3,4,5]) ?_)
 refine cf U fun T13 E=>fX U cx U<|aC (E _ _ (aH [1,2,3,4,5]) ?_)
 refine fF U<|KK B<|WS fun _ C=>rP 3 [] (mc 0 U mn) ?_
 refine RK C<|aq<|Q1 hQ U U U ?_
 (refine congrArg (Value.int .i64) ?_; rw [Dl I hx (by rw [show n.toNat-1=(n-1).toNat by omega]; exact hy),(lg htr ⟨(hbk _ (List.mem_of_getElem? hy)).1,(hbk _ (List.mem_of_getElem? hx)).1⟩).2])
theorem KT (l:aZ) (kA:OA) (kC:Nat) (az:List RA) (cA:OA) (cC:Nat) (bA:OA) (bC:Nat) (n:Int) (hin:er l az) (htr:c_ l.aM=true) (hok:lz l) (hn:0≤n∧n<(l.ae.length:Int)):
 ep Tryz.prog 195 [(vA (bW.cells (lh l kA kC cA cC bA bC))),(vI n)] [(rd kA l.aM.length 9 (l.aM.map al.cells)),(rd cA l.ai.length 2 (List.zipWith ar.cells l.ai az)),(fc (aU ar.g4 l.ai az)),(rd bA l.ae.length 4 (l.ae.map bH.cells))] (vI (ej l n.toNat)):=by
 have G:=hin.sQ
 have F:=hin.sr
 have D:=hin.od
 have E:=hin.sj
 have C:=hok.head
 unfold gE at C
 have H:=FF htr hok.vK n.toNat
 have AA:=hok.Ry n.toNat I
 refine bG kr Tryz.func195 U U fun K Q hQ hN=>?_
 try dsimp only
 refine WS fun _ A=>fQ U fun J=>bh 1 U<|RK A<|aj fun _ B=>dK cE 12 kr<|mT 2 [] (mc 0 U mn) U<|dS (CL (JX l kA kC az cA cC bA bC n hin htr (by exact hok.vK) hn) (bg [1,2,3,4]) U)<|dS (BI U (Gu ⟨I,I⟩))<|mT 6 [] (mc 0 U mn) U<|dS (BI U (tD I I I))<|dP 1 [] mn ?_
 refine cR<|RK B<|aq<|Q1 hQ U U U ?_
 exact cI (by unfold ej pk; rw [Int.mul_comm])
theorem Nk (l:aZ) (kA:OA) (kC:Nat) (az:List RA) (cA:OA) (cC:Nat) (bA:OA) (bC:Nat) (hin:er l az) (htr:c_ l.aM=true):
 ep Tryz.prog 57 [(vA (bW.cells (lh l kA kC cA cC bA bC)))] [(rd kA l.aM.length 9 (l.aM.map al.cells)),(rd cA l.ai.length 2 (List.zipWith ar.cells l.ai az)),(fc (aU ar.g4 l.ai az)),(rd bA l.ae.length 4 (l.ae.map bH.cells))] (vB (decide (lz l))):=by
 have Eq:=hin.sQ
 have Dk:=hin.sr
 have C2:=hin.od
 have Di:=hin.sj
 have Do:=hin.side
 have Dz:=kd htr
 have C1:=kN htr
 refine bG kr Tryz.func57 U U fun w0 Q hQ hN=>?_
 try dsimp only
 refine WS fun _ A8=>fQ U fun b2=>bh 1 U<|RK A8<|aj fun _ A9=>WS fun _ D=>fu 2 [] (mc 0 U mn) U<|rS (CL (iT l.gH 1 5000) (aI) U)<|rP 2 [] mn ?_
 refine dh (t:=10) U (bu fun Ai=>?_) (br fun Ai=>?_)
 ·refine bh 35 U<|RK D<|aQ U<|WS fun _ B3=>rP 1 [] mn ?_
  refine RK B3<|aq<|Q1 hQ U U U ?_
  exact cB (cq fun h=>by have q:=h.head; unfold gE at q; omega).symm
 refine fu 3 [] (mc 0 U mn) U<|rS (CL (iT (l.ai.length:Int) 1 4) (aI) U)<|rP 3 [] mn ?_
 refine dh (t:=17) U (bu fun As=>?_) (br fun As=>?_)
 ·refine bh 28 U<|RK D<|aQ U<|WS fun _ B7=>rP 1 [] mn ?_
  refine RK B7<|aq<|Q1 hQ U U U ?_
  exact cB (cq fun h=>by have q:=h.head; unfold gE at q; omega).symm
 refine fu 3 [] (mc 0 U mn) U<|rS (CL (iT (l.ae.length:Int) 1 6) (aI) U)<|rP 3 [] mn ?_
 refine dh (t:=24) U (bu fun A0=>?_) (br fun A0=>?_)
 ·refine bh 21 U<|RK D<|aQ U<|WS fun _ B9=>rP 1 [] mn ?_
  refine RK B9<|aq<|Q1 hQ U U U ?_
  exact cB (cq fun h=>by have q:=h.head; unfold gE at q; omega).symm
 refine fu 6 [] (mc 0 U mn) U<|rS (CL (iT l.cr 0 ((l.ae.length:Int)-1)) (aI) U)<|rP 3 [] mn ?_
 refine dh (t:=34) U (bu fun A1=>?_) (br fun A1=>?_)
 ·refine bh 11 U<|RK D<|aQ U<|WS fun _ Ci=>rP 1 [] mn ?_
  refine RK Ci<|aq<|Q1 hQ U U U ?_
  exact cB (cq fun h=>by have q:=h.head; unfold gE at q; omega).symm
 refine fu 2 [] (mc 0 U mn) U<|rS (CL (iT l.eh 0 3) (aI) U)<|rP 3 [] mn ?_
 refine dh (t:=40) U (bu fun A2=>?_) (br fun A2=>?_)
 ·refine bh 5 U<|RK D<|aQ U<|WS fun _ Ck=>rP 1 [] mn ?_
  refine RK Ck<|aq<|Q1 hQ U U U ?_
  exact cB (cq fun h=>by have q:=h.head; unfold gE at q; omega).symm
 refine fu 2 [] (mc 0 U mn) U<|rS (CL (iT l.cO 0 3) (aI) U)<|rP 2 [] mn ?_
 refine RK D<|cH U (bu fun A3=>?_) (br fun A3=>?_)
 ·refine WS fun _ N=>rP 1 [] mn ?_
  refine RK N<|aq<|Q1 hQ U U U ?_
  exact cB (cq fun h=>by have q:=h.head; unfold gE at q; omega).symm
 refine WK A9<|aj fun _ O=>WS fun _ R=>rP 1 [] mn ?_
 refine RK R<|ax ?_
 have A:(0≤l.ai.length)∧(∀ (j:Nat) y,j<0→l.ai[j]? =some y→e_ y):=by exact ⟨Nat.zero_le _,fun j y hj=>absurd hj (Nat.not_lt_zero _)⟩
 refine bL (ι:={z:Nat // (z≤l.ai.length)∧(∀ (j:Nat) y,j<z→l.ai[j]? =some y→e_ y)}) [1] [0,1,2,3,4] U U (fun z=>[(3,(vI (z.1:Int)))]) (fun z=>[]) (fun _=>rfl) (fun _=>rfl) (fun z=>l.ai.length-z.1) ⟨0,A⟩ (aV U) (aH [0,1,2,3,4]) ?_
 clear A
 rintro ⟨i,⟨Cp,F⟩⟩ J13 K
 try dsimp only
 refine aj fun _ S=>WS fun _ T=>rP 5 [] (mc 0 U mn) ?_
 refine RK T<|cH U (aN fun A4=>?_) (aO fun A4=>?_)
 ·refine WK S<|aj fun _ AA=>ax<|WS fun _ V=>rP 3 [] (mc 0 U mn) ?_
  obtain ⟨x,hx⟩:=aJ l.ai i I
  obtain ⟨xa,J⟩:=aJ az i I
  have C0:(List.zipWith ar.cells l.ai az)[i]? =some (ar.cells x xa):=dG hx J
  refine rS (IA i U (aA 2 U) vD dc I I)<|rS (oT i 0 (dq.cells (dq.mk x.dw (bo.mk xa.1 x.bq.length xa.2))) U cd (aA 2 U) C0 U dc U U) ?_
  have EQ:=(hin.RE _ _ _ hx J).2
  refine rS (CL (I6 x xa.1 xa.2 asm) (av (show jc _ (rd xa.1 x.bq.length 3 (x.bq.map cz.cells)).holds from (dk 3 U (bV hx J (by simp [ar.g4]))))<|aI) U)<|rP 1 [] mn ?_
  refine RK V<|bQ U (br fun AB=>?_) (bu fun AB=>?_)
  ·refine bZ<|aB<|KK AA<|ak<|rP 3 [] mn ?_
   refine aC ?_
   have u:(vI (((i+1):Nat):Int))=(vI ((i:Int)+1)):=by exact cI I
   refine aR (K ⟨(i+1),⟨I,lP (P:=fun _ y=>e_ y) F hx AB⟩⟩ _ _ _ U os (du.cons U<|aY U u<|du.nil _) (aH [0,1,2,3,4]))
  refine WS fun _ W=>rP 1 [] mn ?_
  refine RK W<|aq<|Q1 hQ U U U ?_
  exact cB (cq fun h=>AB (h.clock _ (aT hx))).symm
 refine bD<|ab<|ab<|ay<|KK O<|aj fun _ X=>WS fun _ Y=>rP 1 [] mn ?_
 refine RK Y<|ax ?_
 have A:(0≤l.ae.length)∧(∀ (j:Nat) y,j<0→l.ae[j]? =some y→jV l y):=by exact ⟨Nat.zero_le _,fun j y hj=>absurd hj (Nat.not_lt_zero _)⟩
 refine bL (ι:={z:Nat // (z≤l.ae.length)∧(∀ (j:Nat) y,j<z→l.ae[j]? =some y→jV l y)}) [1] [0,1,2,3,4] U U (fun z=>[(4,(vI (z.1:Int)))]) (fun z=>[]) (fun _=>rfl) (fun _=>rfl) (fun z=>l.ae.length-z.1) ⟨0,A⟩ (aV U) (aH [0,1,2,3,4]) ?_
 clear A
 rintro ⟨m,⟨Cx,B⟩⟩ J22 L
 try dsimp only
 refine aj fun _ Z=>WS fun _ a=>rP 5 [] (mc 0 U mn) ?_
 refine RK a<|bQ U (aO fun A5=>?_) (aN fun A5=>?_)
 ·refine bD<|ab<|ab<|ay<|KK X<|aj fun _ e=>WS fun _ f=>rP 1 [] mn ?_
  refine RK f<|ax ?_
  have A:(0≤l.ae.length)∧(∀ j,j<0→1≤mg l j):=by exact ⟨Nat.zero_le _,fun j hj=>absurd hj (Nat.not_lt_zero _)⟩
  refine bL (ι:={z:Nat // (z≤l.ae.length)∧(∀ j,j<z→1≤mg l j)}) [1] [0,1,2,3,4] U U (fun z=>[(5,(vI (z.1:Int)))]) (fun z=>[]) (fun _=>rfl) (fun _=>rfl) (fun z=>l.ae.length-z.1) ⟨0,A⟩ (aV U) (aH [0,1,2,3,4]) ?_
  clear A
  rintro ⟨n,⟨AO,C⟩⟩ J32 M
  try dsimp only
  have C3:=yi (P:=jV l) I B
  refine aj fun _ g=>WS fun _ k=>rP 5 [] (mc 0 U mn) ?_
  refine RK k<|bQ U (aO fun A7=>?_) (aN fun A7=>?_)
  ·refine bD<|ab<|ab<|ay<|KK e<|WS fun _ s=>rP 1 [] mn ?_
   refine RK s<|aq<|Q1 hQ U U U ?_
   exact cB (fR (zy (by unfold gE; omega) (yi I F) (yi I B) (fun j hj=>C j I))).symm
  refine WK g<|aj fun _ o=>ax<|WS fun _ p=>fu 2 [] (mc 0 U mn) U<|rS (CL (JX l kA kC az cA cC bA bC (n:Int) hin htr asm I) (bg [1,2,3,4]) U)<|rP 1 [] mn ?_
  refine RK p<|bQ U (aO fun E=>?_) (aN fun E=>?_)
  ·refine bZ<|aB<|KK o<|ak<|rP 3 [] mn ?_
   refine aC ?_
   have w:(vI (((n+1):Nat):Int))=(vI ((n:Int)+1)):=by exact cI I
   refine aR (M ⟨(n+1),⟨I,fun j hj=>by rcases Nat.lt_or_ge j n with q|q; exact C j q; (obtain rfl:j=n:=by omega); simp only [Int.toNat_natCast] at E; omega⟩⟩ _ _ _ rfl os (du.cons rfl<|aY rfl w<|du.nil _) (aH [0,1,2,3,4]))
  refine WS fun _ r=>rP 1 [] mn ?_
  refine RK r<|aq<|Q1 hQ U U U ?_
  exact cB (cq fun h=>by have q:=h.Ry n I; simp only [Int.toNat_natCast] at E; omega).symm
 refine WK Z<|aj fun _ b=>ax<|aj fun _ H=>dK cE 24 kr<|l5 1 U<|dS (LP (bB.cells (bB.mk (bo.mk kA l.aM.length kC))) 0 U cd U U U)<|dP 3 [] (mc 0 U mn) ?_
 obtain ⟨y,hy⟩:=aJ l.ae m I
 have AC:=bK bH.cells hy
 refine dS (IA m U (aA 4 U) uG dc I I)<|dS (mW (m*4) U (aA 4 U) (Nat.mul_pos I dc) fp U)<|dS (oT m 0 (cM.cells y.mR) U cd (aA 4 U) AC U dc U U)<|dS (CL (rG l.aM kA kC y.mR asm asm) (bg [1]) U)<|dP 2 [] mn ?_
 refine jf (t:=77) U (bu fun G=>?_) (br fun G=>?_)
 ·refine l5 13 U<|cR<|RK H<|aQ U<|WS fun _ c=>rP 1 [] mn ?_
  refine RK c<|aq<|Q1 hQ U U U ?_
  exact cB (cq fun h=>by have q:=h.vK _ (aT hy); have q2:=q.2; first|exact G q.1|omega).symm
 refine mT 3 [] (mc 0 U mn) U<|dS (IA m U (aA 4 U) uG dc I I)<|dS (mW ((m*4)+3) U (aA 4 U) (Nat.mul_pos I dc) fp U)<|dS (fT m 3 (vI y.j0) U cd (aA 4 U) AC U dc U)<|mT 4 [] (mc 0 U mn) U<|dS (CL (iT y.j0 0 ((l.ai.length:Int)-1)) (aI) U)<|dP 2 [] mn ?_
 refine cR<|RK H<|bQ U (br fun A6=>?_) (bu fun A6=>?_)
 ·refine bZ<|aB<|KK b<|ak<|rP 3 [] mn ?_
  refine aC ?_
  have v:(vI (((m+1):Nat):Int))=(vI ((m:Int)+1)):=by exact cI I
  refine aR (L ⟨(m+1),⟨I,lP (P:=fun _ y=>jV l y) B hy ⟨G,I,I⟩⟩⟩ _ _ _ U os (du.cons U<|aY U v<|du.nil _) (aH [0,1,2,3,4]))
 refine WS fun _ d=>rP 1 [] mn ?_
 refine RK d<|aq<|Q1 hQ U U U ?_
 exact cB (cq fun h=>by have q:=h.vK _ (aT hy); have q2:=q.2; first|exact G q.1|omega).symm
end
end Go.Proofs.YtlajhejcfcoddaaGreatDoor
