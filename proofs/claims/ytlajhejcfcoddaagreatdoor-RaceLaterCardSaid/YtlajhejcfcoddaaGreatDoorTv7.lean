/-
 The statement raceLater_said, part 7 of 8: Rt3, Rr1, Rx1, Rx2, RkS, RaS, RtS, Rx3, B10, Z1, Rx4, Rx5, DrawB, Async, NJoin, Rx8, Rx9, Rx10, Rx11, Rx12, Rz1, Rz2, Rt2, Rz3, Rz4, B7.
 Conditions: none.
-/
import Derived.Test.YtlajhejcfcoddaaGreatDoorTv1
import Derived.Test.YtlajhejcfcoddaaGreatDoorTv2
import Derived.Test.YtlajhejcfcoddaaGreatDoorTv3
import Derived.Test.YtlajhejcfcoddaaGreatDoorTv4
import Derived.Test.YtlajhejcfcoddaaGreatDoorTv5
import Derived.Test.YtlajhejcfcoddaaGreatDoorTv6
import Derived.KernelRfl
namespace Go.Proofs.YtlajhejcfcoddaaGreatDoor
set_option maxRecDepth 100000
set_option maxHeartbeats 4000000
set_option linter.unusedVariables false
section
open Go.RowKit
theorem Ez (h i:Int) (r:cj) (kA:OA) (kC:Nat) (az:List RA) (cA:OA) (cC:Nat) (bA:OA) (bC:Nat) (slA:OA) (slC:Nat) (drA:OA) (drC:Nat) (ha:List cb) (heA:OA) (heC:Nat) (hin:fw r az ha):
 eB Tryz.prog 15 [(vA (cu.cells (oY r kA kC cA cC bA bC slA slC drA drC heA heC))),(vI h),(vI i)] [(rd fx 3 2 eC),(rd kA r.an.aL.length 9 (r.an.aL.map al.cells)),(rd cA r.an.ai.length 2 (List.zipWith ar.cells r.an.ai az)),(fp (aR ar.ia r.an.ai az)),(rd bA r.an.ag.length 4 (r.an.ag.map bE.cells)),(rd slA r.aM.length 1 (r.aM.map iC)),(rd drA r.bL.length 1 (r.bL.map iC)),(rd heA r.ao.length 1 (List.zipWith cw r.ao ha)),(fp (aR iI r.ao ha))] (vT [(vA (aa.cells (gY r h i))),(vI (kE r h i))]):=by
 have AO:=hin.line
 have A7:=hin.iU
 have A8:=hin.has
 have A4:=hin.iY
 have A2:=hin.draw
 have F:=dQ (r:=r)
 refine bG kr Tryz.func15 U U fun w0 Q hQ hN=>?_
 try dsimp only
 refine WS fun _ u=>fZ U fun b2=>AL U dA fun b3=>bk 1 U<|RK u<|WS fun _ X=>rP 1 [] (mc 1 U mn) ?_
 refine cX (oS r kA kC az cA cC bA bC slA slC drA drC ha heA heC hin) (bo [2,3,4,5,6,7,8,9,10]) U fun y5 c=>?_
 obtain ⟨f,A6,o,m,g,j,Bf⟩:=y5
 cases f
 ·obtain ⟨Y,he⟩:=c.2 rfl
  try dsimp only at Y he
  subst Y
  try dsimp only [cond_true,cond_false,List.cons_append,List.nil_append]
  refine bk 5 U<|RK X<|aj fun _ A1=>ax<|WS fun _ N=>rP 3 [] mn ?_
  refine RK N<|bR U (bu fun M=>?_) (bw fun M=>?_)
  ·exact absurd M he
  refine WS fun _ O=>rS (SX (bg (xs:=[]) (cs:=(aa.cells (aa.mk 0 0))) U U (bh gJ U)) U U)<|bk 1 U<|gd U cz U<|rP 1 [] mn ?_
  refine RK O<|av<|lU hQ [0] (mc 0 U mn) U ?_
  first|(have e:=pz (h:=h) (i:=i) he; have B:gY r h i=dL:=if_neg (fun q=>by rw [e] at q; exact he q); rw [e,B]; rfl)|(have e:=pa (h:=h) (i:=i) he I; have B:gY r h i=dL:=if_neg (fun q=>by rw [e] at q; cases q); rw [e,B]; rfl)|(have e:=n9 he I A hd C; have B:gY r h i=dL:=if_neg (fun q=>by rw [e] at q; cases q); rw [e,B]; rfl)|(have e:=rn he I A hd C; rw [e.1,e.2,H]; done)
 obtain ⟨he,J⟩:=c.1 rfl
 try dsimp only [cond_true,cond_false,List.cons_append,List.nil_append]
 try dsimp only at J
 have a:=(gX he).2
 refine bk 5 U<|RK X<|aj fun _ P=>ax<|WS fun _ R=>bk 1 U<|rS (SX (cd (r:= .bool false) U U U og) U U)<|bk 1 U<|RK R<|aZ U<|WS fun _ K=>rP 5 [] (mc 5 U mn) ?_
 refine dj (xs:=[.tmp 25]) (cs:=[(vI h)]) U cK jA U U U U (by simp [Value.cells]) U U fun k=>?_
 refine rS (CL (eB.eq (ko 0 ((r.ao.length:Int)-1) ([h]) (some ⟨k,0,none⟩) 1 sd) cZ) (aq (bf 0 U U (by simp [bH]) U)<|aJ) U) ?_
 refine rP 2 [] mn ?_
 refine dx (t:=29) U (bw fun s=>?_) (bu fun s=>?_)
 ·refine bk 7 U<|RK K<|aQ U<|WS fun _ S=>rS (SX (bg (xs:=[]) (cs:=(aa.cells (aa.mk 0 0))) U U (bh gJ U)) U U)<|I4 U cz U<|rP 1 [] mn ?_
  refine RK S<|av<|lU hQ [0] (mc 5 U mn) U ?_
  first|(have e:=pz (h:=h) (i:=i) he; have B:gY r h i=dL:=if_neg (fun q=>by rw [e] at q; exact he q); rw [e,B]; rfl)|(have e:=pa (h:=h) (i:=i) he I; have B:gY r h i=dL:=if_neg (fun q=>by rw [e] at q; cases q); rw [e,B]; rfl)|(have e:=n9 he I A hd C; have B:gY r h i=dL:=if_neg (fun q=>by rw [e] at q; cases q); rw [e,B]; rfl)|(have e:=rn he I A hd C; rw [e.1,e.2,H]; done)
 refine rP 2 [] mn ?_
 refine dj (xs:=[.tmp 31]) (cs:=[(vI i)]) U cK jA U U U U (by simp [Value.cells]) U U fun l=>?_
 refine rS (CL (eB.eq (Bo r kA kC az cA cC bA bC slA slC drA drC ha heA heC Bf g j (Value.map (some m)) o ([i]) (some ⟨l,0,none⟩) 1 hin sd) cZ) (mu [9,10,11,12,13,14,15,16]<|aq (ae (n:=(cT r).length) 3 U (nx (by rw [F]; exact J)))<|aq (dg 4 U tU)<|fB 2 U U<|aq (bf 0 U U (by simp [bH]) U)<|aJ) U) ?_
 refine rP 3 [] mn ?_
 refine RK K<|cP U (bw fun p=>?_) (bu fun p=>?_)
 ·refine WS fun _ T=>rS (SX (bg (xs:=[]) (cs:=(aa.cells (aa.mk 0 0))) U U (bh gJ U)) U U)<|Ow U cz U<|rP 1 [] mn ?_
  refine RK T<|av<|lU hQ [0] (mc 6 U mn) U ?_
  first|(have e:=pz (h:=h) (i:=i) he; have B:gY r h i=dL:=if_neg (fun q=>by rw [e] at q; exact he q); rw [e,B]; rfl)|(have e:=pa (h:=h) (i:=i) he I; have B:gY r h i=dL:=if_neg (fun q=>by rw [e] at q; cases q); rw [e,B]; rfl)|(have e:=n9 he I A hd C; have B:gY r h i=dL:=if_neg (fun q=>by rw [e] at q; cases q); rw [e,B]; rfl)|(have e:=rn he I A hd C; rw [e.1,e.2,H]; done)
 refine WS fun _ AA=>rP 3 [] (mc 7 U mn) ?_
 obtain ⟨ht,A⟩:=aK r.ao ((h).toNat) I
 obtain ⟨D,E⟩:=aK ha ((h).toNat) I
 have Z:(List.zipWith cw r.ao ha)[(h).toNat]? =some (cw ht D):=dB A E
 refine rS (IA ((h).toNat) U (aA 15 U) nj dc I I) ?_
 have z:=hin.nu _ _ _ A E
 have A3:=z.nD
 have AC:=(a.nu ht (aS A)).1
 refine rS (gl ((h).toNat) 0 (vS D.1.1 ht.length D.1.2) U cp (aA 15 U) Z U dc U)<|rP 1 [] mn ?_
 obtain ⟨d,hd⟩:=aK ht ((i).toNat) I
 obtain ⟨da,v⟩:=aK D.2 ((i).toNat) I
 have y:(List.zipWith au.cells ht D.2)[(i).toNat]? =some (au.cells d da):=dB hd v
 refine rS (IA ((i).toNat) U (show jh _ (rd D.1.1 ht.length 7 (List.zipWith au.cells ht D.2)).holds from (dC 16 U (bY A E cv))) tm dc I I)<|rS (lZ (((i).toNat)*7) U (show jh _ (rd D.1.1 ht.length 7 (List.zipWith au.cells ht D.2)).holds from (dC 16 U (bY A E cv))) (Nat.mul_pos I dc) fc U)<|rS (gl ((i).toNat) 0 (vB d.Out) U cp (show jh _ (rd D.1.1 ht.length 7 (List.zipWith au.cells ht D.2)).holds from (dC 16 U (bY A E cv))) y U dc U)<|rP 1 [] mn ?_
 refine RK AA<|cP U (fun C=>?_) (fun C=>?_)
 ·refine WS fun _ V=>rS (SX (bg (xs:=[]) (cs:=(aa.cells (aa.mk 0 0))) U U (bh gJ U)) U U)<|Ow U cz U<|rP 1 [] mn ?_
  refine RK V<|av<|lU hQ [0] (mc 6 U mn) U ?_
  first|(have e:=pz (h:=h) (i:=i) he; have B:gY r h i=dL:=if_neg (fun q=>by rw [e] at q; exact he q); rw [e,B]; rfl)|(have e:=pa (h:=h) (i:=i) he I; have B:gY r h i=dL:=if_neg (fun q=>by rw [e] at q; cases q); rw [e,B]; rfl)|(have e:=n9 he I A hd C; have B:gY r h i=dL:=if_neg (fun q=>by rw [e] at q; cases q); rw [e,B]; rfl)|(have e:=rn he I A hd C; rw [e.1,e.2,H]; done)
 refine ct<|aF<|KK P<|WS fun _ W=>bk 1 U<|rS (SX (bO U U) U U)<|rP 3 [] (mc 2 U mn) ?_
 obtain ⟨tr,AB⟩:=aK (cT r) ((h).toNat) I
 obtain ⟨tra,G⟩:=aK Bf ((h).toNat) I
 have b:(List.zipWith EM (cT r) Bf)[(h).toNat]? =some (EM tr tra):=dB AB G
 refine rS (IA ((h).toNat) U (ae (n:=(cT r).length) 3 U (nx (by rw [F]; exact J))) GG dc I I) ?_
 have L:=Ah A AB
 have A5:tr.length=r.aM.length:=by rw [L,List.length_map]; exact AC
 refine rS (gl ((h).toNat) 0 (vS tra.1 tr.length tra.2) U cp (ae (n:=(cT r).length) 3 U (nx (by rw [F]; exact J))) b U dc U) ?_
 refine rP 1 [] mn ?_
 obtain ⟨x,hx⟩:=aK tr ((i).toNat) I
 have A0:=bQ aa.cells hx
 refine rS (IA ((i).toNat) U (show jh _ (rd tra.1 tr.length 2 (tr.map aa.cells)).holds from (fun w hw=>(dg 4 U tU) w hw _ (bY AB G (by simp [Nh])))) hU dc I I) ?_
 have H:=MP L hx hd
 refine rS (oE ((i).toNat) 0 (aa.cells x) U cp (show jh _ (rd tra.1 tr.length 2 (tr.map aa.cells)).holds from (fun w hw=>(dg 4 U tU) w hw _ (bY AB G (by simp [Nh])))) A0 U dc U U)<|Ow U cz U<|rP 1 [] mn ?_
 refine RK W<|av<|lU hQ [0] (mc 6 U mn) U ?_
 first|(have e:=pz (h:=h) (i:=i) he; have B:gY r h i=dL:=if_neg (fun q=>by rw [e] at q; exact he q); rw [e,B]; rfl)|(have e:=pa (h:=h) (i:=i) he I; have B:gY r h i=dL:=if_neg (fun q=>by rw [e] at q; cases q); rw [e,B]; rfl)|(have e:=n9 he I A hd C; have B:gY r h i=dL:=if_neg (fun q=>by rw [e] at q; cases q); rw [e,B]; rfl)|(have e:=rn he I A hd C; rw [e.1,e.2,H]; done)
end
section
open Go.RowKit
theorem po (n lo hi:Int):
 eB Tryz.prog 149 [(vI n),(vI lo),(vI hi)] [] (vB (decide (lo≤n∧n≤hi))):=by
 refine bG kr Tryz.func149 U U fun D Q hQ hN=>?_
 try dsimp only
 refine WS fun _ B=>bk 1 U<|RK B<|WS fun _ A=>rP 4 [] mn ?_
 refine dx (t:=10) U (aO fun C=>?_) (aN fun C=>?_)
 ·refine rP 5 [] mn ?_
  refine RK A<|av<|Q1 hQ U U U ?_
  exact cB (gN.2 I)
 refine rP 5 [] mn ?_
 refine RK A<|av<|Q1 hQ U U U ?_
 exact cB (cy I).symm
theorem GR (r:cx) (sgA:OA) (sgC:Nat):
 eB Tryz.prog 177 [(vA (dp.cells (lT r sgA sgC)))] [(rd sgA r.ah.length 2 (r.ah.map aH.cells))] (vB (decide (iF r))):=by
 refine bG kr Tryz.func177 U U fun F Q hQ hN=>?_
 try dsimp only
 refine WS fun _ B=>fZ U fun E=>bk 1 U<|RK B<|WS fun _ A=>rP 4 [] (mc 0 U mn) ?_
 refine ck (t:=6) U (aN fun C=>?_) (aO fun C=>?_)
 ·refine rP 11 [] mn ?_
  refine RK A<|av<|Q1 hQ U U U ?_
  simp only [iF]
  exact cB (cy I).symm
 refine rP 5 [] (mc 0 U mn) ?_
 refine ck (t:=11) U (aN fun D=>?_) (aO fun D=>?_)
 ·refine rP 6 [] mn ?_
  refine RK A<|av<|Q1 hQ U U U ?_
  simp only [iF]
  exact cB (cy I).symm
 refine rP 6 [] (mc 0 U mn) ?_
 refine RK A<|av<|Q1 hQ U U U ?_
 simp only [iF]
 exact cB (gN.2 I)
theorem Ny (s:aa):
 eB Tryz.prog 22 [(vA (aa.cells s))] [] (vB (decide (jf s))):=by
 refine bG kr Tryz.func22 U U fun F Q hQ hN=>?_
 try dsimp only
 refine WS fun _ B=>fZ U fun E=>bk 1 U<|RK B<|WS fun _ A=>rP 4 [] (mc 0 U mn) ?_
 refine ck (t:=6) U (aN fun C=>?_) (aO fun C=>?_)
 ·refine rP 12 [] mn ?_
  refine RK A<|av<|Q1 hQ U U U ?_
  simp only [jf]
  exact cB (cy I).symm
 refine rP 7 [] (mc 0 U mn) ?_
 refine ck (t:=13) U (aN fun D=>?_) (aO fun D=>?_)
 ·refine rP 5 [] mn ?_
  refine RK A<|av<|Q1 hQ U U U ?_
  simp only [jf]
  exact cB (cy I).symm
 refine rP 5 [] (mc 0 U mn) ?_
 refine RK A<|av<|Q1 hQ U U U ?_
 simp only [jf]
 exact cB (gN.2 I)
theorem lv (la:List Int) (laA:OA) (laC:Nat) (lb:List Int) (lbA:OA) (lbC:Nat) (h1:la.length≤1000000) (h2:lb.length≤1000000):
 eB Tryz.prog 10 [(vS laA la.length laC),(vS lbA lb.length lbC)] [(rd laA la.length 1 (la.map iC)),(rd lbA lb.length 1 (lb.map iC))] (vB (decide (la=lb))):=by
 refine bG kr Tryz.func10 U U fun V Q hQ hN=>?_
 try dsimp only
 refine WS fun _ J=>bk 1 U<|RK J<|aj fun _ K=>WS fun _ L=>rP 5 [] mn ?_
 refine RK L<|cP U (bw fun hl=>?_) (bu fun hl=>?_)
 ·refine WS fun _ M=>rP 1 [] mn ?_
  refine RK M<|av<|Q1 hQ U U U ?_
  exact cB (cy (fun e=>by subst e; omega)).symm
 refine WK K<|aj fun _ N=>WS fun _ O=>rP 1 [] mn ?_
 refine RK O<|ax ?_
 have A:(0≤la.length)∧(la.take 0=lb.take 0):=by simp
 refine bJ (ι:={z:Nat // (z≤la.length)∧(la.take z=lb.take z)}) [0,1] [0,1] U U (fun z=>[(5,(vI (z.1:Int)))]) (fun z=>[]) (fun _=>rfl) (fun _=>rfl) (fun z=>la.length-z.1) ⟨0,A⟩ (aT U) (aI [0,1]) ?_
 clear A
 rintro ⟨i,⟨S,B⟩⟩ J7 AB
 try dsimp only
 refine aj fun _ P=>WS fun _ R=>rP 4 [] mn ?_
 refine RK R<|bR U (aN fun H=>?_) (aO fun H=>?_)
 ·refine bB<|ab<|ab<|ay<|KK N<|WS fun _ F=>rP 1 [] mn ?_
  refine RK F<|av<|Q1 hQ U U U ?_
  exact cB (gF (nV I B I)).symm
 refine WK P<|aj fun _ C=>ax<|aj fun _ D=>dM cE 9 kr<|dP 2 [] mn ?_
 obtain ⟨x,hx⟩:=aK la i I
 have T:=bQ iC hx
 refine dS (IA i U (aA 0 U) cK dc I I)<|dS (gl i 0 (vI x) U cp (aA 0 U) T U dc U)<|dP 2 [] mn ?_
 obtain ⟨y,hy⟩:=aK lb i I
 have AA:=bQ iC hy
 refine dS (IA i U (aA 1 U) cK dc I I)<|dS (gl i 0 (vI y) U cp (aA 1 U) AA U dc U)<|dP 1 [] mn ?_
 refine cR<|RK D<|cP U (bw fun h=>?_) (bu fun h=>?_)
 ·refine WS fun _ E=>rP 1 [] mn ?_
  refine RK E<|av<|Q1 hQ U U U ?_
  exact cB (cy (oo hx hy h)).symm
 refine ct<|aF<|KK C<|ak<|rP 3 [] mn ?_
 refine aB ?_
 have G:(vI (((i+1):Nat):Int))=(vI ((i:Int)+1)):=by exact cI I
 refine aU (AB ⟨(i+1),⟨I,uZ B hx hy h⟩⟩ _ _ _ U os (dI.cons U<|dI.cons U<|bj U G<|dI.nil _) (aI [0,1]))
end
section
open Go.RowKit
theorem wv (l:List Int) (lA:OA) (lC:Nat) (hlen:l.length≤1000000):
 lB Tryz.prog 40 [(vS lA l.length lC)] [(rd lA l.length 1 (l.map iC))] (fun (x:(OA)×Nat)=>(vS x.1 l.length x.2)) (fun (x:(OA)×Nat)=>True) (fun (x:(OA)×Nat)=>[(own x.1 x.2 3 1 (l.map iC))]):=by
 refine dh kr Tryz.func40 U U fun L Q hQ hN=>?_
 try dsimp only
 refine WS fun _ D=>bk 1 U<|RK D<|aj fun _ E=>WS fun _ F=>rP 1 [] mn ?_
 refine rS (BI U (q9 Si))<|RK F<|cP U (aO fun B=>?_) (aN fun B=>?_)
 ·refine WS fun _ G=>mO (aA 0 U) B dc fun C=>?_
  have A:l=[]:=by simpa using C
  refine dY 3 1 ?_
  rw [show (own none 0 3 1 ([]:List (List Value)))=own none 0 3 1 (l.map iC) from by rw [A]; rfl]
  refine rP 1 [] mn ?_
  refine RK G<|av ?_
  refine LX hQ (none,0) [0] [] mn U U U ?_ ?_
  ·first|rfl|(rw [A]; rfl)
  ·trivial
 refine WK E<|WS fun _ H=>lY U cK U fun J=>rP 1 [] mn ?_
 refine cW (es:=(List.map iC [])) (C':=[own (some ⟨J,0,none⟩) 0 3 1 (List.map iC []),_]) 0 U sm U (by simp [maxLen]) U ?_
 refine cL (es2:=(List.map iC l)) (m':=l.length) 0 U U U o9 U U sm (aA 1 U) (jX _) os (by first|(simp only [maxLen]; omega)|(simp [maxLen]; omega)) sm sm U fun AA K=>?_
 try dsimp only
 refine rP 1 [] mn ?_
 refine RK H<|av ?_
 refine LX hQ (AA,K) [0] [] mn U U U ?_ ?_
 ·first|rfl|(rw [A]; rfl)
 ·trivial
theorem CD (l:List Int) (lA:OA) (lC:Nat) (f:Value) (key:Int→Int) (X:aw) (hf: ∀ x0 x1,x0∈l∧x1∈l→Fb Tryz.prog f [.int .i64 x0,.int .i64 x1] [X] (.int .i64 (key x0-key x1))) (hkb: ∀ x∈l,0≤key x∧key x≤30000000) (hlen:l.length≤1000000):
 D_ Tryz.prog 162 [(vS lA l.length lC),(vI 0),(vI (l.length:Int)),f] [X] (own lA lC 3 1 (l.map iC)) (fun (x:Unit)=>(vT [])) (fun (x:Unit)=>True) (fun (x:Unit)=>(own lA lC 3 1 ((eM key l).map iC))):=by
 refine mY kr Tryz.func162 U U fun s Q hQ hN=>?_
 try dsimp only
 refine WS fun _ Z=>bk 1 U<|rS (SX (cd (r:= .int .i64 1) U U U (iq ⟨dc,dc⟩)) U U)<|rP 1 [] mn ?_
 refine RK Z<|ax ?_
 have C:(1≤1∧(1≤l.length∨1=1))∧(l.length=l.length)∧(1=1∧l=[]∨tI key l 1 l)∧(∀ x∈l,x∈l):=by exact ⟨I,rfl,Ih,fun x h=>h⟩
 refine bJ (ι:={z:Nat×(List Int) // (1≤z.1∧(z.1≤l.length∨z.1=1))∧(z.2.length=l.length)∧(z.1=1∧l=[]∨tI key l z.1 z.2)∧(∀ x∈z.2,x∈l)}) [0,1,2,3] [1] U U (fun z=>[(8,(vI (z.1.1:Int)))]) (fun z=>[(own lA lC 3 1 (z.1.2.map iC))]) (fun _=>rfl) (fun _=>rfl) (fun z=>l.length-z.1.1) ⟨(1,l),C⟩ (aT U) (aI [1,0]) ?_
 clear C
 rintro ⟨⟨i,m⟩,⟨AB,E,F,G⟩⟩ J2 L
 try dsimp only at AB E F G
 try dsimp only
 refine aj fun _ b=>WS fun _ c=>rP 3 [] mn ?_
 refine RK c<|bR U (aN fun p=>?_) (aO fun p=>?_)
 ·refine bB<|ab<|ab<|ay ?_
  rw [show m=eM key l from Jb I E F]
  refine LM hN () 1 [] mn U U U U ?_
  trivial
 refine WK b<|aj fun _ N=>ax<|WS fun _ d=>rP 2 [] mn ?_
 refine RK d<|ax ?_
 have C:(i≤i)∧(m.length=l.length)∧(∀ x∈m,x∈l)∧(CB key l i i m):=by exact ⟨Nat.le_refl _,E,G,EU I (Ok I F)⟩
 refine bJ (ι:={z:Nat×(List Int) // (z.1≤i)∧(z.2.length=l.length)∧(∀ x∈z.2,x∈l)∧(CB key l i z.1 z.2)}) [0,1,2,3,8] [0] U U (fun z=>[(9,(vI (z.1.1:Int)))]) (fun z=>[(own lA lC 3 1 (z.1.2.map iC))]) (fun _=>rfl) (fun _=>rfl) (fun z=>z.1.1) ⟨(i,m),C⟩ (aT U) (aI [0,1]) ?_
 clear C
 rintro ⟨⟨j,q⟩,⟨J,D,A,B⟩⟩ J8 Y
 try dsimp only at J D A B
 try dsimp only
 refine aj fun _ e=>aj fun _ H=>dM cE 17 kr<|dP 4 [] mn ?_
 refine jN (t:=21) U (aN fun V=>?_) (aO fun V=>?_)
 ·refine mq 13 U<|cR<|RK H<|aZ U<|bB<|ab<|ab<|ay<|aF<|KK N<|ak<|rP 3 [] mn ?_
  refine aB ?_
  refine aU (L ⟨((i+1),q),⟨I,D,.inr (by first|exact Ao I B|exact zI I B hx hy I),A⟩⟩ _ _ _ U (by simp only []; omega) (aT U) (aI [0,1]))
 refine dP 3 [] mn ?_
 obtain ⟨x,hx⟩:=aK q j I
 have K:=bQ iC hx
 refine dS (IA j U (ae (n:=l.length) 1 U sq) cK dc I I) ?_
 refine dS (gl j 0 (vI x) U cp (ae (n:=q.length) 1 U sm) K U dc U)<|dP 3 [] mn ?_
 obtain ⟨y,hy⟩:=aK q (j-1) I
 have AA:=bQ iC hy
 refine dS (IA (j-1) U (ae (n:=l.length) 1 U sq) cK dc I I) ?_
 refine dS (gl (j-1) 0 (vI y) U cp (ae (n:=q.length) 1 U sm) AA U dc U)<|dS (SX (s7 U U U (hf x y ⟨A _ (aS hx),A _ (aS hy)⟩) (bo [0])) U U)<|dP 2 [] mn ?_
 refine cR<|RK H<|bR U (aN fun W=>?_) (aO fun W=>?_)
 ·refine bB<|ab<|ab<|ay<|aF<|KK N<|ak<|rP 3 [] mn ?_
  refine aB ?_
  refine aU (L ⟨((i+1),q),⟨I,D,.inr (by first|exact Ao I B|exact zI I B hx hy I),A⟩⟩ _ _ _ U (by simp only []; omega) (aT U) (aI [0,1]))
 refine WK e<|aj fun _ M=>ax<|dK cE [15,16,17] [8,9,12,13,14] [] [0] [0,1] U U U U U<|eS U (MV U)<|eS U (MV U)<|eS U (MV U)<|eS U (MV U)<|eS U (BI U (sN ⟨I,I⟩))<|eS U (MV U)<|eS U (MV U)<|eS U (BI U (sN ⟨I,I⟩)) ?_
 refine fS U (IA (j-1) U (ae (n:=l.length) 1 U sq) cK dc I I) ?_
 refine fS U (gl (j-1) 0 (vI y) U cp (ae (n:=q.length) 1 U sm) AA U dc U)<|eS U (MV U)<|eS U (MV U) ?_
 refine fS U (IA j U (ae (n:=l.length) 1 U sq) cK dc I I) ?_
 refine fS U (gl j 0 (vI x) U cp (ae (n:=q.length) 1 U sm) K U dc U) ?_
 refine fS U (IA j U (ae (n:=l.length) 1 U sq) cK dc I I) ?_
 refine eU U<|cf U fun T14 O=>df (k:=j) (o:=0) (vs:=[(vI y)]) (es':=(List.map iC (q.set j y))) (C':=[_,(own lA lC 3 1 (List.map iC (q.set j y)))]) 1 U U U zb U U U U K U dc (by exact (List.map_set (f:=iC) (l:=q) (i:=j) (a:=y)).symm) U<|aB (O _ _ (aI [0]) ?_)
 refine cf U fun T15 P=>?_
 obtain ⟨g,T⟩:=aK (q.set j y) (j-1) os
 have hx17m:(List.map iC (q.set j y))[(j-1)]? =some (iC g):=by rw [eT,T]; rfl
 refine rS (IA (j-1) U (ae (n:=l.length) 1 U sq) cK dc I I) ?_
 refine aB (P _ _ (aI [0]) ?_)
 refine cf U fun T18 R=>df (k:=(j-1)) (o:=0) (vs:=[(vI x)]) (es':=(List.map iC ((q.set j y).set (j-1) x))) (C':=[_,(own lA lC 3 1 (List.map iC ((q.set j y).set (j-1) x)))]) 1 U U U zb U U U U hx17m U dc (by exact (List.map_set (f:=iC) (l:=(q.set j y)) (i:=(j-1)) (a:=x)).symm) U<|aB (R _ _ (aI [0]) ?_)
 refine fF U<|aF<|KK M<|ak<|rP 3 [] mn ?_
 refine aB ?_
 have S:(vI (((j-1):Nat):Int))=(vI ((j:Int)-1)):=by exact cI I
 refine aU (Y ⟨((j-1),((q.set j y).set (j-1) x)),⟨I,by simp; exact D,Jp hx hy A,IV I B hx hy I⟩⟩ _ _ _ U (by simp only []; omega) (cQ 5<|bj U S<|dI.nil _) (aI [0,1]))
theorem MB (l:List Int) (lA:OA) (lC:Nat) (f:Value) (key:Int→Int) (X:aw) (hf: ∀ x0 x1,x0∈l∧x1∈l→Fb Tryz.prog f [.int .i64 x0,.int .i64 x1] [X] (.int .i64 (key x0-key x1))) (hkb: ∀ x∈l,0≤key x∧key x≤30000000) (hlen:l.length≤12):
 D_ Tryz.prog 116 [(vS lA l.length lC),(vI (l.length:Int)),f] [X] (own lA lC 3 1 (l.map iC)) (fun (x:Unit)=>(vT [])) (fun (x:Unit)=>True) (fun (x:Unit)=>(own lA lC 3 1 ((eM key l).map iC))):=by
 refine mY kr Tryz.func116 U U fun N Q hQ hN=>?_
 try dsimp only
 refine WS fun _ C=>bk 1 U<|RK C<|WS fun _ D=>bk 3 U<|RK D<|aj fun _ E=>ax<|ki 1<|eH fun R4 M=>aj fun _ L=>WS fun _ F=>rP 3 [] mn ?_
 refine RK F<|cP U (aO fun K=>?_) (aN fun K=>?_)
 ·exfalso; omega
 refine bB<|ab<|ab<|ay<|KK E<|WS fun _ G=>rP 4 [] mn ?_
 refine jm 0 U U U U (CD l lA lC f key X (by exact hf) hkb sd) U (eu 1 U U (dT (bU _)) kJ) U (fun O J=>?_)
 try dsimp only
 refine RK G<|ax<|ki 1<|eH fun R11 AA=>aj fun _ H=>WS fun _ A=>rP 3 [] mn ?_
 refine RK A<|cP U (aO fun B=>?_) (aN fun B=>?_)
 ·exfalso; omega
 refine bB<|ab<|ab<|ay<|LM hN () 0 [] mn U U U U ?_
 trivial
theorem BA (l:List Int) (lA:OA) (lC:Nat) (f:Value) (key:Int→Int) (X:aw) (hf: ∀ x0 x1,x0∈l∧x1∈l→Fb Tryz.prog f [.int .i64 x0,.int .i64 x1] [X] (.int .i64 (key x0-key x1))) (hkb: ∀ x∈l,0≤key x∧key x≤30000000) (hlen:l.length≤12):
 D_ Tryz.prog 79 [(vS lA l.length lC),f] [X] (own lA lC 3 1 (l.map iC)) (fun (x:Unit)=>(vT [])) (fun (x:Unit)=>True) (fun (x:Unit)=>(own lA lC 3 1 ((eM key l).map iC))):=by
 refine mY kr Tryz.func79 U U fun B Q hQ hN=>?_
 try dsimp only
 refine ak<|rP 4 [] mn ?_
 refine jm 0 U U U U (MB l lA lC f key X (by exact hf) hkb hlen) U (eu 1 U U (dT (bU _)) kJ) U (fun C A=>?_)
 try dsimp only
 refine aB<|LM hN () 0 [] mn U U U U ?_
 trivial
theorem zA (l:List Int) (lA:OA) (lC:Nat) (f:Value) (key:Int→Int) (X:aw) (hf: ∀ x0 x1,x0∈l∧x1∈l→Fb Tryz.prog f [.int .i64 x0,.int .i64 x1] [X] (.int .i64 (key x0-key x1))) (hkb: ∀ x∈l,0≤key x∧key x≤30000000) (hlen:l.length≤12):
 lB Tryz.prog 42 [(vS lA l.length lC),f] [(rd lA l.length 1 (l.map iC)),X] (fun (x:(OA)×Nat)=>(vS x.1 ((eM key l).length) x.2)) (fun (x:(OA)×Nat)=>True) (fun (x:(OA)×Nat)=>[(own x.1 x.2 3 1 ((eM key l).map iC))]):=by
 refine dh kr Tryz.func42 U U fun J Q hQ hN=>?_
 try dsimp only
 refine WS fun _ B=>bk 1 U<|RK B<|WS fun _ C=>rP 1 [] mn ?_
 refine cX (wv l lA lC sd) (bo [0]) U fun AA G=>?_
 obtain ⟨E,F⟩:=AA
 try dsimp only
 refine bk 1 U<|RK C<|WS fun _ D=>rP 2 [] mn ?_
 refine jm 0 U U U U (BA l E F f key X (by exact hf) hkb hlen) U (eu 2 U U (dT (bU _)) kJ) U (fun K H=>?_)
 try dsimp only
 refine RK D<|WS fun _ A=>rP 2 [] mn ?_
 refine RK A<|av ?_
 refine LX hQ (E,F) [0] [] mn U U U ?_ ?_
 ·first|rfl|(rw [kZ]; rfl)
 ·trivial
theorem Hg (l:List Int) (lA:OA) (lC k:Nat) (hk:k≤l.length) (hlen:l.length≤1000000):
 D_ Tryz.prog 44 [(vS lA k lC)] [] (own lA lC 3 1 (l.map iC)) (fun (x:Unit)=>(vT [])) (fun (x:Unit)=>True) (fun (x:Unit)=>(own lA lC 3 1 ((sL k l).map iC))):=by
 refine mY kr Tryz.func44 U U fun V Q hQ hN=>?_
 try dsimp only
 refine WS fun _ J=>rP 5 [] mn ?_
 refine RK J<|ax ?_
 have B:(0≤k)∧(HM l k 0 l):=by exact ⟨Nat.zero_le _,Nc⟩
 have P:(vI ((k:Int)-1-(0:Int)))=(vI ((k:Int)-1)):=by exact cI I
 refine bJ (ι:={z:Nat×(List Int) // (z.1≤k)∧(HM l k z.1 z.2)}) [0] [] U U (fun z=>[(2,(vI (z.1.1:Int))),(3,(vI ((k:Int)-1-(z.1.1:Int))))]) (fun z=>[(own lA lC 3 1 (z.1.2.map iC))]) (fun _=>rfl) (fun _=>rfl) (fun z=>k-z.1.1) ⟨(0,l),B⟩ (dI.cons U<|bj U P<|dI.nil _) (aI [0]) ?_
 clear B
 rintro ⟨⟨i,m⟩,⟨C,A⟩⟩ J3 AB
 try dsimp only at C A
 try dsimp only
 have AA:=A.1
 refine aj fun _ K=>WS fun _ L=>rP 3 [] mn ?_
 refine RK L<|bR U (aN fun T=>?_) (aO fun T=>?_)
 ·refine bB<|ab<|ab<|ay ?_
  rw [show m=sL k l from Nv hk I A]
  refine LM hN () 0 [] mn U U U U ?_
  trivial
 refine WK K<|aj fun _ M=>ax<|dK cE [13,14,15] [6,7,10,11,12] [] [] [0] U U U U U<|eS U (MV U)<|eS U (MV U)<|eS U (MV U)<|eS U (MV U)<|eS U (MV U)<|eS U (MV U) ?_
 obtain ⟨y,hy⟩:=aK m ((((k:Int)-1-(i:Int))).toNat) I
 have R:=bQ iC hy
 refine fS U (SK ((((k:Int)-1-(i:Int))).toNat) U (ae (n:=m.length) 0 U sm) cK dc I I I)<|fS U (gl ((((k:Int)-1-(i:Int))).toNat) 0 (vI y) U cp (ae (n:=m.length) 0 U sm) R U dc U)<|eS U (MV U)<|eS U (MV U) ?_
 obtain ⟨x,hx⟩:=aK m i I
 have H:=bQ iC hx
 refine fS U (SK i U (ae (n:=m.length) 0 U sm) cK dc I I I)<|fS U (gl i 0 (vI x) U cp (ae (n:=m.length) 0 U sm) H U dc U)<|fS U (SK i U (ae (n:=m.length) 0 U sm) cK dc I I I)<|eU U<|cf U fun T8 N=>df (k:=i) (o:=0) (vs:=[(vI y)]) (es':=(List.map iC (m.set i y))) (C':=[(own lA lC 3 1 (List.map iC (m.set i y)))]) 0 U U U zb U U U U H U dc (by exact (List.map_set (f:=iC) (l:=m) (i:=i) (a:=y)).symm) U<|aB (N _ _ (aI []) ?_)
 refine cf U fun T9 O=>?_
 obtain ⟨S,G⟩:=aK (m.set i y) ((((k:Int)-1-(i:Int))).toNat) os
 have hx11m:(List.map iC (m.set i y))[(((k:Int)-1-(i:Int))).toNat]? =some (iC S):=by rw [eT,G]; rfl
 refine rS (SK ((((k:Int)-1-(i:Int))).toNat) U (ae (n:=(m.set i y).length) 0 U sm) cK dc I I (by simp; omega)) ?_
 refine aB (O _ _ (aI []) ?_)
 refine cf U fun T12 D=>df (k:=(((k:Int)-1-(i:Int))).toNat) (o:=0) (vs:=[(vI x)]) (es':=(List.map iC ((m.set i y).set ((((k:Int)-1-(i:Int))).toNat) x))) (C':=[(own lA lC 3 1 (List.map iC ((m.set i y).set ((((k:Int)-1-(i:Int))).toNat) x)))]) 0 U U U zb U U U U hx11m U dc (by exact (List.map_set (f:=iC) (l:=(m.set i y)) (i:=(((k:Int)-1-(i:Int))).toNat) (a:=x)).symm) U<|aB (D _ _ (aI []) ?_)
 refine fF U<|aF<|KK M<|ak<|rP 6 [] mn ?_
 refine aB ?_
 have E:(vI (((i+1):Nat):Int))=(vI ((i:Int)+1)):=by exact cI I
 have F:(vI ((k:Int)-1-(((i+1):Nat):Int)))=(vI (((k:Int)-1-(i:Int))-1)):=by exact cI I
 refine aU (AB ⟨((i+1),((m.set i y).set ((((k:Int)-1-(i:Int))).toNat) x)),⟨I,Lf hk I I A hx hy⟩⟩ _ _ _ U os (dI.cons U<|bj U E<|bj U F<|dI.nil _) (aI [0]))
end
section
open Go.RowKit
theorem KF (a b:Int) (m:g8) (gm g1:Nat) (hb: ∀ p∈m,0≤p.2.Lo∧p.2.Lo≤p.2.Hi∧p.2.Hi≤30000000):
 eB Tryz.prog 43 [(vI a),(vI b),(vP g1)] [(iP iV gm (bW ep m)),(cm g1 40 [(Value.map (some gm))])] (vI ((aD m a).Hi-(aD m b).Hi)):=by
 have A:=g_ (i:=a) hb
 have B:=g_ (i:=b) hb
 refine bG kr Tryz.func43 U U fun E Q hQ hN=>?_
 try dsimp only
 refine WS fun _ C=>bk 1 U<|RK C<|WS fun _ D=>fP 2 [] (mr 1 U mn) U<|rS (SX (lx (kV:=iV) (x:=a) (l:=m) (f:=ep) (z:=(aa.mk 0 0)) U U U oy (eZ qy) xI (by exact lF 0 U)) U U)<|rS (SX (lk (v:=(vI (((List.lookup a m).getD (aa.mk 0 0)).Hi))) U U fc By U) U U)<|rP 2 [] (mr 1 U mn) ?_
 refine rS (SX (lx (kV:=iV) (x:=b) (l:=m) (f:=ep) (z:=(aa.mk 0 0)) U U U oy (eZ qy) xI (by exact lF 0 U)) U U)<|rS (SX (lk (v:=(vI (((List.lookup b m).getD (aa.mk 0 0)).Hi))) U U fc By U) U U) ?_
 unfold aD at A B
 simp only [dL] at A B
 refine rP 2 [] mn ?_
 refine RK D<|av ?_
 exact Q1 hQ U U U U
theorem AB (heatX:Int) (r:cj) (kA:OA) (kC:Nat) (az:List RA) (cA:OA) (cC:Nat) (bA:OA) (bC:Nat) (slA:OA) (slC:Nat) (drA:OA) (drC:Nat) (ha:List cb) (heA:OA) (heC:Nat) (hin:fw r az ha):
 lB Tryz.prog 9 [(vA (cu.cells (oY r kA kC cA cC bA bC slA slC drA drC heA heC))),(vI heatX)] [(rd fx 3 2 eC),(rd kA r.an.aL.length 9 (r.an.aL.map al.cells)),(rd cA r.an.ai.length 2 (List.zipWith ar.cells r.an.ai az)),(fp (aR ar.ia r.an.ai az)),(rd bA r.an.ag.length 4 (r.an.ag.map bE.cells)),(rd slA r.aM.length 1 (r.aM.map iC)),(rd drA r.bL.length 1 (r.bL.map iC)),(rd heA r.ao.length 1 (List.zipWith cw r.ao ha)),(fp (aR iI r.ao ha))] (fun (x:(OA)×Nat)=>(vT [(vS x.1 ((gj r heatX).length) x.2),(vI (hO r heatX))])) (fun (x:(OA)×Nat)=>True) (fun (x:(OA)×Nat)=>[(own x.1 x.2 3 1 ((gj r heatX).map iC))]):=by
 have Ck:=hin.line
 have Go:=hin.iU
 have Hy:=hin.has
 have D9:=hin.iY
 have A1:=hin.draw
 have A4:=dQ (r:=r)
 refine dh kr Tryz.func9 U U fun w0 Q hQ hN=>?_
 try dsimp only
 refine WS fun _ Ci=>fZ U fun b2=>bk 2 U<|RK Ci<|BC U<|WS fun _ e=>rP 1 [] (mc 0 U mn) ?_
 refine cX (oS r kA kC az cA cC bA bC slA slC drA drC ha heA heC hin) (bo [1,2,3,4,5,6,7,8,9]) U fun y4 A5=>?_
 obtain ⟨A6,GF,B3,Bs,C1,A7,A8⟩:=y4
 cases A6
 ·obtain ⟨A2,he⟩:=A5.2 rfl
  try dsimp only at A2 he
  subst A2
  try dsimp only [cond_true,cond_false,List.cons_append,List.nil_append]
  refine bk 5 U<|RK e<|aj fun _ D2=>WS fun _ R=>rP 2 [] mn ?_
  refine RK R<|bR U (bu fun P=>?_) (bw fun P=>?_)
  ·exact absurd P he
  refine WS fun _ S=>rP 1 [] mn ?_
  have A:hO r heatX=cG r:=FD he
  have B:gj r heatX=[]:=zU (by rw [A]; exact he)
  refine dY 3 1 ?_
  rw [show (own none 0 3 1 ([]:List (List Value)))=own none 0 3 1 ((gj r heatX).map iC) from by rw [B]; rfl]
  refine rP 2 [] mn ?_
  refine RK S<|av ?_
  refine LX hQ (none,0) [0] [] mn U U U ?_ ?_
  ·first|rfl|(rw [A,B]; rfl)|(rw [A]; rfl)|(rw [A,B,kB]; rfl)
  ·trivial
 obtain ⟨he,Cx⟩:=A5.1 rfl
 try dsimp only [cond_true,cond_false,List.cons_append,List.nil_append]
 have G:=(gX he).2
 have H1:=G.x7
 have GZ:=G.yY
 refine bk 5 U<|RK e<|aj fun _ T=>WS fun _ AA=>bk 1 U<|rS (SX (cd (r:= .bool false) U U U og) U U)<|RK AA<|aZ U<|WK T<|aj fun _ V=>WS fun _ W=>rP 4 [] (mc 4 U mn) ?_
 refine dj (xs:=[.tmp 25]) (cs:=[(vI heatX)]) U cK jA U U U U (by simp [Value.cells]) U U fun BF=>?_
 refine rS (CL (eB.eq (ko 0 (r.ao.length:Int) ([heatX]) (some ⟨BF,0,none⟩) 1 sd) cZ) (aq (bf 0 U U (by simp [bH]) U)<|aJ) U) ?_
 refine rP 1 [] mn ?_
 refine RK W<|cP U (bw fun B7=>?_) (bu fun B7=>?_)
 ·refine WS fun _ X=>?_
  have A:hO r heatX=2:=FB he I
  have B:gj r heatX=[]:=zU (by rw [A]; decide)
  refine dY 3 1 ?_
  rw [show (own none 0 3 1 ([]:List (List Value)))=own none 0 3 1 ((gj r heatX).map iC) from by rw [B]; rfl]
  refine rP 2 [] mn ?_
  refine RK X<|av ?_
  refine LX hQ (none,0) [0] [] mn U U U ?_ ?_
  ·first|rfl|(rw [A,B]; rfl)|(rw [A]; rfl)|(rw [A,B,kB]; rfl)
  ·trivial
 refine WK V<|aj fun _ Y=>WS fun _ Z=>rP 2 [] mn ?_
 refine RK Z<|cP U (aO fun D=>?_) (aN fun D=>?_)
 ·refine WS fun _ b=>rP 2 [] (mc 5 U mn) ?_
  refine cX (wv r.bL drA drC sd) (bo [12]) U fun Di EQ=>?_
  obtain ⟨N,O⟩:=Di
  try dsimp only
  have A:hO r heatX=0:=rD he I
  have B:gj r heatX=r.bL:=vK A D
  rw [show (own N O 3 1 (r.bL.map iC))=(own N O 3 1 ((gj r heatX).map iC)) from by rw [vK A D]]
  refine rP 2 [] mn ?_
  refine RK b<|av ?_
  refine LX hQ (N,O) [0] [] mn U U U ?_ ?_
  ·first|rfl|(rw [A,B]; rfl)|(rw [A]; rfl)|(rw [A,B,kB]; rfl)
  ·trivial
 refine WK Y<|WS fun _ d=>?_
 obtain ⟨n,rfl⟩: ∃ n:Nat,heatX=(n:Int):=⟨heatX.toNat,I⟩
 refine rP 2 [] mn ?_
 refine cX (P7 r kA kC az cA cC bA bC slA slC drA drC ha heA heC A8 C1 A7 (Value.map (some Bs)) B3 n hin I sd (by exact G.Bg)) (mu [7,8,9,10,11,12,13,14]<|aq (ae (n:=(cT r).length) 2 U (nx (by rw [A4]; exact Cx)))<|aq (dg 3 U tU)<|fB 1 U U<|aJ) U fun C Eq=>?_
 try dsimp only
 refine AL U Sq fun AD=>IY U OS U U<|RK d<|WS fun _ g=>bk 1 U<|RK g<|aj fun _ h=>AY<|KK h<|aj fun _ j=>WS fun _ k=>rP 4 [] (mc 7 U mn) ?_
 refine RK k<|ax<|gu 3 1 ?_
 have F:(0≤r.bL.length):=by exact Nat.zero_le _
 refine bJ (ι:={z:Nat×(OA)×Nat // (z.1≤r.bL.length)}) [1,2,6,8,38,39] [1,2,5,6,7,8,9,10,11,12,13,14,15,16,17] U U (fun z=>[(9,(vS z.1.2.1 (((r.bL.take z.1.1).filter fun u=>(List.lookup u (eL r n)).isSome).length) z.1.2.2)),(40,(vI (z.1.1:Int)))]) (fun z=>[(own z.1.2.1 z.1.2.2 3 1 (((r.bL.take z.1.1).filter fun u=>(List.lookup u (eL r n)).isSome).map iC))]) (fun _=>rfl) (fun _=>rfl) (fun z=>r.bL.length-z.1.1) ⟨(0,none,0),F⟩ (aT U) (aI [1,2,5,6,7,8,9,10,11,12,13,14,15,16,17,0]) ?_
 clear F
 rintro ⟨⟨i,a,c⟩,K⟩ J38 L
 try dsimp only at K
 try dsimp only
 refine WS fun _ m=>rP 1 [] mn ?_
 refine RK m<|aj fun _ o=>bR U (aN fun B9=>?_) (aO fun B9=>?_)
 ·refine bB<|ab<|ab<|ay<|KK j<|aj fun _ v=>?_
  rw [show r.bL.take i=r.bL from List.take_of_length_le I]
  refine ak<|rP 1 [] mn ?_
  have Cp:=G4 he (show n≤r.ao.length by omega)
  have A3:=Nat.le_trans (List.length_filter_le (fun u=>(List.lookup u (eL r n)).isSome) r.bL) A1
  have GT:(eM (fun u=>(aD (eL r n) u).Hi) (r.bL.filter fun u=>(List.lookup u (eL r n)).isSome)).length≤12:=by rw [kZ]; exact A3
  refine rS (FU U) ?_
  refine cX (zA (r.bL.filter fun u=>(List.lookup u (eL r n)).isSome) a c (Value.func (.func 43) [].toArray [(vP AD)].toArray) (fun u=>(aD (eL r n) u).Hi) (fp [(iP iV C (bW ep (eL r n))),(cm AD 40 [(Value.map (some C))])]) (by intro C2 C3 _; exact od (fi:=[]) (ca:=[(vP AD)]) (mE (KF C2 C3 (eL r n) C AD (by first|assumption|omega)) (bo [0,1]))) (by exact Uc Cp) (by exact A3)) (aq (ae (n:=(r.bL.filter fun u=>(List.lookup u (eL r n)).isSome).length) 15 U sm)<|aq (mH (bo [1,0]))<|aJ) U fun Do FS=>?_
  obtain ⟨H,J⟩:=Do
  try dsimp only
  refine bk 1 U<|RK v<|WS fun _ w=>rP 5 [] (mc 6 U mn) ?_
  refine rS (MN U)<|Jk 0 U fun A0=>?_
  simp only [List.length_map] at A0
  refine rS (VT (((min r.im (((eM (fun u=>(aD (eL r n) u).Hi) (r.bL.filter fun u=>(List.lookup u (eL r n)).isSome)).length:Nat):Int))).toNat) U cK I (by first|omega|exact Nat.zero_le _|(simp; omega))) ?_
  refine jm 0 U U U U (Hg (eM (fun u=>(aD (eL r n) u).Hi) (r.bL.filter fun u=>(List.lookup u (eL r n)).isSome)) H J (((min r.im (((eM (fun u=>(aD (eL r n) u).Hi) (r.bL.filter fun u=>(List.lookup u (eL r n)).isSome)).length:Nat):Int))).toNat) I I) U kJ U (fun IR Fd=>?_)
  try dsimp only
  refine RK w<|WS fun _ y=>rP 1 [] mn ?_
  have A:hO r (n:Int)=0:=rD he I
  have B:gj r (n:Int)=(sL (((min r.im (((eM (fun u=>(aD (eL r n) u).Hi) (r.bL.filter fun u=>(List.lookup u (eL r n)).isSome)).length:Nat):Int))).toNat) (eM (fun u=>(aD (eL r n) u).Hi) (r.bL.filter fun u=>(List.lookup u (eL r n)).isSome))):=by rw [wb A D]; exact (z3 rfl I).symm
  rw [show (own H J 3 1 ((sL (((min r.im (((eM (fun u=>(aD (eL r n) u).Hi) (r.bL.filter fun u=>(List.lookup u (eL r n)).isSome)).length:Nat):Int))).toNat) (eM (fun u=>(aD (eL r n) u).Hi) (r.bL.filter fun u=>(List.lookup u (eL r n)).isSome))).map iC))=(own H J 3 1 ((gj r (n:Int)).map iC)) from by rw [wb A D]; exact congrArg (fun z=>own _ _ _ _ (List.map iC z)) (z3 rfl I)]
  refine rP 2 [] mn ?_
  refine RK y<|av ?_
  refine LX hQ (H,J) [0] [] mn U U U ?_ ?_
  ·first|rfl|(rw [A,B]; rfl)|(rw [A]; rfl)|(rw [A,B,kB]; rfl)
  ·trivial
 refine WK o<|aj fun _ M=>ax<|WS fun _ p=>?_
 obtain ⟨x,hx⟩:=aK r.bL i I
 have C0:=bQ iC hx
 refine rS (IA i U (aA 12 U) cK dc I I)<|rS (gl i 0 (vI x) U cp (aA 12 U) C0 U dc U)<|bk 1 U<|RK p<|aj fun _ q=>WS fun _ s=>fP 2 [] (mc 0 U mn) U<|rS (SX (lf (kV:=iV) (x:=x) (l:=(eL r n)) (f:=ep) (z:=(aa.mk 0 0)) U U U oy (eZ qy) xI (by exact aA 1 U)) U U)<|bk 3 U<|AL U dA fun Fn=>gd U cz U<|bk 1 U<|RK s<|WS fun _ t=>rP 2 [] mn ?_
 refine RK t<|cP U (fun E=>?_) (fun E=>?_)
 ·rw [Bool.not_eq_true'] at E
  refine bB<|ab<|ay<|KK M<|ak<|rP 2 [] mn ?_
  refine aB ?_
  rw [show ((r.bL.take i).filter fun u=>(List.lookup u (eL r n)).isSome)=((r.bL.take (i+1)).filter fun u=>(List.lookup u (eL r n)).isSome) from (F8 hx E).symm]
  have AC:(vI (((i+1):Nat):Int))=(vI ((i:Int)+1)):=by exact cI I
  refine aU (L ⟨((i+1),a,c),(by first|omega|(simp only []; omega))⟩ _ _ _ U os (cQ 7<|bj U AC<|dI.nil _) (aI [1,2,3,4,5,6,7,8,9,10,11,12,13,14,15,16]))
 rw [Bool.not_eq_false'] at E
 refine WK q<|ak<|rP 2 [] mn ?_
 refine dj (xs:=[.tmp 53]) (cs:=[(vI x)]) U cK jA U U U U (by simp [Value.cells]) U U fun GE=>?_
 refine cL (es2:=(List.map iC ((r.bL.take (i+1)).filter fun u=>(List.lookup u (eL r n)).isSome))) (m':=((r.bL.take (i+1)).filter fun u=>(List.lookup u (eL r n)).isSome).length) 17 U U U o9 U U sm (bf (es:=List.map iC [x]) 0 U U (by simp [bH]) U) (jX _) (by have:=List.length_filter_le (fun u=>(List.lookup u (eL r n)).isSome) (r.bL.take i); rw [List.length_take] at this; first|omega|(simp; omega)) (by have:=List.length_filter_le (fun u=>(List.lookup u (eL r n)).isSome) (r.bL.take i); rw [List.length_take] at this; simp only [maxLen]; first|omega|(simp; omega)) (by rw [xJ hx E]; simp) sm U fun A9 Bb=>?_
 try dsimp only
 refine bk 1 U<|aB<|aF<|KK M<|ak<|rP 2 [] mn ?_
 refine aB ?_
 have AO:(vI (((i+1):Nat):Int))=(vI ((i:Int)+1)):=by exact cI I
 refine aU (L ⟨((i+1),A9,Bb),(by first|omega|(simp only []; omega))⟩ _ _ _ U os (cQ 7<|bj U AO<|dI.nil _) (aI [2,3,4,5,6,7,8,9,10,11,12,13,14,15,16,17]))
end
section
open Go.RowKit
theorem JU (m:g8) (gm g1:Nat):
 FF Tryz.prog 86 [] [(vP g1)] [(iP iV gm (bW ep m)),(cm g1 40 [(Value.map (some gm))])] ([]:List Int) (fun ys x ys'=> ∃ n zs,(ys++[n]++zs).Perm (m.map (·.1))∧x=[vI n]∧ys'=ys++[n]) (fun ys=>ys.Perm (m.map (·.1))):=by
 refine tM kr Tryz.func86 U U fun l J Z A0 S Q hY M L hQ hN=>?_
 try dsimp only
 refine WS fun _ O=>rP 1 [] (mr 2 U mn) ?_
 refine j4 (kV:=iV) (m:=bW ep m) 1 U U oy U ⟨U,fun h=>h⟩ (by exact lF 1 U) U fun V=>?_
 try dsimp only
 refine RK O<|ax ?_
 have G:(o1 m m ([]:List Int))∧(∀ p∈m,p∈m)∧(J ([]:List Int) A0)∧(Fo A0 S A0):=by exact ⟨v8,fun p hp=>hp,M,L⟩
 refine bJ (ι:={z:g8×(List Int)×aw // (o1 m z.1 z.2.1)∧(∀ p∈z.1,p∈m)∧(J z.2.1 z.2.2)∧(Fo A0 S z.2.2)}) [0,1,5] [2,3] U U (fun z=>[]) (fun z=>[(zm iV V gm (bW ep m) (bW ep z.1.1) none),z.1.2.2]) (fun _=>rfl) (fun _=>rfl) (fun z=>z.1.1.length) ⟨(m,([]:List Int),A0),G⟩ (dI.nil _) (aI [2,3,0,1]) ?_
 clear G
 rintro ⟨⟨left,ys,A⟩,⟨B,H,C,D⟩⟩ J3 N
 try dsimp only at B H C D
 try dsimp only
 refine WS fun _ AB=>jB (eZ qy).inj (f:=ep) 2 U U U U (fun T=>?_) (fun x y hm hn=>?_)
 ·refine rP 1 [] mn ?_
  refine RK AB<|aj fun _ AA=>aZ U<|bB<|ab<|ab<|ay ?_
  refine hN _ _ _ (iu (vs:=[]) trivial fun w hs=>MT 3 U (by rw [T] at B; exact yi B) C D hs)
 try dsimp only
 refine bk 1 U<|RK AB<|aj fun _ P=>aQ U<|WK P<|ax<|WS fun _ R=>rS (SX (jD 2 U U U) U U)<|bk 2 U<|RK R<|WS fun _ K=>rP 2 [] mn ?_
 refine kR (k:=ys) (k':=(ys++[(x)])) 3 (by first|exact hsz|exact Nat.le_refl _) hY C D U U U (by exact ⟨x,_,oK hn hm B,U,U⟩) U U (fun B9 F E=>?_) (fun B9 F E=>?_)
 rotate_left 1
 ·refine rP 1 [] mn ?_
  refine RK K<|aQ U<|av ?_
  refine hQ _ _ _ (iu (vs:=[]) trivial fun w hs=>sI 3 U F E hs)
 refine rP 1 [] mn ?_
 refine RK K<|aZ U<|ct<|aF<|ij 2 U fQ U ?_
 refine aU (N ⟨((cH left x),(ys++[(x)]),B9),⟨oK hn hm B,gp H,F,E⟩⟩ _ _ _ U (fh hm) (aT U) (aI [0,1,2,3]))
theorem GO (gm:Nat):
 lB Tryz.prog 52 [(Value.map (some gm))] [] (fun (x:Nat)=>(Value.func (.func 86) [].toArray [(vP x)].toArray)) (fun (x:Nat)=>True) (fun (x:Nat)=>[(cm x 40 [(Value.map (some gm))])]):=by
 refine dh kr Tryz.func52 U U fun D Q hQ hN=>?_
 try dsimp only
 refine WS fun _ A=>ve U U fun C=>bk 1 U<|RK A<|WS fun _ B=>rS (FU U)<|rP 1 [] mn ?_
 refine RK B<|av<|LX hQ C [0] [] mn U U U U ?_
 trivial
end
section
open Go.RowKit
theorem Hm (m:g8) (gm g1:Nat) (hlen:m.length≤12):
 lB Tryz.prog 120 [(vS none 0 0),(Value.func (.func 86) [].toArray [(vP g1)].toArray)] [(iP iV gm (bW ep m)),(cm g1 40 [(Value.map (some gm))])] (fun (x:(List Int)×(OA)×Nat)=>(vS x.2.1 x.1.length x.2.2)) (fun (x:(List Int)×(OA)×Nat)=>x.1.Perm (m.map (·.1))) (fun (x:(List Int)×(OA)×Nat)=>[(own x.2.1 x.2.2 3 1 (x.1.map iC))]):=by
 refine dh kr Tryz.func120 U U fun X Q hQ hN=>?_
 try dsimp only
 refine WS fun _ AB=>ve U U fun N=>bk 1 U<|RK AB<|aj fun _ J=>WS fun _ K=>rP 1 [] mn ?_
 refine RK K<|ax<|k6 1 U (by exact fun _ h=>h)<|k6 3 U (by exact fun _ h=>h)<|gu 3 1 ?_
 refine oi (L0:=[(2,(vP N))]) (F:=[(iP iV gm (bW ep m)).ro,(cm g1 40 [(Value.map (some gm))]).ro]) (fun k (y:(OA)×Nat)=>(∃ zs,(k++zs).Perm (m.map (·.1)))) (fun k y=>[(own y.1 y.2 3 1 (k.map iC)),(cm N 29 [(vS y.1 k.length y.2)]),(iP iV gm (bW ep m)).ro]) (fun _ (_:Unit)=>False) (fun _ _=>[]) [0,3,4] [2,1] (none,0) rfl rfl (JU m gm g1) rfl rfl rfl (by exact ⟨_,List.Perm.refl _⟩) (by simp only [List.forall_mem_cons,List.not_mem_nil,false_imp_iff,implies_true,and_true]; exact ⟨⟨_,sm,(dT (bU _))⟩,⟨_,sm,(dT (bU _))⟩⟩) (by rintro k x AA ⟨n,zs,_,rfl,_⟩; rfl) rfl (aT rfl) ?_ ?_ (fun _ _ _ h=>h.elim) (fun _ _ h=>h.elim)
 rotate_left 1
 ·rintro V k ⟨a,c⟩ E A
  have B:=A
  try dsimp only at B
  try dsimp only
  refine aF<|KK J<|WS fun _ C=>rP 2 [] (mc 4 U mn) ?_
  refine RK C<|av<|hQ _ _ _ (o4 0 U U<|iu (vs:=[(vS a k.length c)]) ⟨U,trivial⟩ fun w hs=>Ke (k,a,c) [3] ?_ ?_ U U U hs)
  ·rfl
  ·first|exact E|exact hys
 rintro k x AA ⟨a,c⟩ l ra rb S Y K5 Qr6 T hx G L D O P
 obtain ⟨n,zs,hn,rfl,rfl⟩:=hx; have M:=hn.length_eq; simp only [List.length_append,List.length_map,List.length_singleton] at M
 have B:=G
 try dsimp only at B
 try dsimp only
 refine ak<|rP 1 [] mn ?_
 refine aB<|aU (L _ _ ?_)
 refine ax<|ak<|rP 2 [] (mc 2 U mn) ?_
 refine dj (xs:=[.tmp 9]) (cs:=[(vI n)]) U cK jA U U U U (by simp [Value.cells]) U U fun W=>?_
 refine cL (es2:=(List.map iC (k++[n]))) (m':=(k++[n]).length) 2 U U U o9 U U sm (bf (es:=List.map iC [n]) 0 U U (by simp [bH]) U) (jX _) os (by simp only [maxLen]; omega) sm sm U fun R H=>?_
 try dsimp only
 refine VD U xy U U<|aB<|aF ?_
 exact D (R,H) _ _ (by exact ⟨_,hn⟩) (aI [1,2,3,4])
end
section
open Go.RowKit
theorem EV (m:g8) (gm g1:Nat) (hlen:m.length≤12):
 lB Tryz.prog 85 [(Value.func (.func 86) [].toArray [(vP g1)].toArray)] [(iP iV gm (bW ep m)),(cm g1 40 [(Value.map (some gm))])] (fun (x:(List Int)×(OA)×Nat)=>(vS x.2.1 x.1.length x.2.2)) (fun (x:(List Int)×(OA)×Nat)=>x.1.Perm (m.map (·.1))) (fun (x:(List Int)×(OA)×Nat)=>[(own x.2.1 x.2.2 3 1 (x.1.map iC))]):=by
 refine dh kr Tryz.func85 U U fun AA Q hQ hN=>?_
 try dsimp only
 refine WS fun _ A=>bk 1 U<|RK A<|WS fun _ B=>rP 1 [] mn ?_
 refine cX (Hm m gm g1 hlen) (bo [0,1]) U fun H C=>?_
 obtain ⟨E,F,G⟩:=H
 try dsimp only
 have D:=C
 refine rP 1 [] mn ?_
 refine RK B<|av<|LX hQ (E,F,G) [0] [] mn U U U U ?_
 first|exact hfin|exact D
theorem Ak (m:g8) (gm g1:Nat) (hlen:m.length≤12):
 lB Tryz.prog 51 [(Value.func (.func 86) [].toArray [(vP g1)].toArray)] [(iP iV gm (bW ep m)),(cm g1 40 [(Value.map (some gm))])] (fun (x:(OA)×Nat)=>(vS x.1 m.length x.2)) (fun (x:(OA)×Nat)=>True) (fun (x:(OA)×Nat)=>[(own x.1 x.2 3 1 ((dE (m.map (·.1))).map iC))]):=by
 refine dh kr Tryz.func51 U U fun M Q hQ hN=>?_
 try dsimp only
 refine WS fun _ E=>bk 1 U<|RK E<|WS fun _ F=>rP 1 [] mn ?_
 refine cX (EV m gm g1 hlen) (bo [0,1]) U fun L H=>?_
 obtain ⟨AA,J,K⟩:=L
 try dsimp only
 have D:=H
 refine bk 1 U<|RK F<|WS fun _ G=>rP 1 [] mn ?_
 have B:=D.length_eq
 simp only [List.length_map] at B
 refine jm 0 U U U U (Bp AA J K sd) U kJ U (fun ms C=>?_)
 try dsimp only
 refine RK G<|WS fun _ A=>?_
 obtain rfl:=re (C.1.trans D) C.2
 skip
 refine rP 2 [] mn ?_
 refine RK A<|av ?_
 refine LX hQ (J,K) [0] [] mn U U U ?_ ?_
 ·first|rfl|(rw [B]; rfl)
 ·trivial
end
section
open Go.RowKit
theorem Kj (a b:Int) (r:cj) (kA:OA) (kC:Nat) (cA:OA) (cC:Nat) (bA:OA) (bC:Nat) (slA:OA) (slC:Nat) (drA:OA) (drC:Nat) (heA:OA) (heC:Nat) (tA:OA) (tN tC:Nat) (gs gw:Nat) (m:g8) (g1:Nat) (hb: ∀ p∈m,0≤p.2.Lo∧p.2.Lo≤p.2.Hi∧p.2.Hi≤30000000):
 eB Tryz.prog 53 [(vI a),(vI b),(vP g1)] [(cm gw 112 (gh.cells (gh.mk (oY r kA kC cA cC bA bC slA slC drA drC heA heC) (bp.mk tA tN tC) (Value.map (some gs))))),(iP iV gs (bW ep m)),(cm g1 94 [(vP gw)])] (vI ((aD m a).Lo-(aD m b).Lo)):=by
 have A:=g_ (i:=a) hb
 have B:=g_ (i:=b) hb
 refine bG kr Tryz.func53 U U fun E Q hQ hN=>?_
 try dsimp only
 refine WS fun _ C=>bk 1 U<|RK C<|aj fun _ D=>dM cE 16 kr<|m_ 1 [] (mr 2 U mn) U<|dS (SX (bO U U) U U)<|m_ 3 [] (mr 0 U mn) U<|dS (SX (lx (kV:=iV) (x:=a) (l:=m) (f:=ep) (z:=(aa.mk 0 0)) U U U oy (eZ qy) xI (by exact lF 1 U)) U U)<|dS (SX (lk (v:=(vI (((List.lookup a m).getD (aa.mk 0 0)).Lo))) U U fc AZ U) U U)<|m_ 1 [] (mr 2 U mn) U<|dS (SX (bO U U) U U)<|dP 3 [] (mr 0 U mn) ?_
 refine dS (SX (lx (kV:=iV) (x:=b) (l:=m) (f:=ep) (z:=(aa.mk 0 0)) U U U oy (eZ qy) xI (by exact lF 1 U)) U U)<|dS (SX (lk (v:=(vI (((List.lookup b m).getD (aa.mk 0 0)).Lo))) U U fc AZ U) U U) ?_
 unfold aD at A B
 simp only [dL] at A B
 refine dP 2 [] mn ?_
 refine cR<|RK D<|av ?_
 exact Q1 hQ U U U U
theorem wy (r:cj) (kA:OA) (kC:Nat) (az:List RA) (cA:OA) (cC:Nat) (bA:OA) (bC:Nat) (slA:OA) (slC:Nat) (drA:OA) (drC:Nat) (ha:List cb) (heA:OA) (heC:Nat) (hin:fw r az ha):
 lB Tryz.prog 17 [(vA (cu.cells (oY r kA kC cA cC bA bC slA slC drA drC heA heC)))] [(rd fx 3 2 eC),(rd kA r.an.aL.length 9 (r.an.aL.map al.cells)),(rd cA r.an.ai.length 2 (List.zipWith ar.cells r.an.ai az)),(fp (aR ar.ia r.an.ai az)),(rd bA r.an.ag.length 4 (r.an.ag.map bE.cells)),(rd slA r.aM.length 1 (r.aM.map iC)),(rd drA r.bL.length 1 (r.bL.map iC)),(rd heA r.ao.length 1 (List.zipWith cw r.ao ha)),(fp (aR iI r.ao ha))] (fun (x:(List RA)×(OA)×Nat)=>(vT [(vS x.2.1 ((dy r).length) x.2.2),(vI (cG r))])) (fun (x:(List RA)×(OA)×Nat)=>x.1.length=(dy r).length) (fun (x:(List RA)×(OA)×Nat)=>[(own x.2.1 x.2.2 29 1 (List.zipWith nI (dy r) x.1)),(br (aR tx (dy r) x.1))]):=by
 have Hy:=hin.line
 have LT:=hin.iU
 have La:=hin.has
 have J3:=hin.iY
 have JO:=hin.draw
 have J4:=dQ (r:=r)
 refine dh kr Tryz.func17 U U fun w0 Q hQ hN=>?_
 try dsimp only
 refine WS fun _ GE=>fZ U fun b2=>bk 2 U<|RK GE<|WS fun _ A0=>rP 1 [] (mc 0 U mn) ?_
 refine cX (oS r kA kC az cA cC bA bC slA slC drA drC ha heA heC hin) (bo [1,2,3,4,5,6,7,8,9]) U fun y4 Di=>?_
 obtain ⟨Do,K8,X,O,D2,W,J8⟩:=y4
 cases Do
 ·obtain ⟨C1,he⟩:=Di.2 rfl
  try dsimp only at C1 he
  subst C1
  try dsimp only [cond_true,cond_false,List.cons_append,List.nil_append]
  refine bk 3 U<|AL U Ui fun KC=>IY U SI U U<|bk 1 U<|RK A0<|aj fun _ JN=>WS fun _ p=>rP 2 [] mn ?_
  refine RK p<|bR U (bu fun g=>?_) (bw fun g=>?_)
  ·exact absurd g he
  refine WS fun _ s=>rP 1 [] mn ?_
  have E:dy r=[]:=DS he
  have Z:([]:List RA).length=(dy r).length:=by rw [E]; rfl
  refine dY 29 1<|xG ?_
  rw [show (own none 0 29 1 ([]:List (List Value)))=own none 0 29 1 (List.zipWith nI (dy r) []) from by rw [E]; rfl,show br []=br (aR tx (dy r) []) from by rw [E]; rfl]
  refine rP 2 [] mn ?_
  refine RK s<|av ?_
  refine LX hQ ([],none,0) [1,0] [] mn U (by show List.all _ _=true; simp only [fm,List.all_nil,JL,Bool.and_true]; rfl) U ?_ ?_
  ·first|rfl|(rw [E]; rfl)|(rw [he,← E,List.length_map]; rfl)|(rw [he,E]; rfl)
  ·exact Z
 obtain ⟨he,Lk⟩:=Di.1 rfl
 try dsimp only [cond_true,cond_false,List.cons_append,List.nil_append]
 have AB:=oZ he
 have J2:=pD he
 refine bk 3 U<|AL U Ui fun R=>IY U SI U U<|bk 1 U<|RK A0<|aj fun _ t=>WS fun _ v=>bk 1 U<|rS (SX (cd (r:= .bool false) U U U og) U U)<|RK v<|aZ U<|WK t<|WS fun _ w=>bk 1 U<|RK w<|WS fun _ y=>bk 1 U<|RK y<|aj fun _ AC=>WS fun _ AO=>fP 1 [] (mc 0 U mn) U<|rS (SX (bO U U) U U)<|rP 2 [] (mc 1 U mn) ?_
 refine cX (GO O) (aJ) U fun Eq J5=>?_
 try dsimp only
 refine cX (Ak (aG r) O Eq sd) (bo [5,0]) U fun If J6=>?_
 obtain ⟨EQ,FS⟩:=If
 try dsimp only
 rw [show (aG r).length=(dE ((aG r).map (·.1))).length from by rw [gL,List.length_map]]
 refine rS (FU U) ?_
 refine cX (zA (dE ((aG r).map (·.1))) EQ FS (Value.func (.func 53) [].toArray [(vP R)].toArray) (fun u=>(aD (aG r) u).Lo) (fp [(cm X 112 (gh.cells (gh.mk (oY r kA kC cA cC bA bC slA slC drA drC heA heC) (bp.mk D2 ((cT r).length) W) (Value.map (some O))))),(iP iV O (bW ep (aG r))),(cm R 94 [(vP X)])]) (by intro IR Id _; exact od (fi:=[]) (ca:=[(vP R)]) (mE (Kj IR Id r kA kC cA cC bA bC slA slC drA drC heA heC D2 ((cT r).length) W O X (aG r) R (by first|assumption|omega)) (OC 0 1 2 U U U U U U))) (by exact SH AB) (by rw [gL,List.length_map]; omega)) (aq (ae (n:=(dE ((aG r).map (·.1))).length) 0 U sm)<|aq (mH (OC 3 6 2 U U U U U U))<|aJ) U fun In J7=>?_
 obtain ⟨J9,K5⟩:=In
 try dsimp only
 have Li:(eM (fun u=>(aD (aG r) u).Lo) (dE ((aG r).map (·.1)))).length=(aG r).length:=by rw [kZ,gL,List.length_map]
 have C3:Ec (fun u=>(aD (aG r) u).Lo) (eM (fun u=>(aD (aG r) u).Lo) (dE ((aG r).map (·.1)))):=uN
 refine rP 2 [] mn ?_
 refine RK AO<|ax<|gu 29 1<|l9 ?_
 have H:(0≤(eM (fun u=>(aD (aG r) u).Lo) (dE ((aG r).map (·.1)))).length)∧(([]:List RA).length=([]:List (List Int)).length)∧(mQ (aD (aG r)) ((eM (fun u=>(aD (aG r) u).Lo) (dE ((aG r).map (·.1)))).take 0) ([]:List (List Int)) (-1))∧(-1≤(-1)∧(-1)≤30000000):=by exact ⟨Nat.zero_le _,rfl,Gz,I⟩
 refine bJ (ι:={z:Nat×(List (List Int))×(List RA)×(OA)×Nat×Int // (z.1≤(eM (fun u=>(aD (aG r) u).Lo) (dE ((aG r).map (·.1)))).length)∧(z.2.2.1.length=z.2.1.length)∧(mQ (aD (aG r)) ((eM (fun u=>(aD (aG r) u).Lo) (dE ((aG r).map (·.1)))).take z.1) z.2.1 z.2.2.2.2.2)∧(-1≤z.2.2.2.2.2∧z.2.2.2.2.2≤30000000)}) [1,4,29,30] [2,3,5,6,7,8,9,11,12,13,14,15,16,17,18,19] U U (fun z=>[(6,(vS z.1.2.2.2.1 z.1.2.1.length z.1.2.2.2.2.1)),(7,(vI z.1.2.2.2.2.2)),(31,(vI (z.1.1:Int)))]) (fun z=>[(br (aR tx z.1.2.1 z.1.2.2.1)),(own z.1.2.2.2.1 z.1.2.2.2.2.1 29 1 (List.zipWith nI z.1.2.1 z.1.2.2.1))]) (fun _=>rfl) (fun _=>rfl) (fun z=>(eM (fun u=>(aD (aG r) u).Lo) (dE ((aG r).map (·.1)))).length-z.1.1) ⟨(0,([]:List (List Int)),([]:List RA),none,0,(-1)),H⟩ (aT U) (aI [2,3,5,6,7,8,9,11,12,13,14,15,16,17,18,19,0,1]) ?_
 clear H
 rintro ⟨⟨i,G,gz,a,c,last⟩,⟨b,C,A,d⟩⟩ J37 T
 try dsimp only at b C A d
 try dsimp only
 have GT:G.length≤12:=by have:=Gw A; omega
 have LA:(G++[([]:List Int)]).length=G.length+1:=by simp
 have Jc:(gz++[((none,0):RA)]).length=gz.length+1:=by simp
 refine WS fun _ A1=>rP 1 [] mn ?_
 refine RK A1<|aj fun _ A2=>bR U (aN fun Fd=>?_) (aO fun Fd=>?_)
 ·refine bB<|ab<|ab<|ay<|KK AC<|aj fun _ BF=>aj fun _ Bb=>?_
  have GT:G.length≤12:=by have:=Gw A; omega
  refine ak<|rP 3 [] mn ?_
  refine RK Bb<|ax ?_
  have H:(0≤G.length):=by exact Nat.zero_le _
  refine bJ (ι:={z:Nat // (z≤G.length)}) [1,6,66,67] [0,1,3,4,5,6,7,8,9,10,11,12,13,14,15,17] U U (fun z=>[(68,(vI (z.1:Int)))]) (fun z=>[(br (aR tx (nY G z.1) gz))]) (fun _=>rfl) (fun _=>rfl) (fun z=>G.length-z.1) ⟨0,H⟩ (aT U) (aI [0,1,3,4,5,6,7,8,9,10,11,12,13,14,15,17,16]) ?_
  clear H
  rintro ⟨j,D9⟩ J65 h
  try dsimp only
  refine WS fun _ Bg=>rP 1 [] mn ?_
  refine RK Bg<|aj fun _ Bs=>bR U (aN fun Fn=>?_) (aO fun Fn=>?_)
  ·refine bB<|ab<|ab<|ay<|KK BF<|aj fun _ B9=>?_
   have Go:G.length≤j:=by omega
   have Y:=vR A.ok
   rw [List.take_of_length_le I] at Y
   have E:G.map dE=dy r:=uE he (qI Y.1 (qG.trans fT)) Y.2
   have Z:gz.length=(dy r).length:=by rw [← E,List.length_map]; omega
   rw [Fk Go,E,← MD,E]
   refine ak<|bk 1 U<|rP 2 [] mn ?_
   refine RK B9<|av ?_
   refine LX hQ (gz,a,c) [15,16] [] mn U (by show List.all _ _=true; simp only [fm,List.all_nil,JL,Bool.and_true]; rfl) U ?_ ?_
   ·first|rfl|(rw [E]; rfl)|(rw [he,← E,List.length_map]; rfl)|(rw [he,E]; rfl)
   ·exact Z
  refine WK Bs<|aj fun _ B3=>ax<|aj fun _ B7=>?_
  obtain ⟨cg,B⟩:=aK G j I
  obtain ⟨cga,D⟩:=aK gz j I
  have F:(List.zipWith nI G gz)[j]? =some (nI cg cga):=dB B D
  refine Ef (f:=tx) 16 (Hv B) D U U U ?_
  try dsimp only
  refine ak<|rS (IA j U (ae (n:=G.length) 17 U (kv C)) pK dc I I)<|rS (gl j 0 (vS cga.1 cg.length cga.2) U cp (ae (n:=G.length) 17 U (kv C)) F U dc U)<|bk 1 U<|RK B7<|ak<|rP 1 [] mn ?_
  refine jm 0 U U U U (Bp cg cga.1 cga.2 (by have:=AP A (aS B); omega)) U kJ U (fun msrt C2=>?_)
  try dsimp only
  refine aB<|aF<|KK B3<|ak<|rP 2 [] mn ?_
  refine aB ?_
  obtain rfl:=re C2.1 C2.2
  refine Ox (f:=tx) (ms:=nY G j) (m:=dE cg) 1 0 (by rw [EO]; omega) D U U U ?_
  rw [E0 B]
  have C0:(vI (((j+1):Nat):Int))=(vI ((j:Int)+1)):=by exact cI I
  refine aU (h ⟨(j+1),(by first|omega|(simp only []; omega))⟩ _ _ _ U os (cQ 4<|bj U C0<|dI.nil _) (aI [1,2,3,4,5,6,7,8,9,10,11,12,13,14,15,16,0]))
 refine WK A2<|aj fun _ AA=>ax<|WS fun _ A3=>?_
 obtain ⟨x,hx⟩:=aK (eM (fun u=>(aD (aG r) u).Lo) (dE ((aG r).map (·.1)))) i I
 have IO:=bQ iC hx
 refine rS (IA i U (ae (n:=(eM (fun u=>(aD (aG r) u).Lo) (dE ((aG r).map (·.1)))).length) 0 U sm) cK dc I I)<|rS (gl i 0 (vI x) U cp (ae (n:=(eM (fun u=>(aD (aG r) u).Lo) (dE ((aG r).map (·.1)))).length) 0 U sm) IO U dc U)<|bk 1 U<|RK A3<|WS fun _ A4=>fP 1 [] (mc 2 U mn) U<|rS (SX (bO U U) U U)<|rP 2 [] (mc 3 U mn) ?_
 have H1:=g_ (i:=x) AB
 refine rP 1 [] mn ?_
 refine rS (SX (lx (kV:=iV) (x:=x) (l:=(aG r)) (f:=ep) (z:=(aa.mk 0 0)) U U U oy (eZ qy) xI (by exact aA 6 U)) U U)<|AL U dA fun KR=>gd U cz U<|RK A4<|aj fun _ V=>WS fun _ A5=>?_
 rw [show ((List.lookup x (aG r)).getD (aa.mk 0 0))=(aD (aG r) x) from rfl]
 refine rP 4 [] (mc 0 U mn) ?_
 refine RK A5<|bR U (aN fun N=>?_) (aO fun N=>?_)
 ·refine WK V<|aj fun _ A8=>?_
  have LE:1≤G.length:=F3 H1.1 A N
  refine ak<|rP 4 [] mn ?_
  refine RK A8<|aj fun _ A9=>?_
  have GZ:(G.length-1)<G.length:=by first|omega|(simp; done)
  obtain ⟨cg,B⟩:=aK G (G.length-1) I
  obtain ⟨cga,D⟩:=aK gz (G.length-1) I
  have F:(List.zipWith nI G gz)[(G.length-1)]? =some (nI cg cga):=dB B D
  refine Ef (f:=tx) 17 B D U U U ?_
  try dsimp only
  refine ak<|bk 4 U<|rS (IA (G.length-1) U (ae (n:=G.length) 19 U (kv C)) pK dc I I)<|rS (gl (G.length-1) 0 (vS cga.1 cg.length cga.2) U cp (ae (n:=G.length) 19 U (kv C)) F U dc U)<|rP 1 [] mn ?_
  have GF:cg.length≤12:=(dN.1 (show cg∈G++[[]] from by first|exact aS B|exact List.mem_append_left _ (aS B))).elim (fun q=>by have:=AP A q; omega) (fun q=>by simp at q; subst q; simp)
  refine dj (xs:=[.tmp 57]) (cs:=[(vI x)]) U cK jA U U U U (by simp [Value.cells]) U U fun K4=>?_
  refine cL (es2:=(List.map iC (cg++[x]))) (m':=(cg++[x]).length) 1 U U U o9 U U sm (bf (es:=List.map iC [x]) 0 U U (by simp [bH]) U) (jX _) os (by first|(simp only [maxLen]; omega)|(simp [maxLen]; omega)) sm sm U fun K M=>?_
  try dsimp only
  refine rS (IA (G.length-1) U (ae (n:=G.length) 20 U (kv C)) pK dc I I)<|df (k:=(G.length-1)) (o:=0) (vs:=[(vS K ((cg++[x]).length) M)]) (es':=(List.zipWith nI (G.set (G.length-1) (cg++[x])) (gz.set (G.length-1) (K,M)))) (C':=[_,_,_,_,_,_,_,_,_,_,_,_,_,_,_,_,_,_,_,_,(own a c 29 1 (List.zipWith nI (G.set (G.length-1) (cg++[x])) (gz.set (G.length-1) (K,M))))]) 20 U U U xy U U U U F U dc (by exact pj (c:=nI) (m:=(cg++[x])) (a:=(K,M))) U<|Gh (f:=tx) (ms:=G) (asl:=gz) (m:=(cg++[x])) (a:=(K,M)) 2 1 I I U U U<|RK A9<|ak<|fP 3 [] (mc 2 U mn) U<|rS (MX U)<|bk 1 U<|aB<|aF<|KK AA<|ak<|rP 2 [] mn ?_
  refine aB ?_
  have Cp:(vS a ((G.set (G.length-1) (cg++[x])).length) c)=(vS a G.length c):=by rw [List.length_set]
  have Cx:(vI (((i+1):Nat):Int))=(vI ((i:Int)+1)):=by exact cI I
  refine aU (T ⟨((i+1),(G.set (G.length-1) (cg++[x])),(gz.set (G.length-1) (K,M)),a,c,(max last ((aD (aG r) x).Hi))),⟨I,by simp; omega,by first|exact pV I hx B A N|exact o0 I (fun u _=>(g_ (i:=u) AB).2.1) C3 hx B A N,dso⟩⟩ _ _ _ U os (cQ 4<|bj U Cp<|dI.cons U<|bj U Cx<|dI.nil _) (aI [3,4,5,6,7,8,9,10,11,12,13,14,15,16,17,18,0,19]))
 refine ak<|rP 1 [] mn ?_
 refine dj (xs:=[.const (vS none 0 0)]) (cs:=[(vS none 0 0)]) U pK we U U U U (by simp [Value.cells]) U U fun KS=>?_
 refine cL (es2:=(List.zipWith nI (G++[[]]) (gz++[(none,0)]))) (m':=(G++[[]]).length) 19 rfl rfl rfl U_ rfl rfl (kv C).symm (bf (es:=List.zipWith nI [[]] [(none,0)]) 0 rfl rfl (by intro e he; simp [nI] at he; subst he; rfl) rfl) (O4 _ _) I (by simp only [maxLen]; omega) (Ie I) (by simp; omega) rfl fun P S=>?_
 try dsimp only
 refine dY 3 1<|Rs (Y':=aR tx (G++[[]]) (gz++[(none,0)])) 19 0 U U (Fy I U)<|bk 1 U<|RK V<|WS fun _ A6=>rP 4 [] mn ?_
 refine RK A6<|aj fun _ A7=>?_
 have GZ:((G++[[]]).length-1)<(G++[[]]).length:=by first|omega|(simp; done)
 obtain ⟨cg,B⟩: ∃ y_,(G++[[]])[((G++[[]]).length-1)]? =some y_:=⟨(G++[[]])[((G++[[]]).length-1)]'I,eN _⟩
 obtain ⟨cga,D⟩: ∃ y_,(gz++[(none,0)])[((G++[[]]).length-1)]? =some y_:=⟨(gz++[(none,0)])[((G++[[]]).length-1)]'I,eN _⟩
 have F:(List.zipWith nI (G++[[]]) (gz++[(none,0)]))[((G++[[]]).length-1)]? =some (nI cg cga):=dB B D
 refine Ef (f:=tx) 0 B D U U U ?_
 try dsimp only
 refine ak<|rP 4 [] mn ?_
 refine rS (IA ((G++[[]]).length-1) U (ae (n:=(G++[[]]).length) 20 U (kv (by simp; omega))) pK dc I I) ?_
 refine rS (gl ((G++[[]]).length-1) 0 (vS cga.1 cg.length cga.2) U cp (ae (n:=(G++[[]]).length) 20 U (kv (by simp; omega))) F U dc U) ?_
 refine rP 1 [] mn ?_
 have GF:cg.length≤12:=(dN.1 (show cg∈G++[[]] from by first|exact aS B|exact List.mem_append_left _ (aS B))).elim (fun q=>by have:=AP A q; omega) (fun q=>by simp at q; subst q; simp)
 refine dj (xs:=[.tmp 57]) (cs:=[(vI x)]) U cK jA U U U U (by simp [Value.cells]) U U fun K0=>?_
 refine cL (es2:=(List.map iC (cg++[x]))) (m':=(cg++[x]).length) 1 U U U o9 U U sm (bf (es:=List.map iC [x]) 0 U U (by simp [bH]) U) (jX _) os (by first|(simp only [maxLen]; omega)|(simp [maxLen]; omega)) sm sm U fun J L=>?_
 try dsimp only
 refine rS (IA ((G++[[]]).length-1) U (ae (n:=(G++[[]]).length) 21 U (kv (by simp; omega))) pK dc I I) ?_
 refine df (k:=((G++[[]]).length-1)) (o:=0) (vs:=[(vS J ((cg++[x]).length) L)]) (es':=(List.zipWith nI ((G++[[]]).set ((G++[[]]).length-1) (cg++[x])) ((gz++[(none,0)]).set ((G++[[]]).length-1) (J,L)))) (C':=[_,_,_,_,_,_,_,_,_,_,_,_,_,_,_,_,_,_,_,_,_,(own P S 29 1 (List.zipWith nI ((G++[[]]).set ((G++[[]]).length-1) (cg++[x])) ((gz++[(none,0)]).set ((G++[[]]).length-1) (J,L))))]) 21 U U U xy U U U U F U dc (by exact pj (c:=nI) (m:=(cg++[x])) (a:=(J,L))) U<|Gh (f:=tx) (ms:=(G++[[]])) (asl:=(gz++[(none,0)])) (m:=(cg++[x])) (a:=(J,L)) 2 1 I I U U U<|RK A7<|ak<|fP 3 [] (mc 3 U mn) U<|rS (MX U)<|bk 1 U<|aB<|aF<|KK AA<|ak<|rP 2 [] mn ?_
 refine aB ?_
 have Ci:(vS P (((G++[[]]).set ((G++[[]]).length-1) (cg++[x])).length) S)=(vS P ((G++[[]]).length) S):=by rw [List.length_set]
 have Ck:(vI (((i+1):Nat):Int))=(vI ((i:Int)+1)):=by exact cI I
 refine aU (T ⟨((i+1),((G++[[]]).set ((G++[[]]).length-1) (cg++[x])),((gz++[(none,0)]).set ((G++[[]]).length-1) (J,L)),P,S,(max last ((aD (aG r) x).Hi))),⟨I,by simp; omega,by first|exact pV I hx B A N|exact o0 I (fun u _=>(g_ (i:=u) AB).2.1) C3 hx B A N,dso⟩⟩ _ _ _ U os (cQ 4<|bj U Ci<|dI.cons U<|bj U Ck<|dI.nil _) (aI [4,5,6,7,8,9,10,11,12,13,14,15,16,17,18,19,0,20]))
end
section
open Go.RowKit
theorem OF (l:aY) (kA:OA) (kC:Nat) (az:List RA) (cA:OA) (cC:Nat) (bA:OA) (bC:Nat) (hin:eA l az) (hng: ¬ l8 l):
 lB Tryz.prog 45 [(vA (b_.cells (lO l kA kC cA cC bA bC)))] [(rd kA l.aL.length 9 (l.aL.map al.cells)),(rd cA l.ai.length 2 (List.zipWith ar.cells l.ai az)),(fp (aR ar.ia l.ai az)),(rd bA l.ag.length 4 (l.ag.map bE.cells))] (fun (x:(OA)×Nat×(OA)×Nat×(List RA)×(OA)×Nat)=>(vA (b_.cells (b_.mk (bD.mk (bp.mk x.1 l.aL.length x.2.1)) l.gK (bp.mk x.2.2.1 l.ai.length x.2.2.2.1) (bp.mk x.2.2.2.2.2.1 l.ag.length x.2.2.2.2.2.2) l.bS l.eg l.cM)))) (fun (x:(OA)×Nat×(OA)×Nat×(List RA)×(OA)×Nat)=>x.2.2.2.2.1.length=l.ai.length∧oG l.ai x.2.2.2.2.1) (fun (x:(OA)×Nat×(OA)×Nat×(List RA)×(OA)×Nat)=>[(own x.1 x.2.1 153 9 (l.aL.map al.cells)),(own x.2.2.1 x.2.2.2.1 53 2 (List.zipWith ar.cells l.ai x.2.2.2.2.1)),(br (aR ar.owns l.ai x.2.2.2.2.1)),(own x.2.2.2.2.2.1 x.2.2.2.2.2.2 160 4 (l.ag.map bE.cells))]):=by
 have v:=hin.si
 have u:=hin.rr
 have G:=hin.nD
 have t:=hin.su
 have Z:=Cd hng
 refine dh V_ Tryz.func45 U U fun w0 Q hQ hN=>?_
 try dsimp only
 refine WS fun _ p=>fZ U fun b2=>AL U Se fun b3=>RK p<|WS fun _ q=>rP 1 [] mn ?_
 refine rS (LP (bD.cells (bD.mk (bp.mk kA l.aL.length kC))) 1 U SO U U U) ?_
 refine cX (Rk l.aL kA kC sd) (bo [2]) U fun y w=>?_
 obtain ⟨c,d⟩:=y
 try dsimp only
 refine bk 1 U<|V9 (b_.cells (b_.mk (bD.mk (bp.mk c l.aL.length d)) l.gK (bp.mk cA l.ai.length cC) (bp.mk bA l.ag.length bC) l.bS l.eg l.cM)) U Ub U U<|RK q<|WS fun _ r=>lY U uC U fun e=>rP 2 [] (mc 3 U mn) ?_
 refine cW (es:=(List.map dD.cells [])) (C':=[own (some ⟨e,0,none⟩) 0 53 2 (List.map dD.cells []),_,_,_,_,_,_,_]) 0 U sm U (by simp [maxLen]) U ?_
 refine cL (es2:=(List.zipWith ar.cells l.ai az)) (m':=l.ai.length) 0 U U U RY U U sm (aA 5 U) (xZ _ _) os (by first|(simp only [maxLen]; omega)|(simp [maxLen]; omega)) sm (ei G) U fun B D=>?_
 try dsimp only
 refine bk 1 U<|Qa (b_.cells (b_.mk (bD.mk (bp.mk c l.aL.length d)) l.gK (bp.mk B l.ai.length D) (bp.mk bA l.ag.length bC) l.bS l.eg l.cM)) U S_ U U<|RK r<|aj fun _ N=>WS fun _ O=>rP 1 [] mn ?_
 refine RK O<|ax<|l9 ?_
 have H:(0≤l.ai.length)∧(([]:List RA).length=0)∧(oG l.ai ([]:List RA)):=by exact ⟨Nat.zero_le _,rfl,fun k m a _ h=>by simp at h⟩
 refine bJ (ι:={z:Nat×(List RA) // (z.1≤l.ai.length)∧(z.2.length=z.1)∧(oG l.ai z.2)}) [1,2] [2,3,4,5,6,7,8] U U (fun z=>[(3,(vI (z.1.1:Int)))]) (fun z=>[(br (aR ar.owns (l.ai.take z.1.1) z.1.2)),(own B D 53 2 (List.zipWith ar.cells l.ai (sh z.1.2 az z.1.1)))]) (fun _=>rfl) (fun _=>rfl) (fun z=>l.ai.length-z.1.1) ⟨(0,([]:List RA)),H⟩ (aT U) (aI [2,3,4,5,6,7,8,0,1]) ?_
 clear H
 rintro ⟨⟨i,bz⟩,⟨AB,A,F⟩⟩ J15 M
 try dsimp only at AB A F
 try dsimp only
 refine aj fun _ P=>WS fun _ R=>rP 5 [] (mc 2 U mn) ?_
 refine RK R<|bR U (aN fun j=>?_) (aO fun j=>?_)
 ·refine bB<|ab<|ab<|ay<|KK N<|WS fun _ T=>lY U vx U fun g=>?_
  rw [show sh bz az i=bz from LZ I]
  rw [show l.ai.take i=l.ai from List.take_of_length_le I]
  refine rP 2 [] (mc 3 U mn) ?_
  refine cW (es:=(List.map bE.cells [])) (C':=[own (some ⟨g,0,none⟩) 0 160 4 (List.map bE.cells []),_,_,_,_,_,_,_,_,_]) 0 U sm U (by simp [maxLen]) U ?_
  refine cL (es2:=(List.map bE.cells l.ag)) (m':=l.ag.length) 0 U U U Uv U U sm (aA 7 U) (qt _) os (by first|(simp only [maxLen]; omega)|(simp [maxLen]; omega)) sm sm U fun K L=>?_
  try dsimp only
  refine bk 1 U<|Qa (b_.cells (b_.mk (bD.mk (bp.mk c l.aL.length d)) l.gK (bp.mk B l.ai.length D) (bp.mk K l.ag.length L) l.bS l.eg l.cM)) U Sa U U<|RK T<|WS fun _ AA=>rP 1 [] (mc 3 U mn) ?_
  refine G0 U QL U<|RK AA<|av ?_
  refine LX hQ (c,d,B,D,bz,K,L) [1,9,8,0] [0] (mc 2 U mn) U (by simp only [fm,List.all_nil,fK,Bool.and_true]; rfl) U U ?_
  exact ⟨dso,F⟩
 refine WK P<|aj fun _ S=>ax<|dK cE [3,10,13] [6,7,8,9,10] [0,1] [0,1,2,3,4,5,6,7] [0,1,2,3,4,5,6,7,8] U U U U U<|eS U (FA 2 U KN U)<|eS U (L1 (vS B l.ai.length D) 2 U QJ U U)<|eS U (MV U)<|eS U (FA 2 U KN U)<|eS U (L1 (vS B l.ai.length D) 2 U QJ U U)<|eS U (MV U) ?_
 obtain ⟨x,hx⟩:=aK l.ai i I
 obtain ⟨xa,J⟩:=aK az i I
 have b:(List.zipWith ar.cells l.ai (sh bz az i))[i]? =some (ar.cells x xa):=dB hx (Gv A J)
 refine fS U (IA i U (ae (n:=l.ai.length) 8 U (ei (by rw [qQ A I]; exact G))) uC dc I I) ?_
 refine fS U (lZ ((i*2)+1) U (ae (n:=l.ai.length) 8 U (ei (by rw [qQ A I]; exact G))) (Nat.mul_pos I dc) KH U) ?_
 refine fS U (gl i 1 (vS xa.1 x.aX.length xa.2) U SQ (ae (n:=l.ai.length) 8 U (ei (by rw [qQ A I]; exact G))) b U dc U) ?_
 refine fS U (IA i U (ae (n:=l.ai.length) 8 U (ei (by rw [qQ A I]; exact G))) uC dc I I) ?_
 refine fS U (lZ ((i*2)+1) U (ae (n:=l.ai.length) 8 U (ei (by rw [qQ A I]; exact G))) (Nat.mul_pos I dc) KH U) ?_
 refine eU U<|gT U fun T20 V=>lY U tW U fun f=>aB (V _ _ (aI [1,2,3,4,5,6,7,8]) (aI [1,2,3,4,5,6,7,8,9]) ?_)
 refine gT U fun T22 W=>cW (es:=(List.map cr.cells [])) (C':=[own (some ⟨f,0,none⟩) 0 55 3 (List.map cr.cells []),_,_,_,_,_,_,_,_,_]) 0 U sm U (by simp [maxLen]) U ?_
 refine cL (es2:=(List.map cr.cells x.aX)) (m':=x.aX.length) 0 U U U S9 U U sm (show jh _ (rd xa.1 x.aX.length 3 (x.aX.map cr.cells)).holds from (dC 6 U (bY hx J (by simp [ar.ia])))) (qo _) (by have:=Z.2.2.2 x (aS hx); simp; omega) (by have:=Z.2.2.2 x (aS hx); simp only [maxLen]; simp; omega) sm sm U fun C E=>?_
 try dsimp only
 refine Su 0 U fun s=>aB (W _ _ (aI [1,2,3,4,5,6,7,8]) (aI [1,2,3,4,5,6,7,8,9]) ?_)
 refine cf U fun T25 X=>df (k:=i) (o:=1) (vs:=[(vS C x.aX.length E)]) (es':=(List.zipWith ar.cells l.ai (sh (bz++[(C,E)]) az (i+1)))) (C':=[_,_,_,_,_,_,_,_,_,(own B D 53 2 (List.zipWith ar.cells l.ai (sh (bz++[(C,E)]) az (i+1))))]) 9 U U U UH U U U U b U dc (by exact Pp (nw:=(C,E)) hx A J) U<|aB (X _ _ (aI [1,2,3,4,5,6,7,8]) ?_)
 refine fF U<|aF<|KK S<|ak<|rP 3 [] mn ?_
 refine aB<|Aj (X':=aR ar.owns (l.ai.take (i+1)) (bz++[(C,E)])) 8 0 U U (HR (nw:=(C,E)) hx A) ?_
 have Y:(vI (((i+1):Nat):Int))=(vI ((i:Int)+1)):=by exact cI I
 refine aU (M ⟨((i+1),(bz++[(C,E)])),⟨I,by simp; omega,C5 F A hx (by simpa using s)⟩⟩ _ _ _ U os (dI.cons U<|dI.cons U<|bj U Y<|dI.nil _) (aI [1,2,3,4,5,6,7,0,8]))
end
section
open Go.RowKit
theorem GJ (r:cx) (sgA:OA) (sgC:Nat) (hsl:r.ah.length≤1000000):
 lB Tryz.prog 46 [(vA (dp.cells (lT r sgA sgC)))] [(rd sgA r.ah.length 2 (r.ah.map aH.cells))] (fun (x:(OA)×Nat)=>(vA (dp.cells (dp.mk r.Start r.fE (bp.mk x.1 r.ah.length x.2))))) (fun (x:(OA)×Nat)=>True) (fun (x:(OA)×Nat)=>[(own x.1 x.2 107 2 (r.ah.map aH.cells))]):=by
 refine dh kr Tryz.func46 U U fun AA Q hQ hN=>?_
 try dsimp only
 refine WS fun _ A=>fZ U fun G=>AL U N7 fun H=>RK A<|WS fun _ B=>lY U wh U fun F=>rP 2 [] (mc 2 U mn) ?_
 refine cW (es:=(List.map aH.cells [])) (C':=[own (some ⟨F,0,none⟩) 0 107 2 (List.map aH.cells []),_,_,_]) 0 U sm U (by simp [maxLen]) U ?_
 refine cL (es2:=(List.map aH.cells r.ah)) (m':=r.ah.length) 0 U U U SL U U sm (aA 3 U) (oQ _) os (by first|(simp only [maxLen]; omega)|(simp [maxLen]; omega)) sm sm U fun D E=>?_
 try dsimp only
 refine bk 1 U<|V9 (dp.cells (lT r D E)) U Us U U<|RK B<|WS fun _ C=>rP 1 [] (mc 2 U mn) ?_
 refine te U B8 U<|RK C<|av<|LX hQ (D,E) [0] [0] (mc 1 U mn) U U U U ?_
 trivial
end
section
open Go.RowKit
theorem Fi (r:cj) (kA:OA) (kC:Nat) (az:List RA) (cA:OA) (cC:Nat) (bA:OA) (bC:Nat) (slA:OA) (slC:Nat) (drA:OA) (drC:Nat) (ha:List cb) (heA:OA) (heC:Nat) (hin:fw r az ha) (hng: ¬ ou r):
 lB Tryz.prog 11 [(vA (cu.cells (oY r kA kC cA cC bA bC slA slC drA drC heA heC)))] [(rd kA r.an.aL.length 9 (r.an.aL.map al.cells)),(rd cA r.an.ai.length 2 (List.zipWith ar.cells r.an.ai az)),(fp (aR ar.ia r.an.ai az)),(rd bA r.an.ag.length 4 (r.an.ag.map bE.cells)),(rd slA r.aM.length 1 (r.aM.map iC)),(rd drA r.bL.length 1 (r.bL.map iC)),(rd heA r.ao.length 1 (List.zipWith cw r.ao ha)),(fp (aR iI r.ao ha))] (fun (x:(OA)×Nat×(OA)×Nat×(List RA)×(OA)×Nat×(OA)×Nat×(OA)×Nat×(OA)×Nat×(List cb))=>(vA (cu.cells (cu.mk (b_.mk (bD.mk (bp.mk x.1 r.an.aL.length x.2.1)) r.an.gK (bp.mk x.2.2.1 r.an.ai.length x.2.2.2.1) (bp.mk x.2.2.2.2.2.1 r.an.ag.length x.2.2.2.2.2.2.1) r.an.bS r.an.eg r.an.cM) (bp.mk x.2.2.2.2.2.2.2.1 r.aM.length x.2.2.2.2.2.2.2.2.1) (bp.mk x.2.2.2.2.2.2.2.2.2.1 r.bL.length x.2.2.2.2.2.2.2.2.2.2.1) r.im (bp.mk x.2.2.2.2.2.2.2.2.2.2.2.1 r.ao.length x.2.2.2.2.2.2.2.2.2.2.2.2.1))))) (fun (x:(OA)×Nat×(OA)×Nat×(List RA)×(OA)×Nat×(OA)×Nat×(OA)×Nat×(OA)×Nat×(List cb))=>(x.2.2.2.2.1.length=r.an.ai.length∧oG r.an.ai x.2.2.2.2.1)∧pJ r.ao x.2.2.2.2.2.2.2.2.2.2.2.2.2) (fun (x:(OA)×Nat×(OA)×Nat×(List RA)×(OA)×Nat×(OA)×Nat×(OA)×Nat×(OA)×Nat×(List cb))=>[(own x.1 x.2.1 153 9 (r.an.aL.map al.cells)),(own x.2.2.1 x.2.2.2.1 53 2 (List.zipWith ar.cells r.an.ai x.2.2.2.2.1)),(br (aR ar.owns r.an.ai x.2.2.2.2.1)),(own x.2.2.2.2.2.1 x.2.2.2.2.2.2.1 160 4 (r.an.ag.map bE.cells)),(own x.2.2.2.2.2.2.2.1 x.2.2.2.2.2.2.2.2.1 3 1 (r.aM.map iC)),(own x.2.2.2.2.2.2.2.2.2.1 x.2.2.2.2.2.2.2.2.2.2.1 3 1 (r.bL.map iC)),(own x.2.2.2.2.2.2.2.2.2.2.2.1 x.2.2.2.2.2.2.2.2.2.2.2.2.1 56 1 (List.zipWith cw r.ao x.2.2.2.2.2.2.2.2.2.2.2.2.2)),(br (aR gZ r.ao x.2.2.2.2.2.2.2.2.2.2.2.2.2))]):=by
 have p:=hin.line
 have H1:=hin.iU
 have G:=hin.has
 have Go:=hin.iY
 have GF:=hin.draw
 have Hi:=dQ (r:=r)
 have Ck:=GD hng
 refine dh kr Tryz.func11 U U fun w0 Q hQ hN=>?_
 try dsimp only
 refine WS fun _ D2=>fZ U fun b2=>AL U yT fun b3=>RK D2<|WS fun _ D9=>rP 1 [] mn ?_
 refine rS (LP (b_.cells (lO r.an kA kC cA cC bA bC)) 1 U cp U U U)<|cX (OF r.an kA kC az cA cC bA bC (by exact p) (by exact Ck.1)) (bo [2,3,4,5]) U fun y5 Fn=>?_
 obtain ⟨T,V,AA,L,s,K,N⟩:=y5
 try dsimp only
 obtain ⟨EQ,Eq⟩:=Fn
 refine bk 1 U<|Ws (cu.cells (cu.mk (b_.mk (bD.mk (bp.mk T r.an.aL.length V)) r.an.gK (bp.mk AA r.an.ai.length L) (bp.mk K r.an.ag.length N) r.an.bS r.an.eg r.an.cM) (bp.mk slA r.aM.length slC) (bp.mk drA r.bL.length drC) r.im (bp.mk heA r.ao.length heC))) U QL U U<|RK D9<|WS fun _ v=>lY U cK U fun C0=>rP 2 [] (mc 6 U mn) ?_
 refine cW (es:=(List.map iC [])) (C':=[own (some ⟨C0,0,none⟩) 0 3 1 (List.map iC []),_,_,_,_,_,_,_,_,_,_,_,_,_,_]) 0 U sm U (by simp [maxLen]) U ?_
 refine cL (es2:=(List.map iC r.aM)) (m':=r.aM.length) 0 U U U o9 U U sm (aA 11 U) (jX _) (by simp; omega) (by simp only [maxLen]; simp; omega) sm sm U fun X Y=>?_
 try dsimp only
 refine bk 1 U<|US (cu.cells (cu.mk (b_.mk (bD.mk (bp.mk T r.an.aL.length V)) r.an.gK (bp.mk AA r.an.ai.length L) (bp.mk K r.an.ag.length N) r.an.bS r.an.eg r.an.cM) (bp.mk X r.aM.length Y) (bp.mk drA r.bL.length drC) r.im (bp.mk heA r.ao.length heC))) U xy U U<|RK v<|WS fun _ w=>lY U cK U fun C1=>rP 2 [] (mc 7 U mn) ?_
 refine cW (es:=(List.map iC [])) (C':=[own (some ⟨C1,0,none⟩) 0 3 1 (List.map iC []),_,_,_,_,_,_,_,_,_,_,_,_,_,_,_]) 0 U sm U (by simp [maxLen]) U ?_
 refine cL (es2:=(List.map iC r.bL)) (m':=r.bL.length) 0 U U U o9 U U sm (aA 13 U) (jX _) (by simp; omega) (by simp only [maxLen]; simp; omega) sm sm U fun g j=>?_
 try dsimp only
 refine bk 1 U<|Wx (cu.cells (cu.mk (b_.mk (bD.mk (bp.mk T r.an.aL.length V)) r.an.gK (bp.mk AA r.an.ai.length L) (bp.mk K r.an.ag.length N) r.an.bS r.an.eg r.an.cM) (bp.mk X r.aM.length Y) (bp.mk g r.bL.length j) r.im (bp.mk heA r.ao.length heC))) U xy U U<|RK w<|WS fun _ AC=>lY U nj U fun C2=>rP 2 [] (mc 8 U mn) ?_
 refine cW (es:=(List.map sC [])) (C':=[own (some ⟨C2,0,none⟩) 0 56 1 (List.map sC []),_,_,_,_,_,_,_,_,_,_,_,_,_,_,_,_]) 0 U sm U (by simp [maxLen]) U ?_
 refine cL (es2:=(List.zipWith cw r.ao ha)) (m':=r.ao.length) 0 U U U TC U U sm (aA 15 U) (An _ _) (by simp; omega) (by simp only [maxLen]; simp; omega) sm (cS G) U fun J M=>?_
 try dsimp only
 refine bk 1 U<|Wu (cu.cells (cu.mk (b_.mk (bD.mk (bp.mk T r.an.aL.length V)) r.an.gK (bp.mk AA r.an.ai.length L) (bp.mk K r.an.ag.length N) r.an.bS r.an.eg r.an.cM) (bp.mk X r.aM.length Y) (bp.mk g r.bL.length j) r.im (bp.mk J r.ao.length M))) U Sy U U<|RK AC<|aj fun _ AO=>WS fun _ A0=>rP 1 [] mn ?_
 refine RK A0<|ax<|l9 ?_
 have F:(0≤r.ao.length)∧(([]:List cb).length=0)∧(∀ (k:Nat) y (a:cb),r.ao[k]? =some y→([]:List cb)[k]? =some a→a.2.length=y.length):=by exact ⟨Nat.zero_le _,rfl,fun k y a _ q=>by simp at q⟩
 refine bJ (ι:={z:Nat×(List cb) // (z.1≤r.ao.length)∧(z.2.length=z.1)∧(∀ (k:Nat) y (a:cb),r.ao[k]? =some y→z.2[k]? =some a→a.2.length=y.length)}) [1,2] [2,3,4,5,6,7,8,9,10,11,12,13,14,15,16,17] U U (fun z=>[(3,(vI (z.1.1:Int)))]) (fun z=>[(br (aR gZ (r.ao.take z.1.1) z.1.2)),(own J M 56 1 (List.zipWith cw r.ao (f_ z.1.2 ha z.1.1)))]) (fun _=>rfl) (fun _=>rfl) (fun z=>r.ao.length-z.1.1) ⟨(0,([]:List cb)),F⟩ (aT U) (aI [2,3,4,5,6,7,8,9,10,11,12,13,14,15,16,17,0,1]) ?_
 clear F
 rintro ⟨⟨h,hz⟩,⟨m,B,S⟩⟩ J28 t
 try dsimp only at m B S
 try dsimp only
 refine aj fun _ A1=>WS fun _ A2=>rP 5 [] (mc 7 U mn) ?_
 refine RK A2<|bR U (aN fun Di=>?_) (aO fun Di=>?_)
 ·refine bB<|ab<|ab<|ay<|KK AO<|aj fun _ A9=>?_
  have FS:pJ r.ao hz:=⟨I,S⟩
  rw [show (f_ hz ha h)=hz from nR I,show r.ao.take h=r.ao from List.take_of_length_le I]
  refine ak<|rP 1 [] (mc 7 U mn) ?_
  refine Ow U sv U<|RK A9<|av ?_
  refine LX hQ (T,V,AA,L,s,K,N,X,Y,g,j,J,M,hz) [2,3,4,5,1,0,17,16] [0] (mc 6 U mn) U (by show List.all _ _=true; simp only [fm,List.all_nil,fK,j6,Bool.and_true]; rfl) U U ?_
  exact ⟨⟨EQ,Eq⟩,FS⟩
 refine WK A1<|aj fun _ A3=>ax<|aj fun _ A4=>dK cE [3,9,11] [6,7,8] [0,1] [0,1,2,3,4,5,6,7,8,9,10,11,12,13,14,15,16] [0,1,2,3,4,5,6,7,8,9,10,11,12,13,14,15,16,17] U U U U U<|eS U (FA 10 U fc U)<|eS U (L1 (vS J r.ao.length M) 7 U cp U U)<|eS U (MV U)<|eS U (FA 10 U fc U)<|eS U (L1 (vS J r.ao.length M) 7 U cp U U)<|eS U (MV U) ?_
 obtain ⟨ht,AB⟩:=aK r.ao h I
 obtain ⟨C,O⟩:=aK ha h I
 have e:(List.zipWith cw r.ao (f_ hz ha h))[h]? =some (cw ht C):=dB AB (mF B O)
 have Cp:=hin.nu _ _ _ AB O
 have H:=Cp.nD
 have Cx:=Ck.2.2.2.2 ht (aS AB)
 refine fS U (IA h U (ae (n:=r.ao.length) 17 U (cS (by rw [dR B I]; exact G))) nj dc I I) ?_
 refine fS U (gl h 0 (vS C.1.1 ht.length C.1.2) U cp (ae (n:=r.ao.length) 17 U (cS (by rw [dR B I]; exact G))) e U dc U) ?_
 refine fS U (IA h U (ae (n:=r.ao.length) 17 U (cS (by rw [dR B I]; exact G))) nj dc I I) ?_
 refine eU U<|gT U fun T34 BF=>lY U tm U fun C3=>aB (BF _ _ (aI [1,2,3,4,5,6,7,8,9,10,11,12,13,14,15,16,17]) (aI [1,2,3,4,5,6,7,8,9,10,11,12,13,14,15,16,17,18]) ?_)
 refine gT U fun T36 Bb=>cW (es:=(List.map bq.cells [])) (C':=[own (some ⟨C3,0,none⟩) 0 62 7 (List.map bq.cells []),_,_,_,_,_,_,_,_,_,_,_,_,_,_,_,_,_,_]) 0 U sm U (by simp [maxLen]) U ?_
 refine cL (es2:=(List.zipWith au.cells ht C.2)) (m':=ht.length) 0 U U U SM U U sm (show jh _ (rd C.1.1 ht.length 7 (List.zipWith au.cells ht C.2)).holds from (dC 16 U (bY AB O cv))) (GQ _ _) (by simp; omega) (by simp only [maxLen]; simp; omega) sm (j8 H) U fun D E=>?_
 try dsimp only
 refine aB (Bb _ _ (aI [1,2,3,4,5,6,7,8,9,10,11,12,13,14,15,16,17]) (aI [1,2,3,4,5,6,7,8,9,10,11,12,13,14,15,16,17,18]) ?_)
 refine cf U fun T39 Bg=>df (k:=h) (o:=0) (vs:=[(vS D ht.length E)]) (es':=(List.zipWith cw r.ao (f_ (hz++[((D,E),C.2)]) ha (h+1)))) (C':=[_,_,_,_,_,_,_,_,_,_,_,_,_,_,_,_,_,_,(own J M 56 1 (List.zipWith cw r.ao (f_ (hz++[((D,E),C.2)]) ha (h+1))))]) 18 U U U S5 U U U U e U dc (by exact rp (b:=((D,E),C.2)) AB B O) U<|aB (Bg _ _ (aI [1,2,3,4,5,6,7,8,9,10,11,12,13,14,15,16,17]) ?_)
 refine fF U<|KK A4<|WS fun _ A5=>rP 1 [] mn ?_
 refine RK A5<|ax<|l9 ?_
 have F:(0≤ht.length)∧(([]:List RA).length=0):=by exact ⟨Nat.zero_le _,rfl⟩
 refine bJ (ι:={z:Nat×(List RA) // (z.1≤ht.length)∧(z.2.length=z.1)}) [1,2,3] [2,3,4,5,6,7,8,9,10,11,12,13,14,15,16,17,18,19] U U (fun z=>[(4,(vI (z.1.1:Int)))]) (fun z=>[(br (aR jO (ht.take z.1.1) z.1.2)),(own D E 62 7 (List.zipWith au.cells ht (f_ z.1.2 C.2 z.1.1)))]) (fun _=>rfl) (fun _=>rfl) (fun z=>ht.length-z.1.1) ⟨(0,([]:List RA)),F⟩ (aT U) (aI [2,3,4,5,6,7,8,9,10,11,12,13,14,15,16,17,18,19,0,1]) ?_
 clear F
 rintro ⟨⟨i,dz⟩,⟨Z,A⟩⟩ J41 u
 try dsimp only at Z A
 try dsimp only
 refine aj fun _ A6=>WS fun _ A7=>rP 4 [] (mc 7 U mn) ?_
 have W:(List.zipWith cw r.ao (f_ (hz++[((D,E),C.2)]) ha (h+1)))[h]? =some (cw ht ((D,E),C.2)):=dB AB (CT B)
 refine rS (IA h U (ae (n:=r.ao.length) 17 U (cS (by rw [dR (by simp; omega) I]; exact G))) nj dc I I) ?_
 refine rS (gl h 0 (vS D ht.length E) U cp (ae (n:=r.ao.length) 17 U (cS (by rw [dR (by simp; omega) I]; exact G))) W U dc U) ?_
 refine rP 2 [] mn ?_
 refine RK A7<|bR U (aN fun Do=>?_) (aO fun Do=>?_)
 ·refine bB<|ab<|ab<|ay<|aF<|KK A3<|ak<|rP 3 [] mn ?_
  refine aB ?_
  have GT:dz.length=ht.length:=by omega
  rw [show (f_ dz C.2 i)=dz from nR I,show ht.take i=ht from List.take_of_length_le I]
  refine Lb (Z':=aR gZ (r.ao.take (h+1)) (hz++[((D,E),dz)])) 16 18 19 U U (nS (f:=gZ) (b:=((D,E),dz)) AB B) ?_
  rw [DP (y:=dz)]
  have B9:(vI (((h+1):Nat):Int))=(vI ((h:Int)+1)):=by exact cI I
  refine aU (t ⟨((h+1),(hz++[((D,E),dz)])),⟨I,by simp; omega,BH AB S B dso⟩⟩ _ _ _ U os (dI.cons U<|dI.cons U<|bj U B9<|dI.nil _) (aI [1,2,3,4,5,6,7,8,9,10,11,12,13,14,15,16,0,17]))
 refine WK A6<|aj fun _ A8=>ax<|dK cE [15,18] [12,13,14,15,16] [0] [0,1,2,3,4,5,6,7,8,9,10,11,12,13,14,15,16,17,18] [0,1,2,3,4,5,6,7,8,9,10,11,12,13,14,15,16,17,18,19] U U U U U<|eS U (FA 10 U fc U)<|eS U (L1 (vS J r.ao.length M) 7 U cp U U)<|eS U (MV U) ?_
 refine eS U (IA h U (ae (n:=r.ao.length) 17 U (cS (by rw [dR (by simp; omega) I]; exact G))) nj dc I I) ?_
 refine eS U (gl h 0 (vS D ht.length E) U cp (ae (n:=r.ao.length) 17 U (cS (by rw [dR (by simp; omega) I]; exact G))) W U dc U) ?_
 refine eS U (MV U)<|eS U (FA 10 U fc U)<|eS U (L1 (vS J r.ao.length M) 7 U cp U U)<|eS U (MV U) ?_
 refine eS U (IA h U (ae (n:=r.ao.length) 17 U (cS (by rw [dR (by simp; omega) I]; exact G))) nj dc I I) ?_
 refine eS U (gl h 0 (vS D ht.length E) U cp (ae (n:=r.ao.length) 17 U (cS (by rw [dR (by simp; omega) I]; exact G))) W U dc U) ?_
 refine eS U (MV U) ?_
 obtain ⟨d,hd⟩:=aK ht i I
 obtain ⟨da,l⟩:=aK C.2 i I
 have Ci:(List.zipWith au.cells ht (f_ dz C.2 i))[i]? =some (au.cells d da):=dB hd (mF A l)
 have Fd:=Cp.sig d (aS hd)
 have GZ:=Cx.2 d (aS hd)
 refine fS U (IA i U (ae (n:=ht.length) 19 U (j8 (by rw [dR A I]; exact H))) tm dc I I) ?_
 refine fS U (lZ ((i*7)+4) U (ae (n:=ht.length) 19 U (j8 (by rw [dR A I]; exact H))) (Nat.mul_pos I dc) fc U) ?_
 refine fS U (oE i 4 (dp.cells (dp.mk d.bX.Start d.bX.fE (bp.mk da.1 d.bX.ah.length da.2))) U cp (ae (n:=ht.length) 19 U (j8 (by rw [dR A I]; exact H))) Ci U dc U U) ?_
 refine fS U (IA i U (ae (n:=ht.length) 19 U (j8 (by rw [dR A I]; exact H))) tm dc I I) ?_
 refine fS U (lZ ((i*7)+4) U (ae (n:=ht.length) 19 U (j8 (by rw [dR A I]; exact H))) (Nat.mul_pos I dc) fc U) ?_
 refine eU U<|gT U fun T46 Bs=>cX (GJ d.bX da.1 da.2 (by exact Fd)) (aq (show jh _ (rd da.1 d.bX.ah.length 2 (d.bX.ah.map aH.cells)).holds from (dC 15 U (bY AB O (cY _ (bY hd l (by simp [au.ia]))))))<|aJ) U fun GE Hy=>?_
 obtain ⟨P,R⟩:=GE
 try dsimp only
 refine aB (Bs _ _ (aI [1,2,3,4,5,6,7,8,9,10,11,12,13,14,15,16,17,18,19]) (aI [1,2,3,4,5,6,7,8,9,10,11,12,13,14,15,16,17,18,19,20]) ?_)
 refine cf U fun T51 B3=>df (k:=i) (o:=4) (vs:=(dp.cells (lT d.bX P R))) (es':=(List.zipWith au.cells ht (f_ (dz++[(P,R)]) C.2 (i+1)))) (C':=[_,_,_,_,_,_,_,_,_,_,_,_,_,_,_,_,_,_,_,_,(own D E 62 7 (List.zipWith au.cells ht (f_ (dz++[(P,R)]) C.2 (i+1))))]) 20 U U U B8 U U U U Ci U dc (by exact rp (c:=au.cells) (b:=(P,R)) hd A l) U<|aB (B3 _ _ (aI [1,2,3,4,5,6,7,8,9,10,11,12,13,14,15,16,17,18,19]) ?_)
 refine fF U<|aF<|KK A8<|ak<|rP 3 [] mn ?_
 refine aB<|Ew (Y':=aR jO (ht.take (i+1)) (dz++[(P,R)])) 19 0 U U (nS (f:=jO) (b:=(P,R)) hd A) ?_
 have B7:(vI (((i+1):Nat):Int))=(vI ((i:Int)+1)):=by exact cI I
 refine aU (u ⟨((i+1),(dz++[(P,R)])),⟨I,by simp; omega⟩⟩ _ _ _ U os (cQ 3<|bj U B7<|dI.nil _) (aI [1,2,3,4,5,6,7,8,9,10,11,12,13,14,15,16,17,18,0,19]))
end
section
open Go.RowKit
theorem qY (G:List (List Int)) (H:List (List Int)) (gz:List RA) (gA:OA) (gC:Nat) (hz:List RA) (hA:OA) (hC:Nat) (h1:G.length≤1000000) (h2:H.length≤1000000) (h3: ∀ l∈G,l.length≤1000000) (h4: ∀ l∈H,l.length≤1000000) (hgz:gz.length=G.length) (hhz:hz.length=H.length):
 eB Tryz.prog 18 [(vS gA G.length gC),(vS hA H.length hC)] [(rd gA G.length 1 (List.zipWith nI G gz)),(fp (aR RS G gz)),(rd hA H.length 1 (List.zipWith nI H hz)),(fp (aR RS H hz))] (vB (decide (G=H))):=by
 refine bG kr Tryz.func18 U U fun Z Q hQ hN=>?_
 try dsimp only
 refine WS fun _ N=>bk 1 U<|RK N<|aj fun _ O=>WS fun _ P=>rP 5 [] mn ?_
 refine RK P<|cP U (bw fun hl=>?_) (bu fun hl=>?_)
 ·refine WS fun _ R=>rP 1 [] mn ?_
  refine RK R<|av<|Q1 hQ U U U ?_
  first|exact cB (cy (oo hx hy h)).symm|exact cB (gF (nV I A I)).symm|exact cB (cy (fun e=>by subst e; omega)).symm
 refine WK O<|aj fun _ S=>WS fun _ T=>rP 1 [] mn ?_
 refine RK T<|ax ?_
 have B:(0≤G.length)∧(G.take 0=H.take 0):=by exact ⟨Nat.zero_le _,rfl⟩
 refine bJ (ι:={z:Nat // (z≤G.length)∧(G.take z=H.take z)}) [0,1] [0,1,2,3] U U (fun z=>[(5,(vI (z.1:Int)))]) (fun z=>[]) (fun _=>rfl) (fun _=>rfl) (fun z=>G.length-z.1) ⟨0,B⟩ (aT U) (aI [0,1,2,3]) ?_
 clear B
 rintro ⟨i,⟨W,A⟩⟩ J7 M
 try dsimp only
 refine aj fun _ AA=>WS fun _ V=>rP 4 [] mn ?_
 refine RK V<|bR U (aN fun L=>?_) (aO fun L=>?_)
 ·refine bB<|ab<|ab<|ay<|KK S<|WS fun _ F=>rP 1 [] mn ?_
  refine RK F<|av<|Q1 hQ U U U ?_
  first|exact cB (cy (oo hx hy h)).symm|exact cB (gF (nV I A I)).symm|exact cB (cy (fun e=>by subst e; omega)).symm
 refine WK AA<|aj fun _ C=>ax<|aj fun _ D=>dM cE 10 kr<|dP 2 [] mn ?_
 obtain ⟨x,hx⟩:=aK G i I
 obtain ⟨xa,J⟩:=aK gz i I
 have X:(List.zipWith nI G gz)[i]? =some (nI x xa):=dB hx J
 refine dS (IA i U (aA 0 U) pK dc I I)<|dS (gl i 0 (vS xa.1 x.length xa.2) U cp (aA 0 U) X U dc U)<|dP 2 [] mn ?_
 obtain ⟨y,hy⟩:=aK H i I
 obtain ⟨ya,K⟩:=aK hz i I
 have Y:(List.zipWith nI H hz)[i]? =some (nI y ya):=dB hy K
 refine dS (IA i U (aA 2 U) pK dc I I)<|dS (gl i 0 (vS ya.1 y.length ya.2) U cp (aA 2 U) Y U dc U)<|dS (CL (lv x xa.1 xa.2 y ya.1 ya.2 (by exact h3 x (aS hx)) (by exact h4 y (aS hy))) (aq (show jh _ (rd xa.1 x.length 1 (x.map iC)).holds from (dC 1 U (bY hx J (by simp [RS]))))<|aq (show jh _ (rd ya.1 y.length 1 (y.map iC)).holds from (dC 3 U (bY hy K (by simp [RS]))))<|aJ) U)<|dP 1 [] mn ?_
 refine cR<|RK D<|cP U (bw fun h=>?_) (bu fun h=>?_)
 ·refine WS fun _ E=>rP 1 [] mn ?_
  refine RK E<|av<|Q1 hQ U U U ?_
  first|exact cB (cy (oo hx hy h)).symm|exact cB (gF (nV I A I)).symm|exact cB (cy (fun e=>by subst e; omega)).symm
 refine ct<|aF<|KK C<|ak<|rP 3 [] mn ?_
 refine aB ?_
 have AB:(vI (((i+1):Nat):Int))=(vI ((i:Int)+1)):=by exact cI I
 refine aU (M ⟨(i+1),⟨I,uZ A hx hy h⟩⟩ _ _ _ U os (dI.cons U<|dI.cons U<|bj U AB<|dI.nil _) (aI [0,1,2,3]))
end
section
theorem TN.sub {E:fr} {ops:Array Oper} {Q:db} {D:g5} {C' C1 C:List aw} {tb rem:List Nat}: ∀ {n:Nat} {L L':dk},dI L L'→TN E ops D C' C1 (fun L C=>KJ E (Q .normal) D L C) tb n rem L' C→TN E ops D C' C1 (fun L C=>KJ E (Q .normal) D L C) tb n rem L C:=by
 intro n
 cases n with
 |zero=>intro L L' hs h; exact jr hs (fun _ h=>h) h
 |succ n=>intro L L' hs h i hi o ho K hK; exact P4 hs (fun _ h=>h) (h i hi o ho K hK)
theorem Pm {E:fr} {ops:Array Oper} {Q:db} {D:g5} {C' C1 C:List aw} {bs:List Bool} {os:List Oper} {L:dk} {tb rem:List Nat} {n:Nat} {t:Nat} {b:Bool} (h:L.lookup t=some (.bool b))
 (h1:b=true→qz E ops D C' C1 (fun L'=>TN E ops D C' C1 (fun L C=>KJ E (Q .normal) D L C) tb n rem L' C) bs os ((t,.bool true)::L)) (h2:b=false→qz E ops D C' C1 (fun L'=>TN E ops D C' C1 (fun L C=>KJ E (Q .normal) D L C) tb n rem L' C) bs os ((t,.bool false)::L)):
 qz E ops D C' C1 (fun L'=>TN E ops D C' C1 (fun L C=>KJ E (Q .normal) D L C) tb n rem L' C) bs os L:=by
 have A: ∀ v:Bool,b=v→dI L ((t,.bool v)::L):=fun v hv=>dI.cons (hv▸h) (fun _ _ h=>h)
 cases b
 ·exact qz.mono (fun _ _=>TN.sub) (A _ U) (h2 U)
 ·exact qz.mono (fun _ _=>TN.sub) (A _ U) (h1 U)
theorem Mm {E:fr} {ops:Array Oper} {Q:db} {D:List Deferred} {L:List (Nat×Value)} {C1 C2 C:List aw} {t n:Nat} {b:Bool} {bs:List Bool} {os:List Oper} {tb rem:List Nat} (h:L.lookup t=some (.bool b)) (h2:b=false→qz E ops D C2 C1 (fun L2=>TN E ops D C2 C1 (fun L C=>KJ E (Q .normal) D L C) tb n rem L2 C) bs os ((t,.bool false)::L)) (h1:b=true→qz E ops D C2 C1 (fun L2=>TN E ops D C2 C1 (fun L C=>KJ E (Q .normal) D L C) tb n rem L2 C) bs os ((t,.bool true)::L)):qz E ops D C2 C1 (fun L2=>TN E ops D C2 C1 (fun L C=>KJ E (Q .normal) D L C) tb n rem L2 C) bs os L:=Pm h h1 h2
end
section
open Go.RowKit
/-- a row is taken that was made before; an operation -/
inductive fW where
 |take (i:Nat)
 |op (j:Nat)
def fW.ix:fW→Nat
 | .take i=>i
 | .op j=>j
def BP (dO:Nat→Nat):List fW→List Nat
 |[]=>[]
 | .take i::s=>dO i::BP dO s
 | .op _::s=>BP dO s
theorem uh {dO:Nat→Nat} {i:Nat}: ∀ {s:List fW},fW.take i∈s→dO i∈BP dO s
 | .take k::s,h=>by
  rcases bx.1 h with e|h
  ·cases e; exact cv ..
  ·exact cY _ (uh h)
 | .op k::s,h=>by
  rcases bx.1 h with e|h
  ·cases e
  ·exact uh (s:=s) h
def rB (m:Array Nat) (dO:Nat→Nat) (x y:fW):Bool:=x.ix != y.ix&&(match y with | .op j=>iM m x.ix j| .take i=>match x with | .take k=>dO k != dO i| .op _=>true)
def UU (m:Array Nat) (dO:Nat→Nat):List fW→Bool
 |[]=>true
 |x::s=>s.all (rB m dO x)&&UU m dO s
theorem GK {m:Array Nat} {dO:Nat→Nat}: ∀ {s:List fW},UU m dO s=true→s.Pairwise fun x y=>rB m dO x y=true
 |[],_=>List.Pairwise.nil
 |x::s,h=>by
  simp only [UU,cU] at h
  exact List.Pairwise.cons (fun y hy=>cV.1 h.1 y hy) (GK h.2)
/-- what is known of the slots B is known in L -/
def Dl (B L:dk):Prop:= ∀ t v,B.lookup t=some v→L.lookup t=some v
theorem wx {B L:dk} (h:B.map (fun p=>L.lookup p.1)=B.map (fun p=>some p.2)):Dl B L:=by
 induction B with
 |nil=>intro t v h; simp at h
 |cons p B ih=>
  obtain ⟨k,u⟩:=p
  simp only [List.map_cons,List.cons.injEq] at h
  intro t v hl
  by_cases e:t=k
  ·subst e
   simp only [List.lookup,beq_self_eq_true,Option.some.injEq] at hl
   rw [h.1,hl]
  ·have:(t==k)=false:=by simpa using e
   simp only [List.lookup,this] at hl
   exact ih h.2 t v hl
theorem ov {L Y:dk} {t:Nat}:(L++Y).lookup t=match L.lookup t with |some v=>some v|none=>Y.lookup t:=by
 induction L with
 |nil=>rfl
 |cons p L ih=>
  obtain ⟨k,u⟩:=p
  by_cases e:t==k
  ·simp [List.lookup,e]
  ·have:(t==k)=false:=by simpa using e
   simp only [List.cons_append,List.lookup,this,ih]
theorem Dl.app {B L Y:dk} (h:Dl B L):Dl B (L++Y):=fun t v ht=>by rw [ov,h t v ht]
theorem Ql {B L:dk} (h:Dl B L) {x:Operand} {v:Value} (hv:ev B x=some v):ev L x=some v:=by
 cases x<;>simp only [ev] at hv ⊢ <;>first|exact h _ _ hv|exact hv
theorem Gg {B L:dk} (h:Dl B L): ∀ {xs:List Operand} {vs:List Value},evs B xs=some vs→evs L xs=some vs
 |[],vs,hv=>hv
 |x::xs,vs,hv=>by
  simp only [evs] at hv ⊢
  cases e1:ev B x with
  |none=>rw [e1] at hv; simp at hv
  |some v=>
   cases e2:evs B xs with
   |none=>rw [e1,e2] at hv; simp at hv
   |some us=>
    rw [e1,e2] at hv
    rw [Ql h e1,Gg h e2]; exact hv
section
variable (E:fr) (ops:Array Oper) (D:List Deferred) (C':List aw) (K0:Act→World→Prop) (B:List (Nat×Value)) (dO:Nat→Nat) (VO:Nat→Nat→Value) (AO:Nat→Nat→aw)
def CH:List fW→dk→List aw→Prop
 |[],L,C=>KJ E K0 D L C
 | .take i::s,L,C=> ∀ b,CH s ((dO i,VO i b)::L) (AO i b::C)
 | .op j::s,L,C=> ∀ o,ops[j]? =some o→ ∀ (Y:dk) (X:List aw) (K:Act→World→Prop),(∀ L' C'',(∀ w,St E.S E.w0 C'' w→St E.S E.w0 C' w)→((BP dO s).all fun d=>(L'.lookup d).isNone)=true→B.map (fun p=>L'.lookup p.1)=B.map (fun p=>some p.2)→CH s L' C''→KJ E K D (L'++Y) (C''++X))→RJ E ops (NQ K) [o] D (L++Y) (C++X)
/-- a row that is made at any time -/
def Uu (i:Nat):Prop:= ∀ o,ops[i]? =some o→ ∀ (L:dk) (C:List aw) (K:Act→World→Prop),Dl B L→(∀ b,KJ E K D ((dO i,VO i b)::L) (AO i b::C))→RJ E ops (NQ K) [o] D L C
end
section
variable {E:fr} {ops:Array Oper} {D:List Deferred} {C' C1:List aw} {K0:Act→World→Prop} {B:List (Nat×Value)} {dO:Nat→Nat} {VO:Nat→Nat→Value} {AO:Nat→Nat→aw}
theorem G1 {Q:db} {rest:List Oper} {L L2:dk} {C C2:List aw} (hL: ∀ a,Fr E.n D L a→Fr E.n D L2 a) (hC: ∀ w,St E.S E.w0 C w→St E.S E.w0 C2 w) (h:RJ E ops Q rest D L2 C2):RJ E ops Q rest D L C:=fun a w hf hs=>h a w (hL a hf) (hC w hs)
theorem Bt {K:Act→World→Prop} {L L2:dk} {C C2:List aw} (hL: ∀ a,Fr E.n D L a→Fr E.n D L2 a) (hC: ∀ w,St E.S E.w0 C w→St E.S E.w0 C2 w) (h:KJ E K D L2 C2):KJ E K D L C:=fun a w hf hs=>h a w (hL a hf) (hC w hs)
theorem BY {n:Nat} {L L2:dk} (h: ∀ t v,L2.lookup t=some v→L.lookup t=some v) (a:Act) (hf:Fr n D L a):Fr n D L2 a:=⟨hf.defers,hf.size,fun t v ht=>hf.at_ t v (h t v ht)⟩
theorem Ej: ∀ (T0 s':List fW) (dn:List (Nat×Nat)) (L Y:dk) (C:List aw),(∀ x∈T0,∃ i b,x= .take i∧(i,b)∈dn)→(T0++s').Pairwise (fun x y=>rB (qs ops) dO x y=true)→(dn.map (·.1)).Nodup→(∀ p∈dn,fW.take p.1∈T0++s')→(∀ p∈dn,Y.lookup (dO p.1)=some (VO p.1 p.2))→(∀ i,fW.take i∈T0++s'→L.lookup (dO i)=none)→
 CH E ops D C' K0 B dO VO AO (T0++s') L C→ ∃ (dn':List (Nat×Nat)) (L':dk) (C2:List aw),CH E ops D C' K0 B dO VO AO s' L' C2∧(dn'.map (·.1)).Nodup∧(∀ p,p∈dn'↔p∈dn∧fW.take p.1∈s')∧(∀ t v,(L'++Y).lookup t=some v→(L++Y).lookup t=some v)∧(∀ i,fW.take i∈s'→L'.lookup (dO i)=none)∧(∀ w,St E.S E.w0 (C++dn.map fun p=>AO p.1 p.2) w→St E.S E.w0 (C2++dn'.map fun p=>AO p.1 p.2) w)
 |[],s',dn,L,Y,C,_,_,hn,hm,_,hl,h=>⟨dn,L,C,h,hn,fun p=>⟨fun q=>⟨q,hm p q⟩,fun q=>q.1⟩,fun t v q=>q,hl,fun w q=>q⟩
 |x::T0,s',dn,L,Y,C,ht,hp,hn,hm,hy,hl,h=>by
  obtain ⟨i,b,rfl,hb⟩:=ht x (cv ..)
  obtain ⟨J,P⟩:=List.pairwise_cons.1 hp
  have AB: ∀ y∈T0++s',i≠y.ix:=fun y hy e=>by
   have:=J y hy
   simp only [rB,cU,bne_iff_ne,fW.ix] at this
   exact this.1 e
  have N: ∀ k,fW.take k∈T0++s'→dO k≠dO i:=fun k hk e=>by
   have:=J _ hk
   simp only [rB,cU,bne_iff_ne] at this
   exact this.2 e.symm
  have K:dn.Perm ((i,b)::dn.erase (i,b)):=List.perm_cons_erase hb
  have H:((dn.erase (i,b)).map (·.1)).Nodup∧i ∉ (dn.erase (i,b)).map (·.1):=by
   have:=(K.map (·.1)).nodup_iff.1 hn
   exact ⟨(List.nodup_cons.1 this).2,(List.nodup_cons.1 this).1⟩
  have A: ∀ p∈dn.erase (i,b),p∈dn∧p.1≠i:=fun p hp=>⟨List.mem_of_mem_erase hp,fun e=>by have q:=List.mem_map_of_mem (f:=fun p:Nat×Nat=>p.1) hp; simp only [e] at q; exact H.2 q⟩
  have O:L.lookup (dO i)=none:=hl i (cv ..)
  obtain ⟨dn',L',C2,R,T,AA,V,W,X⟩:=Ej T0 s' (dn.erase (i,b)) ((dO i,VO i b)::L) Y (AO i b::C) (fun x hx=>by
   obtain ⟨k,c,rfl,hk⟩:=ht x (cY _ hx)
   refine ⟨k,c,U,?_⟩
   have F:k≠i:=fun e=>AB _ (List.mem_append_left _ hx) e.symm
   exact (List.mem_erase_of_ne (fun e=>F (congrArg Prod.fst e))).2 hk) P H.1 (fun p hp=>by
   obtain ⟨M,G⟩:=A p hp
   rcases bx.1 (hm p M) with e|e
   ·injection e with e; exact absurd e G
   ·exact e) (fun p hp=>hy p (A p hp).1) (fun k hk=>by
   have:(dO k==dO i)=false:=by simpa using N k hk
   simp only [List.lookup,this]
   exact hl k (cY _ hk)) (h b)
  refine ⟨dn',L',C2,R,T,fun p=>?_,fun t v hv=>?_,W,fun w hw=>X w ?_⟩
  ·rw [AA]
   constructor
   ·rintro ⟨M,G⟩; exact ⟨(A p M).1,G⟩
   ·rintro ⟨M,G⟩
    have F:p.1≠i:=fun e=>AB _ (List.mem_append_right _ G) e.symm
    exact ⟨(List.mem_erase_of_ne (fun e=>F (congrArg Prod.fst e))).2 M,G⟩
  ·have:=V t v hv
   rw [ov] at this ⊢
   by_cases e:t=dO i
   ·subst e
    simp only [List.lookup,beq_self_eq_true] at this
    rw [O]; simp only
    rw [hy _ hb]; exact this
   ·have Q:(t==dO i)=false:=by simpa using e
    simp only [List.lookup,Q] at this
    exact this
  ·refine hw.perm ?_
   show (C++dn.map fun p=>AO p.1 p.2).Perm (AO i b::(C++(dn.erase (i,b)).map fun p=>AO p.1 p.2))
   refine ((K.map fun p:Nat×Nat=>AO p.1 p.2).append_left C).trans ?_
   exact List.perm_middle
theorem BX: ∀ (s:List fW) (j:Nat),fW.op j∈s→ ∃ T0 k s',s=T0++fW.op k::s'∧ ∀ x∈T0,∃ i,x=fW.take i
 | .take i::s,j,h=>by
  rcases bx.1 h with e|h
  ·cases e
  ·obtain ⟨T0,k,s',rfl,A⟩:=BX s j h
   exact ⟨.take i::T0,k,s',U,fun x hx=>by
    rcases bx.1 hx with rfl|hx
    ·exact ⟨i,U⟩
    ·exact A x hx⟩
 | .op k::s,j,_=>⟨[],k,s,rfl,fun x hx=>by cases hx⟩
def kY (s:List fW) (dn:List (Nat×Nat)):List Nat:=(s.map fW.ix).filter fun i=> !(dn.map (·.1)).contains i
theorem rL {s:List fW} {dn:List (Nat×Nat)} {i:Nat}:i∈kY s dn↔(∃ x∈s,x.ix=i)∧ ∀ p∈dn,p.1≠i:=by
 unfold kY
 rw [List.mem_filter,bZ]
 refine and_congr Iff.rfl ?_
 rw [Bool.not_eq_true',← Bool.not_eq_true,List.contains_iff_mem,bZ]
 constructor
 ·intro h p hp e; exact h ⟨p,hp,e⟩
 ·rintro h ⟨p,hp,e⟩; exact h p hp e
theorem qU (hal: ∀ i,Uu E ops D B dO VO AO i∨True): ∀ (n:Nat) (s:List fW) (dn:List (Nat×Nat)) (L Y:dk) (C:List aw),(∀ i,fW.take i∈s→Uu E ops D B dO VO AO i)→s.Pairwise (fun x y=>rB (qs ops) dO x y=true)→(kY s dn).length=n→(dn.map (·.1)).Nodup→(∀ p∈dn,fW.take p.1∈s)→(∀ p∈dn,Y.lookup (dO p.1)=some (VO p.1 p.2))→(∀ i,fW.take i∈s→L.lookup (dO i)=none)→Dl B L→
 (∀ w,St E.S E.w0 C w→St E.S E.w0 C' w)→CH E ops D C' K0 B dO VO AO s L C→TN E ops D C' C1 (fun L C=>KJ E K0 D L C) [] n (kY s dn) (L++Y) (C++dn.map fun p=>AO p.1 p.2)
 |0,s,dn,L,Y,C,_,hp,hlen,hn,hm,hy,hl,hB,hC,h=>by
  have hr:kY s dn=[]:=j1 hlen
  have Q: ∀ x∈s,∃ i b,x=fW.take i∧(i,b)∈dn:=fun x hx=>by
   have hx':x.ix ∉ kY s dn:=by rw [hr]; exact List.not_mem_nil
   rw [rL] at hx'
   have: ∃ p∈dn,p.1=x.ix:=by
    apply Classical.byContradiction
    intro q
    exact hx' ⟨⟨x,hx,U⟩,fun p hp e=>q ⟨p,hp,e⟩⟩
   obtain ⟨p,T,AA⟩:=this
   have ht:=hm p T
   rcases List.mem_iff_getElem.1 hx with ⟨a,ha,ea⟩
   rcases List.mem_iff_getElem.1 ht with ⟨c,hc,ec⟩
   have d:a=c:=by
    rcases Nat.lt_trichotomy a c with q|q|q
    ·have:=eV.1 hp a c ha hc q
     simp only [rB,cU,bne_iff_ne,ea,ec] at this
     exact absurd AA.symm this.1
    ·exact q
    ·have:=eV.1 hp c a hc ha q
     simp only [rB,cU,bne_iff_ne,ea,ec] at this
     exact absurd AA this.1
   subst d
   exact ⟨p.1,p.2,by rw [← ea,ec],T⟩
  obtain ⟨dn',L',C2,V,J,O,W,h5,X⟩:=Ej s [] dn L Y C Q (by simpa using hp) hn (by simpa using hm) hy (by simpa using hl) (by simpa using h)
  show KJ E K0 D _ _
  have hd:dn'=[]:=List.eq_nil_iff_forall_not_mem.2 fun p hp=>by have:=((O p).1 hp).2; cases this
  subst hd
  refine Bt (L2:=L') (C2:=C2) (fun a hf=>BY (fun t v ht=>W t v (by rw [ov,ht])) a hf) (fun w hw=>by have:=X w hw; simpa using this) V
 |n+1,s,dn,L,Y,C,hal',hp,hlen,hn,hm,hy,hl,hB,hC,h=>by
  intro i hi o ho K hK
  obtain ⟨G,m⟩:=List.mem_filter.1 hi
  obtain ⟨⟨x,hx,rfl⟩,H⟩:=rL.1 G
  have A: ∀ k∈kY s dn,iM (qs ops) k x.ix=false:=fun k hk=>by
   have:=cV.1 m k hk
   simpa using this
  cases x with
  |take i=>
   simp only [fW.ix] at H A ho hK G ⊢
   refine hal' i hx o ho _ _ K hB.app fun b=>?_
   have l:=hl i hx
   have AB:(kY s dn).filter (· != i)=kY s ((i,b)::dn):=by
    unfold kY
    rw [List.filter_filter]
    apply List.filter_congr
    intro k _
    simp only [List.map_cons,List.contains_cons,Bool.not_or]
    rfl
   have N:(kY s dn).Nodup:=by
    unfold kY
    refine List.Nodup.sublist List.filter_sublist<|List.pairwise_map.2 (hp.imp fun {a c} q=>?_)
    simp only [rB,cU,bne_iff_ne] at q
    exact q.1
   have M: ∀ k,fW.take k∈s→k≠i→dO k≠dO i:=fun k hk AC e=>by
    rcases List.mem_iff_getElem.1 hx with ⟨a,ha,ea⟩
    rcases List.mem_iff_getElem.1 hk with ⟨c,hc,ec⟩
    rcases Nat.lt_trichotomy a c with q|q|q
    ·have:=eV.1 hp a c ha hc q
     simp only [rB,cU,bne_iff_ne,ea,ec] at this
     exact this.2 e.symm
    ·subst q; rw [ea] at ec; cases ec; exact AC rfl
    ·have:=eV.1 hp c a hc ha q
     simp only [rB,cU,bne_iff_ne,ea,ec] at this
     exact this.2 e
   refine Bt (L2:=L++((dO i,VO i b)::Y)) (C2:=C++((i,b)::dn).map fun p=>AO p.1 p.2) (fun a hf=>BY (fun t v ht=>?_) a hf) (fun w hw=>hw.perm (List.perm_middle).symm) (hK _ _ (fun w hw=>hC w (hw.take (List.sublist_append_left _ _))) (fun q=>by cases q) ?_)
   ·rw [ov] at ht
    by_cases e:t=dO i
    ·subst e
     rw [l] at ht
     simp only [List.lookup,beq_self_eq_true] at ht ⊢
     exact ht
    ·have e2:(t==dO i)=false:=by simpa using e
     simp only [List.lookup,e2] at ht ⊢
     rw [ov]; exact ht
   ·rw [AB]
    refine qU hal n s ((i,b)::dn) L ((dO i,VO i b)::Y) C hal' hp ?_ (List.nodup_cons.2 ⟨fun q=>?_,hn⟩) (fun p hp'=>?_) (fun p hp'=>?_) hl hB hC h
    ·rw [← AB,← List.Nodup.erase_eq_filter N,List.length_erase_of_mem G,hlen]; rfl
    ·obtain ⟨p,hp',e⟩:=bZ.1 q
     exact H p hp' e
    ·rcases bx.1 hp' with rfl|hp'
     ·exact hx
     ·exact hm p hp'
    ·rcases bx.1 hp' with rfl|hp'
     ·simp [List.lookup]
     ·have:(dO p.1==dO i)=false:=by simpa using M p.1 (hm p hp') (H p hp')
      simp only [List.lookup,this]
      exact hy p hp'
  |op j=>
   simp only [fW.ix] at H A ho hK G ⊢
   obtain ⟨T0,k,s',rfl,hT⟩:=BX s j hx
   obtain ⟨q1,q2,q3⟩:=List.pairwise_append.1 hp
   obtain ⟨q4,q5⟩:=List.pairwise_cons.1 q2
   have R: ∀ k',fW.op k'∈T0++fW.op k::s'→k'∈kY (T0++fW.op k::s') dn:=fun k' hk'=>by
    refine rL.2 ⟨⟨_,hk',U⟩,fun p hp' e=>?_⟩
    have ht:=hm p hp'
    rcases List.mem_iff_getElem.1 hk' with ⟨a,ha,ea⟩
    rcases List.mem_iff_getElem.1 ht with ⟨c,hc,ec⟩
    rcases Nat.lt_trichotomy a c with q|q|q
    ·have:=eV.1 hp a c ha hc q
     simp only [rB,cU,bne_iff_ne,ea,ec,fW.ix] at this
     exact this.1 e.symm
    ·subst q; rw [ea] at ec; cases ec
    ·have:=eV.1 hp c a hc ha q
     simp only [rB,cU,bne_iff_ne,ea,ec,fW.ix] at this
     exact this.1 e
   have A0:k=j:=by
    apply Classical.byContradiction
    intro A1
    have hj':fW.op j∈s':=by
     rcases dN.1 hx with q|q
     ·obtain ⟨i,e⟩:=hT _ q; cases e
     ·rcases bx.1 q with e|q
      ·injection e with e; exact absurd e.symm A1
      ·exact q
    have:=q4 _ hj'
    simp only [rB,cU,fW.ix] at this
    have J:=A k (R k sm)
    rw [this.2] at J; cases J
   subst A0
   have F: ∀ x∈T0,∃ i b,x=fW.take i∧(i,b)∈dn:=fun x hx'=>by
    obtain ⟨i,rfl⟩:=hT x hx'
    apply Classical.byContradiction
    intro q
    have r:i∈kY (T0++fW.op k::s') dn:=rL.2 ⟨⟨_,List.mem_append_left _ hx',rfl⟩,fun p hp' e=>q ⟨i,p.2,rfl,by rw [← e]; exact hp'⟩⟩
    have:=q3 _ hx' _ (cv ..)
    simp only [rB,cU,fW.ix] at this
    have J:=A i r
    rw [this.2] at J; cases J
   obtain ⟨dn',L',C2,V,J,O,W,h5,X⟩:=Ej T0 (fW.op k::s') dn L Y C F hp hn hm hy hl h
   refine G1 (fun a hf=>BY W a hf) X (V o ho Y (dn'.map fun p=>AO p.1 p.2) K fun L3 C3 P A2 Z g=>?_)
   have AB:(kY (T0++fW.op k::s') dn).filter (· != k)=kY s' dn':=by
    unfold kY
    rw [List.map_append,List.filter_append,List.map_cons,List.filter_append]
    have e1:(List.map fW.ix T0).filter (fun i=> !(dn.map (·.1)).contains i)=[]:=by
     apply List.filter_eq_nil_iff.2
     intro z hz
     obtain ⟨x,hx',rfl⟩:=bZ.1 hz
     obtain ⟨i,b,rfl,hb⟩:=F x hx'
     simp only [fW.ix,Bool.not_eq_true',Bool.not_eq_false,List.contains_iff_mem]
     exact List.mem_map_of_mem (f:=(·.1)) hb
    rw [e1]
    simp only [List.filter_nil,List.nil_append]
    have u:k ∉ dn.map (·.1):=fun q=>by
     obtain ⟨p,hp',e⟩:=bZ.1 q
     exact H p hp' e
    rw [List.filter_cons_of_pos (by simpa [fW.ix] using u),List.filter_cons_of_neg (by simp [fW.ix]),List.filter_filter]
    apply List.filter_congr
    intro z hz
    obtain ⟨y,hy',rfl⟩:=bZ.1 hz
    have A3:y.ix≠k:=fun e=>by
     have:=q4 y hy'
     simp only [rB,cU,bne_iff_ne,fW.ix] at this
     exact this.1 e.symm
    rw [Bool.eq_iff_iff]
    simp only [cU,bne_iff_ne,Bool.not_eq_true',← Bool.not_eq_true,List.contains_iff_mem]
    constructor
    ·rintro ⟨_,hq⟩ hc
     obtain ⟨p,hp',e⟩:=bZ.1 hc
     exact hq (by rw [← e]; exact List.mem_map_of_mem (f:=(·.1)) ((O p).1 hp').1)
    ·intro hq
     refine ⟨A3,fun hc=>?_⟩
     obtain ⟨p,hp',e⟩:=bZ.1 hc
     apply hq
     rw [← e]
     refine List.mem_map_of_mem (f:=(·.1)) ((O p).2 ⟨hp',?_⟩)
     have ht:=hm p hp'
     rcases dN.1 ht with ht|ht
     ·exfalso
      have:=q3 _ ht _ (cY _ hy')
      simp only [rB,cU,bne_iff_ne,fW.ix] at this
      exact this.1 e
     ·exact ht
   have N:(kY (T0++fW.op k::s') dn).Nodup:=by
    unfold kY
    refine List.Nodup.sublist List.filter_sublist<|List.pairwise_map.2 (hp.imp fun {a c} q=>?_)
    simp only [rB,cU,bne_iff_ne] at q
    exact q.1
   refine hK _ _ (fun w hw=>P w (hw.take (List.sublist_append_left _ _))) (fun q=>by cases q) ?_
   rw [AB]
   have hdn': ∀ p∈dn',fW.take p.1∈s':=fun p hp'=>by
    rcases bx.1 ((O p).1 hp').2 with e|e
    ·cases e
    ·exact e
   refine qU hal n s' dn' L3 Y C3 (fun i hi=>hal' i (by simp [hi])) q5 ?_ J hdn' (fun p hp'=>hy p ((O p).1 hp').1) (fun i hi=>?_) (wx Z) P g
   ·rw [← AB,← List.Nodup.erase_eq_filter N,List.length_erase_of_mem G,hlen]; rfl
   ·have:=cV.1 A2 _ (uh hi)
    simpa using this
/-- the rows, at any time; the others, one after the other -/
theorem N0 {tb rem:List Nat} {L:dk} {C:List aw} (s:List fW) (B:dk) (dO:Nat→Nat) (VO:Nat→Nat→Value) (AO:Nat→Nat→aw) {n:Nat} (htb:tb=[]) (hr:s.map fW.ix=rem) (hn:rem.length=n) (hp:UU (qs ops) dO s=true) (hl:((BP dO s).all fun d=>(L.lookup d).isNone)=true) (hB:B.map (fun p=>L.lookup p.1)=B.map (fun p=>some p.2)) (hC: ∀ w,St E.S E.w0 C w→St E.S E.w0 C' w)
 (hal: ∀ i,fW.take i∈s→Uu E ops D B dO VO AO i) (h:CH E ops D C' K0 B dO VO AO s L C):TN E ops D C' C1 (fun L C=>KJ E K0 D L C) tb n rem L C:=by
 subst htb hr
 have e:kY s []=s.map fW.ix:=by unfold kY; simp
 have:=qU (C1:=C1) (fun i=> .inr trivial) n s [] L [] C hal (GK hp) (by rw [e]; exact hn) List.nodup_nil (fun p hp=>by cases hp) (fun p hp=>by cases hp) (fun i hi=>by
  have:=cV.1 hl _ (uh hi)
  simpa using this) (wx hB) hC h
 simpa [e] using this
theorem Qf {p:Nat→Prop}: ∀ i,fW.take i∈([]:List fW)→p i:=fun i h=>by cases h
theorem yP {p:Nat→Prop} {j:Nat} {s:List fW} (h: ∀ i,fW.take i∈s→p i): ∀ i,fW.take i∈fW.op j::s→p i:=fun i hi=>by
 rcases bx.1 hi with e|hi
 ·cases e
 ·exact h i hi
theorem wL {p:Nat→Prop} {j:Nat} {s:List fW} (hj:p j) (h: ∀ i,fW.take i∈s→p i): ∀ i,fW.take i∈fW.take j::s→p i:=fun i hi=>by
 rcases bx.1 hi with e|hi
 ·cases e; exact hj
 ·exact h i hi
end
section
variable {E:fr} {ops:Array Oper} {D:List Deferred} {B:List (Nat×Value)} {dO:Nat→Nat} {VO:Nat→Nat→Value} {AO:Nat→Nat→aw}
variable {d:Nat} {ty:TypeId} {ps:String} {af:Array Edge}
theorem M0 {i t e sz:Nat} (ho:ops[i]? =some ⟨some d,.buildSlice t 0 #[],ty,ps,af,none⟩) (ht:tE E.P t=some (e,sz)) (hd:Nat.blt d E.n=true) (h1:dO i=d) (h2: ∀ b,VO i b= .slice (some ⟨b,0,none⟩) 0 0) (h3: ∀ b,AO i b=cm b e []):Uu E ops D B dO VO AO i:=fun o ho' L C K hB hk=>by
 rw [ho] at ho'; cases ho'
 exact lY U ht hd fun b=>aB (by have:=hk b; rw [h1,h2,h3] at this; exact this)
theorem P6 {i t e sz n:Nat} {xs:List Operand} {vs:List Value} {cs zs:List Value} (ho:ops[i]? =some ⟨some d,.buildSlice t n ((xs.zipIdx.map fun p=>(p.2,p.1)).toArray),ty,ps,af,none⟩) (ht:tE E.P t=some (e,sz)) (hz:tZ E.P e=some zs) (hx:evs B xs=some vs) (hn:xs.length=n) (hp:Nat.blt 0 (n*sz)=true) (hb:Nat.ble (n*sz) 16777216=true) (hv: ∀ v∈vs,v.cells.size=sz)
 (hc:(vs.map (·.cells.toList)).flatten=cs) (hd:Nat.blt d E.n=true) (h1:dO i=d) (h2: ∀ b,VO i b= .slice (some ⟨b,0,none⟩) n n) (h3: ∀ b,AO i b=cm b e cs):Uu E ops D B dO VO AO i:=fun o ho' L C K hB hk=>by
 rw [ho] at ho'; cases ho'
 exact dj U ht hz (Gg hB hx) hn hp hb hv hc hd fun b=>aB (by have:=hk b; rw [h1,h2,h3] at this; exact this)
end
section
variable {E:fr} {ops:Array Oper} {D:List Deferred} {C':List aw} {K0:Act→World→Prop} {B:List (Nat×Value)} {dO:Nat→Nat} {VO:Nat→Nat→Value} {AO:Nat→Nat→aw}
theorem xq {j:Nat} {s:List fW} {L:dk} {C:List aw} {o:Oper} (ho:ops[j]? =some o)
 (h: ∀ (Y:dk) (X:List aw) (K:Act→World→Prop),(∀ L' C'',(∀ w,St E.S E.w0 C'' w→St E.S E.w0 C' w)→((BP dO s).all fun d=>(L'.lookup d).isNone)=true→B.map (fun p=>L'.lookup p.1)=B.map (fun p=>some p.2)→CH E ops D C' K0 B dO VO AO s L' C''→KJ E K D (L'++Y) (C''++X))→RJ E ops (NQ K) [o] D (L++Y) (C++X)):CH E ops D C' K0 B dO VO AO (.op j::s) L C:=fun o' ho'=>by
 rw [ho] at ho'; cases ho'
 exact h
theorem tg {s:List fW} {L Y:dk} {C X:List aw} {K:Act→World→Prop} (hT: ∀ L' C'',(∀ w,St E.S E.w0 C'' w→St E.S E.w0 C' w)→((BP dO s).all fun d=>(L'.lookup d).isNone)=true→B.map (fun p=>L'.lookup p.1)=B.map (fun p=>some p.2)→CH E ops D C' K0 B dO VO AO s L' C''→KJ E K D (L'++Y) (C''++X)) (nL nC:Nat)
 (hL:L.take nL++Y=L) (hC:C.take nC++X=C) (h1: ∀ w,St E.S E.w0 (C.take nC) w→St E.S E.w0 C' w) (h2:((BP dO s).all fun d=>((L.take nL).lookup d).isNone)=true) (h3:B.map (fun p=>(L.take nL).lookup p.1)=B.map (fun p=>some p.2)) (h:CH E ops D C' K0 B dO VO AO s (L.take nL) (C.take nC)):RJ E ops (NQ K) [] D L C:=by
 have:=hT _ _ h1 h2 h3 h
 rw [hL,hC] at this
 exact aB this
theorem UA {c:Code} {Q:db} {L L':dk} {C:List aw} (h:L'.map (fun p=>L.lookup p.1)=L'.map (fun p=>some p.2)) (k:WJ E c Q D L' C):WJ E c Q D L C:=fun a w hf hs=>k a w (BY (wx h) a hf) hs
theorem xw: ∀ {C:List aw} {i:Nat} {A:aw},C[i]? =some A→C.Perm (A::C.eraseIdx i)
 |[],i,A,h=>by simp at h
 |x::C,0,A,h=>by
  simp at h; subst h
  exact List.Perm.refl _
 |x::C,i+1,A,h=>((xw (C:=C) (i:=i) (by simpa using h)).cons x).trans (List.Perm.swap _ _ _)
theorem St.front {S:BS} {w0 w:World} {C:List aw} {A:aw} (i:Nat) (hi:C[i]? =some A) (h:St S w0 C w):St S w0 (A::C.eraseIdx i) w:=h.perm (xw hi)
theorem F2 {K:Act→World→Prop} {L:dk} {C:List aw} {A:aw} (i:Nat) (hi:C[i]? =some A) (h:KJ E K D L (A::C.eraseIdx i)):KJ E K D L C:=fun a w hf hs=>h a w hf (hs.front i hi)
theorem rZ {Q:db} {rest:List Oper} {L:dk} {C:List aw} {A:aw} (i:Nat) (hi:C[i]? =some A) (h:RJ E ops Q rest D L (A::C.eraseIdx i)):RJ E ops Q rest D L C:=fun a w hf hs=>h a w hf (hs.front i hi)
end
end
section
open Go.RowKit
section
variable {E:fr} {ops:Array Oper} {D:List Deferred} {C' C1:List aw} {tb:List Nat}
theorem wX {V:Type} {F:dk→List aw→Prop} (P:V→Prop) (fL:V→dk) (fC:V→List aw) (n:Nat) (rest:List Nat) {m:Nat} {rem:List Nat} {L:dk} {C:List aw} (h1:(∀ v,P v→TN E ops D C' C1 F tb n rest (fL v) (fC v))→TN E ops D C' C1 F tb m rem L C) (h2: ∀ v,P v→TN E ops D C' C1 F tb n rest (fL v) (fC v)):TN E ops D C' C1 F tb m rem L C:=h1 h2
theorem ir {F:dk→List aw→Prop} {rem':List Nat} {n i:Nat} {L:dk} {C:List aw} {o:Oper} (ho:ops[i]? =some o)
 (h: ∀ K:Act→World→Prop,(∀ L' C'',(∀ w,St E.S E.w0 C'' w→St E.S E.w0 C' w)→TN E ops D C' C1 F tb n rem' L' C''→KJ E K D L' C'')→RJ E ops (NQ K) [o] D L C) (hm:((i::rem').filter fun k=>(i::rem').all fun j=> !iM (qs ops) j k)=[i]:=by kernel_rfl) (hr:(i::rem').filter (· != i)=rem':=by kernel_rfl) (ht:tb.contains i=false:=by rfl):TN E ops D C' C1 F tb (n+1) (i::rem') L C:=
 je [i] hm (eQ (iK ho hr ht h) kX)
theorem Rr {K0:Act→World→Prop} {n:Nat} {rem:List Nat} {L L2:dk} {C C2:List aw} (hL: ∀ a,Fr E.n D L a→Fr E.n D L2 a) (hC: ∀ w,St E.S E.w0 C w→St E.S E.w0 C2 w) (h:TN E ops D C' C1 (fun L C=>KJ E K0 D L C) tb n rem L2 C2):TN E ops D C' C1 (fun L C=>KJ E K0 D L C) tb n rem L C:=by
 cases n with
 |zero=>exact Bt hL hC h
 |succ n=>exact fun i hi o ho K hK=>G1 hL hC (h i hi o ho K hK)
theorem kd {V:Type} {P:V→Prop} {fL:V→dk} {fC:V→List aw} {K0:Act→World→Prop} {n:Nat} {rem rest:List Nat} {L:dk} {C:List aw} (hJ: ∀ v,P v→TN E ops D C' C1 (fun L C=>KJ E K0 D L C) tb n rest (fL v) (fC v)) (v:V) (hp:P v) (ix:List Nat) (hL:(fL v).map (fun p=>L.lookup p.1)=(fL v).map (fun p=>some p.2)) (hn:decide ix.Nodup=true) (hC:lP C ix=some (fC v)) (hr:rem=rest:=by kernel_rfl):TN E ops D C' C1 (fun L C=>KJ E K0 D L C) tb n rem L C:=hr▸
 Rr (fun a hf=>BY (wx hL) a hf) (fun w hs=>St.kD _ hn (jl hC) hs) (hJ v hp)
end
theorem JY {E:fr} {id:Nat} {ops:Array Oper} {Q:db} {D:g5} {L:dk} {C:List aw} (hm:E.P.follows .mixedOrders=true) (T i1:List Nat) {C':List aw} {free:List Nat} {JO:List Bool} (h1:lP C i1=some C') (hf:free=Tt ops.size T) (hfe:JO=Vg free.length [])
 (h:qz E ops D C' [] (fun L'=>TN E ops D C' [] (fun L C=>KJ E (Q .normal) D L C) [] T.length T L' C) JO (eY ops free) L) (hc:Gf ops free T JO []=true:=by kernel_rfl) (n1:decide i1.Nodup=true:=by rfl):WJ E (.region id ops true) Q D L C:=
 p9 hm free T JO [] C' [] hc (ND i1 h1 n1) (ND [] rfl rfl) h
section
end
end
section
open Go.RowKit
theorem Kh (l:List al) (lA:OA) (lC:Nat) (hlen:l.length≤1000000):
 lB Tryz.prog 142 [(vS lA l.length lC)] [(rd lA l.length 9 (l.map al.cells))] (fun (x:(OA)×Nat)=>(vS x.1 l.length x.2)) (fun (x:(OA)×Nat)=>True) (fun (x:(OA)×Nat)=>[(own x.1 x.2 153 9 (l.map al.cells))]):=by
 refine dh kr Tryz.func142 U U fun L Q hQ hN=>?_
 try dsimp only
 refine WS fun _ D=>bk 1 U<|RK D<|aj fun _ E=>WS fun _ F=>rP 1 [] mn ?_
 refine rS (BI U (q9 QX))<|RK F<|cP U (aO fun B=>?_) (aN fun B=>?_)
 ·refine WS fun _ G=>mO (aA 0 U) B dc fun C=>?_
  have A:l=[]:=by simpa using C
  refine dY 153 9 ?_
  rw [show (own none 0 153 9 ([]:List (List Value)))=own none 0 153 9 (l.map al.cells) from by rw [A]; rfl]
  refine rP 1 [] mn ?_
  refine RK G<|av ?_
  refine LX hQ (none,0) [0] [] mn U U U ?_ ?_
  ·first|rfl|(rw [A]; rfl)
  ·trivial
 refine WK E<|WS fun _ H=>lY U ym U fun J=>rP 1 [] mn ?_
 refine cW (es:=(List.map al.cells [])) (C':=[own (some ⟨J,0,none⟩) 0 153 9 (List.map al.cells []),_]) 0 U sm U (by simp [maxLen]) U ?_
 refine cL (es2:=(List.map al.cells l)) (m':=l.length) 0 U U U UI U U sm (aA 1 U) (oc _) os (by first|(simp only [maxLen]; omega)|(simp [maxLen]; omega)) sm sm U fun AA K=>?_
 try dsimp only
 refine rP 1 [] mn ?_
 refine RK H<|av ?_
 refine LX hQ (AA,K) [0] [] mn U U U ?_ ?_
 ·first|rfl|(rw [A]; rfl)
 ·trivial
theorem LY (l:List bE) (lA:OA) (lC:Nat) (hlen:l.length≤1000000):
 lB Tryz.prog 144 [(vS lA l.length lC)] [(rd lA l.length 4 (l.map bE.cells))] (fun (x:(OA)×Nat)=>(vS x.1 l.length x.2)) (fun (x:(OA)×Nat)=>True) (fun (x:(OA)×Nat)=>[(own x.1 x.2 160 4 (l.map bE.cells))]):=by
 refine dh kr Tryz.func144 U U fun L Q hQ hN=>?_
 try dsimp only
 refine WS fun _ D=>bk 1 U<|RK D<|aj fun _ E=>WS fun _ F=>rP 1 [] mn ?_
 refine rS (BI U (q9 Q0))<|RK F<|cP U (aO fun B=>?_) (aN fun B=>?_)
 ·refine WS fun _ G=>mO (aA 0 U) B dc fun C=>?_
  have A:l=[]:=by simpa using C
  refine dY 160 4 ?_
  rw [show (own none 0 160 4 ([]:List (List Value)))=own none 0 160 4 (l.map bE.cells) from by rw [A]; rfl]
  refine rP 1 [] mn ?_
  refine RK G<|av ?_
  refine LX hQ (none,0) [0] [] mn U U U ?_ ?_
  ·first|rfl|(rw [A]; rfl)
  ·trivial
 refine WK E<|WS fun _ H=>lY U vx U fun J=>rP 1 [] mn ?_
 refine cW (es:=(List.map bE.cells [])) (C':=[own (some ⟨J,0,none⟩) 0 160 4 (List.map bE.cells []),_]) 0 U sm U (by simp [maxLen]) U ?_
 refine cL (es2:=(List.map bE.cells l)) (m':=l.length) 0 U U U Uv U U sm (aA 1 U) (qt _) os (by first|(simp only [maxLen]; omega)|(simp [maxLen]; omega)) sm sm U fun AA K=>?_
 try dsimp only
 refine rP 1 [] mn ?_
 refine RK H<|av ?_
 refine LX hQ (AA,K) [0] [] mn U U U ?_ ?_
 ·first|rfl|(rw [A]; rfl)
 ·trivial
theorem Lp (l:List cr) (lA:OA) (lC:Nat) (hlen:l.length≤1000000):
 lB Tryz.prog 145 [(vS lA l.length lC)] [(rd lA l.length 3 (l.map cr.cells))] (fun (x:(OA)×Nat)=>(vS x.1 l.length x.2)) (fun (x:(OA)×Nat)=>True) (fun (x:(OA)×Nat)=>[(own x.1 x.2 55 3 (l.map cr.cells))]):=by
 refine dh kr Tryz.func145 U U fun L Q hQ hN=>?_
 try dsimp only
 refine WS fun _ D=>bk 1 U<|RK D<|aj fun _ E=>WS fun _ F=>rP 1 [] mn ?_
 refine rS (BI U (q9 R_))<|RK F<|cP U (aO fun B=>?_) (aN fun B=>?_)
 ·refine WS fun _ G=>mO (aA 0 U) B dc fun C=>?_
  have A:l=[]:=by simpa using C
  refine dY 55 3 ?_
  rw [show (own none 0 55 3 ([]:List (List Value)))=own none 0 55 3 (l.map cr.cells) from by rw [A]; rfl]
  refine rP 1 [] mn ?_
  refine RK G<|av ?_
  refine LX hQ (none,0) [0] [] mn U U U ?_ ?_
  ·first|rfl|(rw [A]; rfl)
  ·trivial
 refine WK E<|WS fun _ H=>lY U tW U fun J=>rP 1 [] mn ?_
 refine cW (es:=(List.map cr.cells [])) (C':=[own (some ⟨J,0,none⟩) 0 55 3 (List.map cr.cells []),_]) 0 U sm U (by simp [maxLen]) U ?_
 refine cL (es2:=(List.map cr.cells l)) (m':=l.length) 0 U U U S9 U U sm (aA 1 U) (qo _) os (by first|(simp only [maxLen]; omega)|(simp [maxLen]; omega)) sm sm U fun AA K=>?_
 try dsimp only
 refine rP 1 [] mn ?_
 refine RK H<|av ?_
 refine LX hQ (AA,K) [0] [] mn U U U ?_ ?_
 ·first|rfl|(rw [A]; rfl)
 ·trivial
theorem ML (l:List aH) (lA:OA) (lC:Nat) (hlen:l.length≤1000000):
 lB Tryz.prog 148 [(vS lA l.length lC)] [(rd lA l.length 2 (l.map aH.cells))] (fun (x:(OA)×Nat)=>(vS x.1 l.length x.2)) (fun (x:(OA)×Nat)=>True) (fun (x:(OA)×Nat)=>[(own x.1 x.2 107 2 (l.map aH.cells))]):=by
 refine dh kr Tryz.func148 U U fun L Q hQ hN=>?_
 try dsimp only
 refine WS fun _ D=>bk 1 U<|RK D<|aj fun _ E=>WS fun _ F=>rP 1 [] mn ?_
 refine rS (BI U (q9 S6))<|RK F<|cP U (aO fun B=>?_) (aN fun B=>?_)
 ·refine WS fun _ G=>mO (aA 0 U) B dc fun C=>?_
  have A:l=[]:=by simpa using C
  refine dY 107 2 ?_
  rw [show (own none 0 107 2 ([]:List (List Value)))=own none 0 107 2 (l.map aH.cells) from by rw [A]; rfl]
  refine rP 1 [] mn ?_
  refine RK G<|av ?_
  refine LX hQ (none,0) [0] [] mn U U U ?_ ?_
  ·first|rfl|(rw [A]; rfl)
  ·trivial
 refine WK E<|WS fun _ H=>lY U wh U fun J=>rP 1 [] mn ?_
 refine cW (es:=(List.map aH.cells [])) (C':=[own (some ⟨J,0,none⟩) 0 107 2 (List.map aH.cells []),_]) 0 U sm U (by simp [maxLen]) U ?_
 refine cL (es2:=(List.map aH.cells l)) (m':=l.length) 0 U U U SL U U sm (aA 1 U) (oQ _) os (by first|(simp only [maxLen]; omega)|(simp [maxLen]; omega)) sm sm U fun AA K=>?_
 try dsimp only
 refine rP 1 [] mn ?_
 refine RK H<|av ?_
 refine LX hQ (AA,K) [0] [] mn U U U ?_ ?_
 ·first|rfl|(rw [A]; rfl)
 ·trivial
theorem Ln (es:List (List Value)) (lA:OA) (n lC:Nat) (hlen:n≤1000000) (hes:es.length=n) (hone: ∀ v∈es.flatten,v.oneCell'=true):
 lB Tryz.prog 143 [(vS lA n lC)] [(rd lA n 2 es)] (fun (x:(OA)×Nat)=>(vS x.1 n x.2)) (fun (x:(OA)×Nat)=>True) (fun (x:(OA)×Nat)=>[(own x.1 x.2 53 2 es)]):=by
 refine dh kr Tryz.func143 U U fun L Q hQ hN=>?_
 try dsimp only
 refine WS fun _ D=>bk 1 U<|RK D<|aj fun _ E=>WS fun _ F=>rP 1 [] mn ?_
 refine rS (BI U (q9 Td))<|RK F<|cP U (aO fun B=>?_) (aN fun B=>?_)
 ·refine WS fun _ G=>mO (aA 0 U) B dc fun C=>?_
  have A:es=[]:=C
  refine dY 53 2 ?_
  rw [show (own none 0 53 2 ([]:List (List Value)))=own none 0 53 2 es from by rw [A]]
  refine rP 1 [] mn ?_
  refine RK G<|av ?_
  refine LX hQ (none,0) [0] [] mn U U U ?_ ?_
  ·first|rfl|(rw [hes]; rfl)|(rw [← hes,A]; rfl)
  ·trivial
 refine WK E<|WS fun _ H=>lY U uC U fun J=>rP 1 [] mn ?_
 refine cW (es:=(List.map dD.cells [])) (C':=[own (some ⟨J,0,none⟩) 0 53 2 (List.map dD.cells []),_]) 0 U sm U (by simp [maxLen]) U ?_
 refine cL (es2:=es) (m':=es.length) 0 U U U RY U U sm (aA 1 U) hone (by simp; omega) (by simp [maxLen]; omega) sm U U fun AA K=>?_
 try dsimp only
 refine rP 1 [] mn ?_
 refine RK H<|av ?_
 refine LX hQ (AA,K) [0] [] mn U U U ?_ ?_
 ·first|rfl|(rw [hes]; rfl)|(rw [← hes,A]; rfl)
 ·trivial
theorem Kl (es:List (List Value)) (lA:OA) (n lC:Nat) (hlen:n≤1000000) (hes:es.length=n) (hone: ∀ v∈es.flatten,v.oneCell'=true):
 lB Tryz.prog 147 [(vS lA n lC)] [(rd lA n 7 es)] (fun (x:(OA)×Nat)=>(vS x.1 n x.2)) (fun (x:(OA)×Nat)=>True) (fun (x:(OA)×Nat)=>[(own x.1 x.2 62 7 es)]):=by
 refine dh kr Tryz.func147 U U fun L Q hQ hN=>?_
 try dsimp only
 refine WS fun _ D=>bk 1 U<|RK D<|aj fun _ E=>WS fun _ F=>rP 1 [] mn ?_
 refine rS (BI U (q9 Ua))<|RK F<|cP U (aO fun B=>?_) (aN fun B=>?_)
 ·refine WS fun _ G=>mO (aA 0 U) B dc fun C=>?_
  have A:es=[]:=C
  refine dY 62 7 ?_
  rw [show (own none 0 62 7 ([]:List (List Value)))=own none 0 62 7 es from by rw [A]]
  refine rP 1 [] mn ?_
  refine RK G<|av ?_
  refine LX hQ (none,0) [0] [] mn U U U ?_ ?_
  ·first|rfl|(rw [hes]; rfl)|(rw [← hes,A]; rfl)
  ·trivial
 refine WK E<|WS fun _ H=>lY U tm U fun J=>rP 1 [] mn ?_
 refine cW (es:=(List.map bq.cells [])) (C':=[own (some ⟨J,0,none⟩) 0 62 7 (List.map bq.cells []),_]) 0 U sm U (by simp [maxLen]) U ?_
 refine cL (es2:=es) (m':=es.length) 0 U U U SM U U sm (aA 1 U) hone (by simp; omega) (by simp [maxLen]; omega) sm U U fun AA K=>?_
 try dsimp only
 refine rP 1 [] mn ?_
 refine RK H<|av ?_
 refine LX hQ (AA,K) [0] [] mn U U U ?_ ?_
 ·first|rfl|(rw [hes]; rfl)|(rw [← hes,A]; rfl)
 ·trivial
theorem MF (es:List (List Value)) (lA:OA) (n lC:Nat) (hlen:n≤1000000) (hes:es.length=n) (hone: ∀ v∈es.flatten,v.oneCell'=true):
 lB Tryz.prog 146 [(vS lA n lC)] [(rd lA n 1 es)] (fun (x:(OA)×Nat)=>(vS x.1 n x.2)) (fun (x:(OA)×Nat)=>True) (fun (x:(OA)×Nat)=>[(own x.1 x.2 56 1 es)]):=by
 refine dh kr Tryz.func146 U U fun L Q hQ hN=>?_
 try dsimp only
 refine WS fun _ D=>bk 1 U<|RK D<|aj fun _ E=>WS fun _ F=>rP 1 [] mn ?_
 refine rS (BI U (q9 Uy))<|RK F<|cP U (aO fun B=>?_) (aN fun B=>?_)
 ·refine WS fun _ G=>mO (aA 0 U) B dc fun C=>?_
  have A:es=[]:=C
  refine dY 56 1 ?_
  rw [show (own none 0 56 1 ([]:List (List Value)))=own none 0 56 1 es from by rw [A]]
  refine rP 1 [] mn ?_
  refine RK G<|av ?_
  refine LX hQ (none,0) [0] [] mn U U U ?_ ?_
  ·first|rfl|(rw [hes]; rfl)|(rw [← hes,A]; rfl)
  ·trivial
 refine WK E<|WS fun _ H=>lY U nj U fun J=>rP 1 [] mn ?_
 refine cW (es:=(List.map sC [])) (C':=[own (some ⟨J,0,none⟩) 0 56 1 (List.map sC []),_]) 0 U sm U (by simp [maxLen]) U ?_
 refine cL (es2:=es) (m':=es.length) 0 U U U TC U U sm (aA 1 U) hone (by simp; omega) (by simp [maxLen]; omega) sm U U fun AA K=>?_
 try dsimp only
 refine rP 1 [] mn ?_
 refine RK H<|av ?_
 refine LX hQ (AA,K) [0] [] mn U U U ?_ ?_
 ·first|rfl|(rw [hes]; rfl)|(rw [← hes,A]; rfl)
 ·trivial
end
section
open Go.RowKit
theorem Nw (r:cj) (kA:OA) (kC:Nat) (az:List RA) (cA:OA) (cC:Nat) (bA:OA) (bC:Nat) (slA:OA) (slC:Nat) (drA:OA) (drC:Nat) (ha:List cb) (heA:OA) (heC:Nat) (hin:fw r az ha):
 lB Tryz.prog 108 [(vA (cu.cells (oY r kA kC cA cC bA bC slA slC drA drC heA heC)))] [(rd kA r.an.aL.length 9 (r.an.aL.map al.cells)),(rd cA r.an.ai.length 2 (List.zipWith ar.cells r.an.ai az)),(fp (aR ar.ia r.an.ai az)),(rd bA r.an.ag.length 4 (r.an.ag.map bE.cells)),(rd slA r.aM.length 1 (r.aM.map iC)),(rd drA r.bL.length 1 (r.bL.map iC)),(rd heA r.ao.length 1 (List.zipWith cw r.ao ha)),(fp (aR iI r.ao ha))] (fun (x:(OA)×Nat×(OA)×Nat×(List RA)×(OA)×Nat×(OA)×Nat×(OA)×Nat×(OA)×Nat×(List cb))=>(vA (cu.cells (cu.mk (b_.mk (bD.mk (bp.mk x.1 r.an.aL.length x.2.1)) r.an.gK (bp.mk x.2.2.1 r.an.ai.length x.2.2.2.1) (bp.mk x.2.2.2.2.2.1 r.an.ag.length x.2.2.2.2.2.2.1) r.an.bS r.an.eg r.an.cM) (bp.mk x.2.2.2.2.2.2.2.1 r.aM.length x.2.2.2.2.2.2.2.2.1) (bp.mk x.2.2.2.2.2.2.2.2.2.1 r.bL.length x.2.2.2.2.2.2.2.2.2.2.1) r.im (bp.mk x.2.2.2.2.2.2.2.2.2.2.2.1 r.ao.length x.2.2.2.2.2.2.2.2.2.2.2.2.1))))) (fun (x:(OA)×Nat×(OA)×Nat×(List RA)×(OA)×Nat×(OA)×Nat×(OA)×Nat×(OA)×Nat×(List cb))=>(x.2.2.2.2.1.length=r.an.ai.length∧oG r.an.ai x.2.2.2.2.1)∧pJ r.ao x.2.2.2.2.2.2.2.2.2.2.2.2.2) (fun (x:(OA)×Nat×(OA)×Nat×(List RA)×(OA)×Nat×(OA)×Nat×(OA)×Nat×(OA)×Nat×(List cb))=>[(own x.1 x.2.1 153 9 (r.an.aL.map al.cells)),(own x.2.2.1 x.2.2.2.1 53 2 (List.zipWith ar.cells r.an.ai x.2.2.2.2.1)),(br (aR ar.owns r.an.ai x.2.2.2.2.1)),(own x.2.2.2.2.2.1 x.2.2.2.2.2.2.1 160 4 (r.an.ag.map bE.cells)),(own x.2.2.2.2.2.2.2.1 x.2.2.2.2.2.2.2.2.1 3 1 (r.aM.map iC)),(own x.2.2.2.2.2.2.2.2.2.1 x.2.2.2.2.2.2.2.2.2.2.1 3 1 (r.bL.map iC)),(own x.2.2.2.2.2.2.2.2.2.2.2.1 x.2.2.2.2.2.2.2.2.2.2.2.2.1 56 1 (List.zipWith cw r.ao x.2.2.2.2.2.2.2.2.2.2.2.2.2)),(br (aR gZ r.ao x.2.2.2.2.2.2.2.2.2.2.2.2.2))]):=by
 have C:=hin.line
 have J9:=hin.iU
 have M:=hin.has
 have Lk:=hin.iY
 have La:=hin.draw
 have Ll:=dQ (r:=r)
 have Or:=C.si
 have Ne:=C.rr
 have NN:=C.su
 have J6:=C.nD
 refine dh kr Tryz.func108 U U fun w0 Q hQ hN=>?_
 try dsimp only
 refine WS fun _ J2=>fZ U fun b2=>AL U yT fun b3=>RK J2<|WS fun _ J3=>rP 2 [] mn ?_
 refine RK J3<|aj fun _ J4=>dK cE [8,13,18,22,25,28] [7,11,15] [0,1,2] [0,2,3,4,5,6,7,8,9] [0,1,2,3,4,5,6,7,8,9] U U U U U<|eS U (MV U)<|eS U (MV U)<|eS U (MV U)<|eS U (MV U)<|eS U (SX (bO U U) U U)<|eS U (FA 0 U fc U)<|eS U (FA 0 U fc U)<|fS U (L1 (vS kA r.an.aL.length kC) 1 U cp U U)<|eS U (MV U)<|eS U (SX (bO U U) U U)<|eS U (FA 2 U fc U)<|fS U (L1 (vS cA r.an.ai.length cC) 1 U cp U U)<|eS U (MV U)<|eS U (SX (bO U U) U U)<|eS U (FA 3 U fc U)<|fS U (L1 (vS bA r.an.ag.length bC) 1 U cp U U)<|eS U (SX (bO U U) U U)<|eS U (FA 0 U fc U)<|eS U (FA 0 U fc U)<|eS U (SX (bO U U) U U)<|eS U (FA 2 U fc U)<|eS U (SX (bO U U) U U)<|eS U (FA 3 U fc U)<|eU U<|gT U fun T6 J5=>?_
 refine cX (Kh r.an.aL kA kC sd) (bo [2]) U fun y7 Os=>?_
 obtain ⟨a9,S⟩:=y7
 try dsimp only
 refine aB (J5 _ _ (aI [1,3,4,5,6,7,8,9,10]) (aI [1,2,3,4,5,6,7,8,9,10]) ?_)
 refine gT U fun T11 D2=>?_
 refine cX (Ln (List.zipWith ar.cells r.an.ai az) cA r.an.ai.length cC sd (by exact ei J6) (by exact xZ _ _)) (bo [4]) U fun KR Lo=>?_
 obtain ⟨J,K⟩:=KR
 try dsimp only
 refine aB (D2 _ _ (aI [2,4,5,6,7,8,9,10,11]) (aI [2,3,4,5,6,7,8,9,10,11]) ?_)
 refine gT U fun T16 D9=>?_
 refine cX (LY r.an.ag bA bC sd) (bo [7]) U fun KS Ls=>?_
 obtain ⟨Y,Z⟩:=KS
 try dsimp only
 refine aB (D9 _ _ (aI [3,5,6,7,8,9,10,11,12]) (aI [3,4,5,6,7,8,9,10,11,12]) ?_)
 refine cf U fun T21 EQ=>U6 (cu.cells (cu.mk (b_.mk (bD.mk (bp.mk a9 r.an.aL.length S)) r.an.gK (bp.mk cA r.an.ai.length cC) (bp.mk bA r.an.ag.length bC) r.an.bS r.an.eg r.an.cM) (bp.mk slA r.aM.length slC) (bp.mk drA r.bL.length drC) r.im (bp.mk heA r.ao.length heC))) U Vm U U<|aB (EQ _ _ (aI [3,5,6,7,8,9,10,11,12]) ?_)
 refine cf U fun T22 Eq=>U6 (cu.cells (cu.mk (b_.mk (bD.mk (bp.mk a9 r.an.aL.length S)) r.an.gK (bp.mk J r.an.ai.length K) (bp.mk bA r.an.ag.length bC) r.an.bS r.an.eg r.an.cM) (bp.mk slA r.aM.length slC) (bp.mk drA r.bL.length drC) r.im (bp.mk heA r.ao.length heC))) U S_ U U<|aB (Eq _ _ (aI [3,5,6,7,8,9,10,11,12]) ?_)
 refine cf U fun T23 FS=>U6 (cu.cells (cu.mk (b_.mk (bD.mk (bp.mk a9 r.an.aL.length S)) r.an.gK (bp.mk J r.an.ai.length K) (bp.mk Y r.an.ag.length Z) r.an.bS r.an.eg r.an.cM) (bp.mk slA r.aM.length slC) (bp.mk drA r.bL.length drC) r.im (bp.mk heA r.ao.length heC))) U Sa U U<|aB (FS _ _ (aI [3,5,6,7,8,9,10,11,12]) ?_)
 refine fF U<|KK J4<|aj fun _ A6=>WS fun _ A7=>bk 1 U<|rS (SX (bO U U) U U)<|rP 4 [] (mc 4 U mn) ?_
 refine RK A7<|ax<|l9 ?_
 have E:(0≤r.an.ai.length)∧(([]:List RA).length=0)∧(oG r.an.ai ([]:List RA)):=by exact ⟨Nat.zero_le _,rfl,fun k m a _ h=>by simp at h⟩
 refine bJ (ι:={z:Nat×(List RA) // (z.1≤r.an.ai.length)∧(z.2.length=z.1)∧(oG r.an.ai z.2)}) [1,2,3,39] [1,3,4,5,6,7,8,9,10,11,12,13] U U (fun z=>[(40,(vI (z.1.1:Int)))]) (fun z=>[(br (aR ar.owns (r.an.ai.take z.1.1) z.1.2)),(own J K 53 2 (List.zipWith ar.cells r.an.ai (f_ z.1.2 az z.1.1)))]) (fun _=>rfl) (fun _=>rfl) (fun z=>r.an.ai.length-z.1.1) ⟨(0,([]:List RA)),E⟩ (aT U) (aI [1,3,4,5,6,7,8,9,10,11,12,13,0,2]) ?_
 clear E
 rintro ⟨⟨i,bz⟩,⟨A2,B,V⟩⟩ J26 A3
 try dsimp only at A2 B V
 try dsimp only
 refine WS fun _ A8=>rP 1 [] mn ?_
 refine RK A8<|aj fun _ A9=>cP U (aO fun JN=>?_) (aN fun JN=>?_)
 ·refine WK A9<|aj fun _ BF=>ax<|WS fun _ Bb=>rP 2 [] mn ?_
  refine RK Bb<|dK cE [13,16] [10,11,12,13,14] [0] [0,1,2,3,4,5,6,7,8,9,10,11,12] [0,1,2,3,4,5,6,7,8,9,10,11,12,13] U U U U U<|eS U (MV U)<|eS U (SX (bO U U) U U)<|eS U (FA 2 U fc U)<|eS U (L1 (vS J r.an.ai.length K) 3 U cp U U)<|eS U (MV U)<|eS U (MV U)<|eS U (SX (bO U U) U U)<|eS U (FA 2 U fc U)<|eS U (L1 (vS J r.an.ai.length K) 3 U cp U U)<|eS U (MV U) ?_
  obtain ⟨x,hx⟩:=aK r.an.ai i I
  obtain ⟨xa,s⟩:=aK az i I
  have In:(List.zipWith ar.cells r.an.ai (f_ bz az i))[i]? =some (ar.cells x xa):=dB hx (mF B s)
  have Op:=(C.Px _ _ _ hx s).2
  refine fS U (IA i U (ae (n:=r.an.ai.length) 13 U (ei (by rw [dR B I]; exact C.nD))) uC dc I I) ?_
  refine fS U (lZ ((i*2)+1) U (ae (n:=r.an.ai.length) 13 U (ei (by rw [dR B I]; exact C.nD))) (Nat.mul_pos I dc) fc U) ?_
  refine fS U (gl i 1 (vS xa.1 x.aX.length xa.2) U cp (ae (n:=r.an.ai.length) 13 U (ei (by rw [dR B I]; exact C.nD))) In U dc U) ?_
  refine fS U (IA i U (ae (n:=r.an.ai.length) 13 U (ei (by rw [dR B I]; exact C.nD))) uC dc I I) ?_
  refine fS U (lZ ((i*2)+1) U (ae (n:=r.an.ai.length) 13 U (ei (by rw [dR B I]; exact C.nD))) (Nat.mul_pos I dc) fc U) ?_
  refine eU U<|gT U fun T32 Fd=>?_
  refine cX (Lp x.aX xa.1 xa.2 sd) (aq (show jh _ (rd xa.1 x.aX.length 3 (x.aX.map cr.cells)).holds from (dC 6 U (bY hx s (by simp [ar.ia]))))<|aJ) U fun K0 L0=>?_
  obtain ⟨P,T⟩:=K0
  try dsimp only
  refine aB (Fd _ _ (aI [1,2,3,4,5,6,7,8,9,10,11,12,13]) (aI [1,2,3,4,5,6,7,8,9,10,11,12,13,14]) ?_)
  refine cf U fun T37 Fn=>df (k:=i) (o:=1) (vs:=[(vS P x.aX.length T)]) (es':=(List.zipWith ar.cells r.an.ai (f_ (bz++[(P,T)]) az (i+1)))) (C':=[_,_,_,_,_,_,_,_,_,_,_,_,_,_,(own J K 53 2 (List.zipWith ar.cells r.an.ai (f_ (bz++[(P,T)]) az (i+1))))]) 14 U U U UH U U U U In U dc (by exact rp (c:=ar.cells) (b:=(P,T)) hx B s) U<|aB (Fn _ _ (aI [1,2,3,4,5,6,7,8,9,10,11,12,13]) ?_)
  refine fF U<|aF<|KK BF<|ak<|rP 2 [] mn ?_
  refine aB<|Qv 0 U fun t=>?_
  simp only [List.length_map] at t
  refine Ew (Y':=aR ar.owns (r.an.ai.take (i+1)) (bz++[(P,T)])) 13 0 U U (nS (f:=ar.owns) (b:=(P,T)) hx B) ?_
  have IO:(vI (((i+1):Nat):Int))=(vI ((i:Int)+1)):=by exact cI I
  refine aU (A3 ⟨((i+1),(bz++[(P,T)])),⟨I,by simp; omega,C5 V B hx t⟩⟩ _ _ _ U os (cQ 4<|bj U IO<|dI.nil _) (aI [1,2,3,4,5,6,7,8,9,10,11,12,0,13]))
 refine bB<|ab<|ab<|ay<|KK A6<|aj fun _ Bg=>?_
 have J7:bz.length=r.an.ai.length:=by omega
 have J8:=V
 rw [show (f_ bz az i)=bz from nR I,show r.an.ai.take i=r.an.ai from List.take_of_length_le I]
 refine dK cE [2,5,8,10,12,14] [1,3,5] [0,1,2] [0,1,2,4,5,6,7,8,9,10,11,12,13] [0,1,2,3,4,5,6,7,8,9,10,11,12,13] U U U U U<|eS U (FA 7 U fc U)<|fS U (L1 (vS slA r.aM.length slC) 3 U cp U U)<|eS U (FA 8 U fc U)<|fS U (L1 (vS drA r.bL.length drC) 3 U cp U U)<|eS U (FA 10 U fc U)<|fS U (L1 (vS heA r.ao.length heC) 3 U cp U U)<|eS U (FA 7 U fc U)<|eS U (FA 8 U fc U)<|eS U (FA 10 U fc U)<|eU U<|gT U fun T40 GE=>?_
 refine cX (wv r.aM slA slC sd) (bo [8]) U fun K4 L2=>?_
 obtain ⟨g,j⟩:=K4
 try dsimp only
 refine aB (GE _ _ (aI [1,2,3,5,6,7,8,9,10,11,12,13,14]) (aI [1,2,3,4,5,6,7,8,9,10,11,12,13,14]) ?_)
 refine gT U fun T45 GF=>?_
 refine cX (wv r.bL drA drC sd) (bo [10]) U fun K5 L3=>?_
 obtain ⟨w,AO⟩:=K5
 try dsimp only
 refine aB (GF _ _ (aI [2,3,4,6,7,8,9,10,11,12,13,14,15]) (aI [2,3,4,5,6,7,8,9,10,11,12,13,14,15]) ?_)
 refine gT U fun T50 GT=>?_
 refine cX (MF (List.zipWith cw r.ao ha) heA r.ao.length heC sd (by exact cS M) (by exact An _ _)) (bo [12]) U fun K8 M2=>?_
 obtain ⟨W,X⟩:=K8
 try dsimp only
 refine aB (GT _ _ (aI [3,4,5,7,8,9,10,11,12,13,14,15,16]) (aI [3,4,5,6,7,8,9,10,11,12,13,14,15,16]) ?_)
 refine cf U fun T55 GZ=>US (cu.cells (cu.mk (b_.mk (bD.mk (bp.mk a9 r.an.aL.length S)) r.an.gK (bp.mk J r.an.ai.length K) (bp.mk Y r.an.ag.length Z) r.an.bS r.an.eg r.an.cM) (bp.mk g r.aM.length j) (bp.mk drA r.bL.length drC) r.im (bp.mk heA r.ao.length heC))) U xy U U<|aB (GZ _ _ (aI [3,4,5,7,8,9,10,11,12,13,14,15,16]) ?_)
 refine cf U fun T56 Go=>US (cu.cells (cu.mk (b_.mk (bD.mk (bp.mk a9 r.an.aL.length S)) r.an.gK (bp.mk J r.an.ai.length K) (bp.mk Y r.an.ag.length Z) r.an.bS r.an.eg r.an.cM) (bp.mk g r.aM.length j) (bp.mk w r.bL.length AO) r.im (bp.mk heA r.ao.length heC))) U xy U U<|aB (Go _ _ (aI [3,4,5,7,8,9,10,11,12,13,14,15,16]) ?_)
 refine cf U fun T57 Hi=>US (cu.cells (cu.mk (b_.mk (bD.mk (bp.mk a9 r.an.aL.length S)) r.an.gK (bp.mk J r.an.ai.length K) (bp.mk Y r.an.ag.length Z) r.an.bS r.an.eg r.an.cM) (bp.mk g r.aM.length j) (bp.mk w r.bL.length AO) r.im (bp.mk W r.ao.length X))) U Sy U U<|aB (Hi _ _ (aI [3,4,5,7,8,9,10,11,12,13,14,15,16]) ?_)
 refine fF U<|KK Bg<|aj fun _ Bs=>WS fun _ B3=>rP 4 [] (mc 6 U mn) ?_
 refine RK B3<|ax<|l9 ?_
 have E:(0≤r.ao.length)∧(([]:List cb).length=0)∧(∀ (k:Nat) y (a:cb),r.ao[k]? =some y→([]:List cb)[k]? =some a→a.2.length=y.length):=by exact ⟨Nat.zero_le _,rfl,fun k y a _ q=>by simp at q⟩
 refine bJ (ι:={z:Nat×(List cb) // (z.1≤r.ao.length)∧(z.2.length=z.1)∧(∀ (k:Nat) y (a:cb),r.ao[k]? =some y→z.2[k]? =some a→a.2.length=y.length)}) [1,2,74] [2,3,4,5,6,7,8,9,10,11,12,13,14,15,16,17] U U (fun z=>[(75,(vI (z.1.1:Int)))]) (fun z=>[(br (aR gZ (r.ao.take z.1.1) z.1.2)),(own W X 56 1 (List.zipWith cw r.ao (f_ z.1.2 ha z.1.1)))]) (fun _=>rfl) (fun _=>rfl) (fun z=>r.ao.length-z.1.1) ⟨(0,([]:List cb)),E⟩ (aT U) (aI [2,3,4,5,6,7,8,9,10,11,12,13,14,15,16,17,0,1]) ?_
 clear E
 rintro ⟨⟨h,hz⟩,⟨l,A,L⟩⟩ J60 A4
 try dsimp only at l A L
 try dsimp only
 refine WS fun _ B7=>rP 1 [] mn ?_
 refine RK B7<|aj fun _ B9=>bR U (aN fun JO=>?_) (aO fun JO=>?_)
 ·refine bB<|ab<|ab<|ay<|KK Bs<|aj fun _ Do=>?_
  have KC:pJ r.ao hz:=⟨I,L⟩
  rw [show (f_ hz ha h)=hz from nR I,show r.ao.take h=r.ao from List.take_of_length_le I]
  refine ak<|rP 1 [] (mc 5 U mn) ?_
  refine PU U sv U<|RK Do<|av ?_
  refine LX hQ (a9,S,J,K,bz,Y,Z,g,j,w,AO,W,X,hz) [3,15,14,2,1,0,17,16] [0] (mc 4 U mn) U (by show List.all _ _=true; simp only [fm,List.all_nil,fK,j6,Bool.and_true]; rfl) U U ?_
  exact ⟨⟨J7,J8⟩,KC⟩
 refine WK B9<|aj fun _ Ci=>ax<|WS fun _ Ck=>rP 2 [] mn ?_
 refine RK Ck<|aj fun _ Cp=>dK cE [8,10] [6,7,8] [0] [0,1,2,3,4,5,6,7,8,9,10,11,12,13,14,15,16] [0,1,2,3,4,5,6,7,8,9,10,11,12,13,14,15,16,17] U U U U U<|eS U (FA 10 U fc U)<|eS U (L1 (vS W r.ao.length X) 5 U cp U U)<|eS U (MV U)<|eS U (FA 10 U fc U)<|eS U (L1 (vS W r.ao.length X) 5 U cp U U)<|eS U (MV U) ?_
 obtain ⟨ht,N⟩:=aK r.ao h I
 obtain ⟨D,O⟩:=aK ha h I
 have u:(List.zipWith cw r.ao (f_ hz ha h))[h]? =some (cw ht D):=dB N (mF A O)
 have A1:=hin.nu _ _ _ N O
 have e:=A1.nD
 have J9:=A1.len
 refine fS U (IA h U (ae (n:=r.ao.length) 17 U (cS (by rw [dR A I]; exact M))) nj dc I I) ?_
 refine fS U (gl h 0 (vS D.1.1 ht.length D.1.2) U cp (ae (n:=r.ao.length) 17 U (cS (by rw [dR A I]; exact M))) u U dc U) ?_
 refine fS U (IA h U (ae (n:=r.ao.length) 17 U (cS (by rw [dR A I]; exact M))) nj dc I I) ?_
 refine eU U<|gT U fun T67 Hy=>?_
 refine cX (Kl (List.zipWith au.cells ht D.2) D.1.1 ht.length D.1.2 sd (by exact j8 e) (by exact GQ _ _)) (aq (show jh _ (rd D.1.1 ht.length 7 (List.zipWith au.cells ht D.2)).holds from (dC 13 U (bY N O cv)))<|aJ) U fun LA M7=>?_
 obtain ⟨G,H⟩:=LA
 try dsimp only
 refine aB (Hy _ _ (aI [1,2,3,4,5,6,7,8,9,10,11,12,13,14,15,16,17]) (aI [1,2,3,4,5,6,7,8,9,10,11,12,13,14,15,16,17,18]) ?_)
 refine cf U fun T72 H1=>df (k:=h) (o:=0) (vs:=[(vS G ht.length H)]) (es':=(List.zipWith cw r.ao (f_ (hz++[((G,H),D.2)]) ha (h+1)))) (C':=[_,_,_,_,_,_,_,_,_,_,_,_,_,_,_,_,_,_,(own W X 56 1 (List.zipWith cw r.ao (f_ (hz++[((G,H),D.2)]) ha (h+1))))]) 18 U U U S5 U U U U u U dc (by exact rp (b:=((G,H),D.2)) N A O) U<|aB (H1 _ _ (aI [1,2,3,4,5,6,7,8,9,10,11,12,13,14,15,16,17]) ?_)
 refine fF U<|KK Cp<|WS fun _ Cx=>rP 3 [] (mc 6 U mn) ?_
 have v:(List.zipWith cw r.ao (f_ (hz++[((G,H),D.2)]) ha (h+1)))[h]? =some (cw ht ((G,H),D.2)):=dB N (CT A)
 refine rS (IA h U (ae (n:=r.ao.length) 18 U (cS (by rw [dR (by simp; omega) I]; exact M))) nj dc I I) ?_
 refine rS (gl h 0 (vS G ht.length H) U cp (ae (n:=r.ao.length) 18 U (cS (by rw [dR (by simp; omega) I]; exact M))) v U dc U) ?_
 refine rP 2 [] mn ?_
 refine RK Cx<|ax<|l9 ?_
 have E:(0≤ht.length)∧(([]:List RA).length=0):=by exact ⟨Nat.zero_le _,rfl⟩
 refine bJ (ι:={z:Nat×(List RA) // (z.1≤ht.length)∧(z.2.length=z.1)}) [1,2,5,74,75,93] [2,3,4,5,6,7,8,9,10,11,12,13,14,15,16,17,18,19] U U (fun z=>[(94,(vI (z.1.1:Int)))]) (fun z=>[(br (aR jO (ht.take z.1.1) z.1.2)),(own G H 62 7 (List.zipWith au.cells ht (f_ z.1.2 D.2 z.1.1)))]) (fun _=>rfl) (fun _=>rfl) (fun z=>ht.length-z.1.1) ⟨(0,([]:List RA)),E⟩ (aT U) (aI [2,3,4,5,6,7,8,9,10,11,12,13,14,15,16,17,18,19,0,1]) ?_
 clear E
 rintro ⟨⟨i,dz⟩,⟨p,F⟩⟩ J74 A5
 try dsimp only at p F
 try dsimp only
 refine WS fun _ C0=>rP 1 [] mn ?_
 refine RK C0<|aj fun _ C1=>bR U (aN fun Jc=>?_) (aO fun Jc=>?_)
 ·refine bB<|ab<|ab<|ay<|aF<|KK Ci<|ak<|rP 2 [] mn ?_
  refine aB ?_
  have Li:dz.length=ht.length:=by omega
  rw [show (f_ dz D.2 i)=dz from nR I,show ht.take i=ht from List.take_of_length_le I]
  refine Lb (Z':=aR gZ (r.ao.take (h+1)) (hz++[((G,H),dz)])) 16 18 19 U U (nS (f:=gZ) (b:=((G,H),dz)) N A) ?_
  rw [DP (y:=dz)]
  have Id:(vI (((h+1):Nat):Int))=(vI ((h:Int)+1)):=by exact cI I
  refine aU (A4 ⟨((h+1),(hz++[((G,H),dz)])),⟨I,by simp; omega,BH N L A dso⟩⟩ _ _ _ U os (cQ 3<|bj U Id<|dI.nil _) (aI [1,2,3,4,5,6,7,8,9,10,11,12,13,14,15,16,0,17]))
 refine WK C1<|aj fun _ C2=>ax<|WS fun _ C3=>rP 2 [] mn ?_
 refine RK C3<|aj fun _ Di=>?_
 refine wV 19 U (by rw [j8 (by rw [dR F I]; exact e)]; omega) (fun LT AB=>?_)
 refine ak<|rP 3 [] (mc 5 U mn) ?_
 refine rS (IA h U (ae (n:=r.ao.length) 17 U (cS (by rw [dR (by simp; omega) I]; exact M))) nj dc I I) ?_
 refine rS (gl h 0 (vS G ht.length H) U cp (ae (n:=r.ao.length) 17 U (cS (by rw [dR (by simp; omega) I]; exact M))) v U dc U) ?_
 refine rP 1 [] mn ?_
 obtain ⟨d,hd⟩:=aK ht i I
 obtain ⟨da,A0⟩:=aK D.2 i I
 have If:(List.zipWith au.cells ht (f_ dz D.2 i))[i]? =some (au.cells d da):=dB hd (mF F A0)
 have OK:=A1.sig d (aS hd)
 refine rS (Wo i U AB tm I I)<|rS (RO ((i*7)+4) U AB fc U)<|bk 1 U<|RK Di<|ak<|rP 2 [] mn ?_
 refine rS (SX (pA U U AB) U U)<|rS (RO (((i*7)+4)+2) U AB fc U) ?_
 refine rS (gl i 6 (vS da.1 d.bX.ah.length da.2) U cp (ae (n:=ht.length) 19 U (j8 (by rw [dR F I]; exact e))) If U dc U) ?_
 refine cX (ML d.bX.ah da.1 da.2 sd) (aq (show jh _ (rd da.1 d.bX.ah.length 2 (d.bX.ah.map aH.cells)).holds from (dC 13 U (bY N O (cY _ (bY hd A0 (by simp [au.ia]))))))<|aJ) U fun LE NE=>?_
 obtain ⟨R,AA⟩:=LE
 try dsimp only
 refine rS (SX (pA U U AB) U U)<|rS (RO (((i*7)+4)+2) U AB fc U)<|df (k:=i) (o:=6) (vs:=[(vS R d.bX.ah.length AA)]) (es':=(List.zipWith au.cells ht (f_ (dz++[(R,AA)]) D.2 (i+1)))) (C':=[_,_,_,_,_,_,_,_,_,_,_,_,_,_,_,_,_,_,_,_,(own G H 62 7 (List.zipWith au.cells ht (f_ (dz++[(R,AA)]) D.2 (i+1))))]) 20 U U U Us U U U U If U dc (by exact rp (c:=au.cells) (b:=(R,AA)) hd F A0) U<|aB<|aF<|KK C2<|ak<|rP 2 [] mn ?_
 refine aB<|Ew (Y':=aR jO (ht.take (i+1)) (dz++[(R,AA)])) 19 0 U U (nS (f:=jO) (b:=(R,AA)) hd F) ?_
 have IR:(vI (((i+1):Nat):Int))=(vI ((i:Int)+1)):=by exact cI I
 refine aU (A5 ⟨((i+1),(dz++[(R,AA)])),⟨I,by simp; omega⟩⟩ _ _ _ U os (cQ 6<|bj U IR<|dI.nil _) (aI [1,2,3,4,5,6,7,8,9,10,11,12,13,14,15,16,17,18,0,19]))
end
section
open Go.RowKit
theorem xh (r:cj) (kA:OA) (kC:Nat) (az:List RA) (cA:OA) (cC:Nat) (bA:OA) (bC:Nat) (slA:OA) (slC:Nat) (drA:OA) (drC:Nat) (ha:List cb) (heA:OA) (heC:Nat) (tz:List RA) (tA:OA) (tC:Nat) (ms:Value) (gw:Nat) (h i:Int) (t:aa) (hin:fw r az ha) (hok:fj r):
 lB Tryz.prog 69 [(vP gw),(vI h),(vI i),(vA (aa.cells t))] [(rd kA r.an.aL.length 9 (r.an.aL.map al.cells)),(rd cA r.an.ai.length 2 (List.zipWith ar.cells r.an.ai az)),(fp (aR ar.ia r.an.ai az)),(rd bA r.an.ag.length 4 (r.an.ag.map bE.cells)),(rd slA r.aM.length 1 (r.aM.map iC)),(rd drA r.bL.length 1 (r.bL.map iC)),(rd heA r.ao.length 1 (List.zipWith cw r.ao ha)),(fp (aR iI r.ao ha)),(rd tA ((cT r).length) 1 (List.zipWith EM (cT r) tz)),(fp (aR Nh (cT r) tz)),(cm gw 112 (gh.cells (gh.mk (oY r kA kC cA cC bA bC slA slC drA drC heA heC) (bp.mk tA ((cT r).length) tC) ms)))] (fun (x:Bool×Int×(OA)×Nat×(OA)×Nat×(List RA)×(OA)×Nat×(OA)×Nat×(OA)×Nat×(OA)×Nat×(List cb))=>bif x.1 then (vT [(vA (cu.cells (cu.mk (b_.mk (bD.mk (bp.mk x.2.2.1 r.an.aL.length x.2.2.2.1)) r.an.gK (bp.mk x.2.2.2.2.1 r.an.ai.length x.2.2.2.2.2.1) (bp.mk x.2.2.2.2.2.2.2.1 r.an.ag.length x.2.2.2.2.2.2.2.2.1) r.an.bS r.an.eg r.an.cM) (bp.mk x.2.2.2.2.2.2.2.2.2.1 r.aM.length x.2.2.2.2.2.2.2.2.2.2.1) (bp.mk x.2.2.2.2.2.2.2.2.2.2.2.1 r.bL.length x.2.2.2.2.2.2.2.2.2.2.2.2.1) r.im (bp.mk x.2.2.2.2.2.2.2.2.2.2.2.2.2.1 ((g4 r.ao h i t).length) x.2.2.2.2.2.2.2.2.2.2.2.2.2.2.1)))),(vI 0)]) else (vT [(vA (cu.cells (cu.mk (b_.mk (bD.mk (bp.mk none 0 0)) 0 (bp.mk none 0 0) (bp.mk none 0 0) 0 0 0) (bp.mk none 0 0) (bp.mk none 0 0) 0 (bp.mk none 0 0)))),(vI x.2.1)])) (fun (x:Bool×Int×(OA)×Nat×(OA)×Nat×(List RA)×(OA)×Nat×(OA)×Nat×(OA)×Nat×(OA)×Nat×(List cb))=>(x.1=true→((qS r h i t)=0∧(x.2.2.2.2.2.2.1.length=r.an.ai.length∧oG r.an.ai x.2.2.2.2.2.2.1)∧pJ (g4 r.ao h i t) x.2.2.2.2.2.2.2.2.2.2.2.2.2.2.2))∧(x.1=false→(x.2.1=(qS r h i t)∧ ¬ (qS r h i t)=0))) (fun (x:Bool×Int×(OA)×Nat×(OA)×Nat×(List RA)×(OA)×Nat×(OA)×Nat×(OA)×Nat×(OA)×Nat×(List cb))=>bif x.1 then [(own x.2.2.1 x.2.2.2.1 153 9 (r.an.aL.map al.cells)),(own x.2.2.2.2.1 x.2.2.2.2.2.1 53 2 (List.zipWith ar.cells r.an.ai x.2.2.2.2.2.2.1)),(br (aR ar.owns r.an.ai x.2.2.2.2.2.2.1)),(own x.2.2.2.2.2.2.2.1 x.2.2.2.2.2.2.2.2.1 160 4 (r.an.ag.map bE.cells)),(own x.2.2.2.2.2.2.2.2.2.1 x.2.2.2.2.2.2.2.2.2.2.1 3 1 (r.aM.map iC)),(own x.2.2.2.2.2.2.2.2.2.2.2.1 x.2.2.2.2.2.2.2.2.2.2.2.2.1 3 1 (r.bL.map iC)),(own x.2.2.2.2.2.2.2.2.2.2.2.2.2.1 x.2.2.2.2.2.2.2.2.2.2.2.2.2.2.1 56 1 (List.zipWith cw (g4 r.ao h i t) x.2.2.2.2.2.2.2.2.2.2.2.2.2.2.2)),(br (aR gZ (g4 r.ao h i t) x.2.2.2.2.2.2.2.2.2.2.2.2.2.2.2))] else []):=by
 have A6:=hin.line
 have Ci:=hin.iU
 have Cp:=hin.has
 have Bg:=hin.iY
 have A9:=hin.draw
 have Bs:=dQ (r:=r)
 have C0:=hok.num
 have Cx:=hok.nh
 refine dh Ve Tryz.func69 U U fun w0 Q hQ hN=>?_
 try dsimp only
 refine WS fun _ A0=>fZ U fun b2=>AL U yT fun b3=>bk 1 U<|RK A0<|aj fun _ A1=>WS fun _ J=>bk 1 U<|rS (SX (bO U U) U U)<|rP 6 [] (mr 12 U mn) ?_
 refine dj (xs:=[.tmp 18]) (cs:=[(vI h)]) U cK jA U U U U (by simp [Value.cells]) U U fun b6=>?_
 refine rS (CL (eB.eq (ko 0 ((r.ao.length:Int)-1) ([h]) (some ⟨b6,0,none⟩) 1 sd) cZ) (aq (bf 0 U U (by simp [bH]) U)<|aJ) U) ?_
 refine rP 2 [] mn ?_
 refine dx (t:=22) U (bw fun AC=>?_) (bu fun AC=>?_)
 ·refine bk 11 U<|RK J<|aQ U<|WS fun _ A2=>rS (SX (bg (xs:=[]) (cs:=(cu.cells (cu.mk (b_.mk (bD.mk (bp.mk none 0 0)) 0 (bp.mk none 0 0) (bp.mk none 0 0) 0 0 0) (bp.mk none 0 0) (bp.mk none 0 0) 0 (bp.mk none 0 0)))) U U (bh IM U)) U U)<|te U sv U<|rP 1 [] mn ?_
  refine RK A2<|av ?_
  refine LX hQ (false,2,none,0,none,0,[],none,0,none,0,none,0,none,0,[]) [] [0] (mc 1 U mn) U (by first|rfl|(show List.all _ _=true; simp only [cond_true,fm,List.all_nil,fK,j6,Bool.and_true]; rfl)) U ?_ ?_
  ·first|rfl|(simp only [cond_true,jx]; rfl)
  ·refine ⟨Bl,fun _=>?_⟩; first|exact qp (mK (r:=r) (h:=h) (i:=i) (t:=t) I)|exact qp (mK (r:=r) (h:=h) (i:=i) (t:=t) (fun q=>absurd q.2 asm))|exact qp (tO (r:=r) (t:=t) ⟨I,asm⟩ A hd H)
 refine rP 2 [] mn ?_
 refine dj (xs:=[.tmp 24]) (cs:=[(vI i)]) U cK jA U U U U (by simp [Value.cells]) U U fun b8=>?_
 refine rS (CL (eB.eq (Bo r kA kC az cA cC bA bC slA slC drA drC ha heA heC tz tA tC ms gw ([i]) (some ⟨b8,0,none⟩) 1 hin sd) cZ) (mu [4,5,6,7,8,9,10,11,12,13,14]<|aq (bf 0 U U (by simp [bH]) U)<|aJ) U) ?_
 refine rP 3 [] mn ?_
 refine dx (t:=29) U (bw fun AO=>?_) (bu fun AO=>?_)
 ·refine bk 4 U<|RK J<|aQ U<|WS fun _ A3=>rS (SX (bg (xs:=[]) (cs:=(cu.cells (cu.mk (b_.mk (bD.mk (bp.mk none 0 0)) 0 (bp.mk none 0 0) (bp.mk none 0 0) 0 0 0) (bp.mk none 0 0) (bp.mk none 0 0) 0 (bp.mk none 0 0)))) U U (bh IM U)) U U)<|G0 U sv U<|rP 1 [] mn ?_
  refine RK A3<|av ?_
  refine LX hQ (false,2,none,0,none,0,[],none,0,none,0,none,0,none,0,[]) [] [0] (mc 2 U mn) U (by first|rfl|(show List.all _ _=true; simp only [cond_true,fm,List.all_nil,fK,j6,Bool.and_true]; rfl)) U ?_ ?_
  ·first|rfl|(simp only [cond_true,jx]; rfl)
  ·refine ⟨Bl,fun _=>?_⟩; first|exact qp (mK (r:=r) (h:=h) (i:=i) (t:=t) I)|exact qp (mK (r:=r) (h:=h) (i:=i) (t:=t) (fun q=>absurd q.2 asm))|exact qp (tO (r:=r) (t:=t) ⟨I,asm⟩ A hd H)
 refine fP 1 [] (mc 3 U mn) U<|rS (CL (Ga t) (aJ) U)<|rP 2 [] mn ?_
 refine RK J<|cP U (bw fun Z=>?_) (bu fun Z=>?_)
 ·refine WS fun _ b=>rS (SX (bg (xs:=[]) (cs:=(cu.cells (cu.mk (b_.mk (bD.mk (bp.mk none 0 0)) 0 (bp.mk none 0 0) (bp.mk none 0 0) 0 0 0) (bp.mk none 0 0) (bp.mk none 0 0) 0 (bp.mk none 0 0)))) U U (bh IM U)) U U)<|G0 U sv U<|rP 1 [] mn ?_
  refine RK b<|av ?_
  refine LX hQ (false,2,none,0,none,0,[],none,0,none,0,none,0,none,0,[]) [] [0] (mc 2 U mn) U (by first|rfl|(show List.all _ _=true; simp only [cond_true,fm,List.all_nil,fK,j6,Bool.and_true]; rfl)) U ?_ ?_
  ·first|rfl|(simp only [cond_true,jx]; rfl)
  ·refine ⟨Bl,fun _=>?_⟩; first|exact qp (mK (r:=r) (h:=h) (i:=i) (t:=t) I)|exact qp (mK (r:=r) (h:=h) (i:=i) (t:=t) (fun q=>absurd q.2 asm))|exact qp (tO (r:=r) (t:=t) ⟨I,asm⟩ A hd H)
 refine WK A1<|aj fun _ e=>WS fun _ f=>bk 1 U<|rS (SX (bO U U) U U)<|rP 4 [] (mr 14 U mn) ?_
 obtain ⟨ht,A⟩:=aK r.ao ((h).toNat) I
 obtain ⟨C,E⟩:=aK ha ((h).toNat) I
 have w:(List.zipWith cw r.ao ha)[(h).toNat]? =some (cw ht C):=dB A E
 refine rS (IA ((h).toNat) U (aA 10 U) nj dc I I) ?_
 have A5:=hin.nu _ _ _ A E
 have BF:=A5.nD
 have Ck:=(hok.nu ht (aS A)).1
 refine rS (gl ((h).toNat) 0 (vS C.1.1 ht.length C.1.2) U RE (aA 10 U) w U dc U)<|rP 1 [] mn ?_
 obtain ⟨d,hd⟩:=aK ht ((i).toNat) I
 obtain ⟨da,K⟩:=aK C.2 ((i).toNat) I
 have A4:(List.zipWith au.cells ht C.2)[(i).toNat]? =some (au.cells d da):=dB hd K
 refine rS (IA ((i).toNat) U (show jh _ (rd C.1.1 ht.length 7 (List.zipWith au.cells ht C.2)).holds from (dC 11 U (bY A E cv))) tm dc I I)<|rS (lZ (((i).toNat)*7) U (show jh _ (rd C.1.1 ht.length 7 (List.zipWith au.cells ht C.2)).holds from (dC 11 U (bY A E cv))) (Nat.mul_pos I dc) Q7 U)<|rS (gl ((i).toNat) 0 (vB d.Out) U Wp (show jh _ (rd C.1.1 ht.length 7 (List.zipWith au.cells ht C.2)).holds from (dC 11 U (bY A E cv))) A4 U dc U)<|RK f<|cP U (fun H=>?_) (fun H=>?_)
 ·refine WS fun _ g=>rS (SX (bg (xs:=[]) (cs:=(cu.cells (cu.mk (b_.mk (bD.mk (bp.mk none 0 0)) 0 (bp.mk none 0 0) (bp.mk none 0 0) 0 0 0) (bp.mk none 0 0) (bp.mk none 0 0) 0 (bp.mk none 0 0)))) U U (bh IM U)) U U)<|G0 U sv U<|rP 1 [] mn ?_
  refine RK g<|av ?_
  refine LX hQ (false,8,none,0,none,0,[],none,0,none,0,none,0,none,0,[]) [] [0] (mc 2 U mn) U (by first|rfl|(show List.all _ _=true; simp only [cond_true,fm,List.all_nil,fK,j6,Bool.and_true]; rfl)) U ?_ ?_
  ·first|rfl|(simp only [cond_true,jx]; rfl)
  ·refine ⟨Bl,fun _=>?_⟩; first|exact qp (mK (r:=r) (h:=h) (i:=i) (t:=t) I)|exact qp (mK (r:=r) (h:=h) (i:=i) (t:=t) (fun q=>absurd q.2 asm))|exact qp (tO (r:=r) (t:=t) ⟨I,asm⟩ A hd H)
 refine WK e<|WS fun _ j=>bk 1 U<|rS (SX (bO U U) U U)<|rP 1 [] mn ?_
 refine rS (Wj (cu.cells (oY r kA kC cA cC bA bC slA slC drA drC heA heC)) 14 U Uw U U U)<|cX (Nw r kA kC az cA cC bA bC slA slC drA drC ha heA heC hin) (bo [4,5,6,7,8,9,10,11]) U fun A8 z=>?_
 obtain ⟨L,T,M,AA,S,N,V,O,W,P,X,R,Y,G⟩:=A8
 try dsimp only
 obtain ⟨⟨s,u⟩,D⟩:=z
 try dsimp only at s u D
 have Bb:=D.1
 refine AL U yT fun B3=>gd U sv U<|RK j<|aj fun _ l=>?_
 obtain ⟨B,F⟩:=aK G ((h).toNat) (by have:=D.1; omega)
 have y:(List.zipWith cw r.ao G)[(h).toNat]? =some (cw ht B):=dB A F
 have A7:=D.2 _ _ _ A F
 refine Mx 8 A F U U ?_
 try dsimp only
 refine dM cE 9 kr<|m_ 3 [] (mc 3 U mn) U<|dS (IA ((h).toNat) U (ae (n:=r.ao.length) 10 U (cS D.1)) nj dc I I)<|dS (gl ((h).toNat) 0 (vS B.1.1 ht.length B.1.2) U RE (ae (n:=r.ao.length) 10 U (cS D.1)) y U dc U)<|dP 2 [] (mc 14 U mn) ?_
 refine dS (SX (bg (xs:=[(1,.const (vB true)),(2,.tmp 59)]) (cs:=(bq.cells (bq.mk false true t (dp.mk 0 0 (bp.mk none 0 0))))) U U (bh Rv U)) U U) ?_
 obtain ⟨K,AB⟩:=aK B.2 ((i).toNat) I
 have v:(List.zipWith au.cells ht B.2)[(i).toNat]? =some (au.cells d K):=dB hd AB
 refine dS (IA ((i).toNat) U (ae (n:=ht.length) 0 U (j8 A7)) tm dc I I)<|cR<|df (k:=(i).toNat) (o:=0) (vs:=(bq.cells (bq.mk false true t (dp.mk 0 0 (bp.mk none 0 0))))) (es':=(List.zipWith au.cells (ht.set (i).toNat (k9 t)) (B.2.set (i).toNat (none,0)))) (C':=[(own B.1.1 B.1.2 62 7 (List.zipWith au.cells (ht.set (i).toNat (k9 t)) (B.2.set (i).toNat (none,0)))),_,_,_,_,_,_,_,_,_,_,_,_,_,_,_,_,_,_,_,_,_,_,_,_,_]) 0 U U U Q3 U U U U v U dc (by exact pj (c:=au.cells) (m:=k9 t) (a:=(none,0))) U<|RK l<|aj fun _ p=>QZ (d':=k9 t) 1 hd AB U U U ?_
 refine Oo (h':=(ht.set (i).toNat (k9 t))) (a':=(B.1,(B.2.set (i).toNat (none,0)))) 2 0 1 I (by have:=D.1; omega) U U ?_
 rw [← wI A,show List.zipWith cw r.ao G=List.zipWith cw (g4 r.ao h i t) (G.set (h).toNat (B.1,(B.2.set (i).toNat (none,0)))) from by rw [wI A]; exact (IP A F (by rw [List.length_set])).symm]
 replace D:=Rz (i:=i) (t:=t) D A F
 refine ak<|fP 1 [] (mc 1 U mn) U<|V0 U sv U<|rP 1 [] mn ?_
 refine RK p<|av ?_
 refine LX hQ (true,0,L,T,M,AA,S,N,V,O,W,P,X,R,Y,(G.set (h).toNat (B.1,(B.2.set (i).toNat (none,0))))) [2,3,4,5,6,7,8,0] [0] (mc 11 U mn) U (by first|rfl|(show List.all _ _=true; simp only [cond_true,fm,List.all_nil,fK,j6,Bool.and_true]; rfl)) U ?_ ?_
 ·first|rfl|(simp only [cond_true,jx]; rfl)
 ·exact ⟨fun _=>⟨Ob ⟨I,Z⟩ A hd H,⟨s,u⟩,D⟩,Nl⟩
end
section
open Go.RowKit
theorem Me (h i:Int) (t:aa) (r:cj) (kA:OA) (kC:Nat) (az:List RA) (cA:OA) (cC:Nat) (bA:OA) (bC:Nat) (slA:OA) (slC:Nat) (drA:OA) (drC:Nat) (ha:List cb) (heA:OA) (heC:Nat) (hin:fw r az ha):
 lB Tryz.prog 29 [(vA (cu.cells (oY r kA kC cA cC bA bC slA slC drA drC heA heC))),(vI h),(vI i),(vA (aa.cells t))] [(rd fx 3 2 eC),(rd kA r.an.aL.length 9 (r.an.aL.map al.cells)),(rd cA r.an.ai.length 2 (List.zipWith ar.cells r.an.ai az)),(fp (aR ar.ia r.an.ai az)),(rd bA r.an.ag.length 4 (r.an.ag.map bE.cells)),(rd slA r.aM.length 1 (r.aM.map iC)),(rd drA r.bL.length 1 (r.bL.map iC)),(rd heA r.ao.length 1 (List.zipWith cw r.ao ha)),(fp (aR iI r.ao ha))] (fun (x:Bool×Int×(OA)×Nat×(OA)×Nat×(List RA)×(OA)×Nat×(OA)×Nat×(OA)×Nat×(OA)×Nat×(List cb))=>bif x.1 then (vT [(vA (cu.cells (cu.mk (b_.mk (bD.mk (bp.mk x.2.2.1 r.an.aL.length x.2.2.2.1)) r.an.gK (bp.mk x.2.2.2.2.1 r.an.ai.length x.2.2.2.2.2.1) (bp.mk x.2.2.2.2.2.2.2.1 r.an.ag.length x.2.2.2.2.2.2.2.2.1) r.an.bS r.an.eg r.an.cM) (bp.mk x.2.2.2.2.2.2.2.2.2.1 r.aM.length x.2.2.2.2.2.2.2.2.2.2.1) (bp.mk x.2.2.2.2.2.2.2.2.2.2.2.1 r.bL.length x.2.2.2.2.2.2.2.2.2.2.2.2.1) r.im (bp.mk x.2.2.2.2.2.2.2.2.2.2.2.2.2.1 ((g4 r.ao h i t).length) x.2.2.2.2.2.2.2.2.2.2.2.2.2.2.1)))),(vI 0)]) else (vT [(vA (cu.cells (cu.mk (b_.mk (bD.mk (bp.mk none 0 0)) 0 (bp.mk none 0 0) (bp.mk none 0 0) 0 0 0) (bp.mk none 0 0) (bp.mk none 0 0) 0 (bp.mk none 0 0)))),(vI x.2.1)])) (fun (x:Bool×Int×(OA)×Nat×(OA)×Nat×(List RA)×(OA)×Nat×(OA)×Nat×(OA)×Nat×(OA)×Nat×(List cb))=>(x.1=true→((g3 r h i t)=0∧(x.2.2.2.2.2.2.1.length=r.an.ai.length∧oG r.an.ai x.2.2.2.2.2.2.1)∧pJ (g4 r.ao h i t) x.2.2.2.2.2.2.2.2.2.2.2.2.2.2.2))∧(x.1=false→(x.2.1=(g3 r h i t)∧ ¬ (g3 r h i t)=0))) (fun (x:Bool×Int×(OA)×Nat×(OA)×Nat×(List RA)×(OA)×Nat×(OA)×Nat×(OA)×Nat×(OA)×Nat×(List cb))=>bif x.1 then [(own x.2.2.1 x.2.2.2.1 153 9 (r.an.aL.map al.cells)),(own x.2.2.2.2.1 x.2.2.2.2.2.1 53 2 (List.zipWith ar.cells r.an.ai x.2.2.2.2.2.2.1)),(br (aR ar.owns r.an.ai x.2.2.2.2.2.2.1)),(own x.2.2.2.2.2.2.2.1 x.2.2.2.2.2.2.2.2.1 160 4 (r.an.ag.map bE.cells)),(own x.2.2.2.2.2.2.2.2.2.1 x.2.2.2.2.2.2.2.2.2.2.1 3 1 (r.aM.map iC)),(own x.2.2.2.2.2.2.2.2.2.2.2.1 x.2.2.2.2.2.2.2.2.2.2.2.2.1 3 1 (r.bL.map iC)),(own x.2.2.2.2.2.2.2.2.2.2.2.2.2.1 x.2.2.2.2.2.2.2.2.2.2.2.2.2.2.1 56 1 (List.zipWith cw (g4 r.ao h i t) x.2.2.2.2.2.2.2.2.2.2.2.2.2.2.2)),(br (aR gZ (g4 r.ao h i t) x.2.2.2.2.2.2.2.2.2.2.2.2.2.2.2))] else []):=by
 have u:=hin.line
 have A1:=hin.iU
 have A2:=hin.has
 have AC:=hin.iY
 have z:=hin.draw
 have e:=dQ (r:=r)
 refine dh kr Tryz.func29 U U fun w0 Q hQ hN=>?_
 try dsimp only
 refine WS fun _ s=>fZ U fun b2=>fZ U fun b3=>AL U yT fun b4=>bk 1 U<|RK s<|WS fun _ Y=>rP 1 [] (mc 2 U mn) ?_
 refine cX (oS r kA kC az cA cC bA bC slA slC drA drC ha heA heC hin) (bo [3,4,5,6,7,8,9,10,11]) U fun y6 g=>?_
 obtain ⟨k,A0,q,S,m,o,p⟩:=y6
 cases k
 ·obtain ⟨M,he⟩:=g.2 rfl
  try dsimp only at M he
  subst M
  try dsimp only [cond_true,cond_false,List.cons_append,List.nil_append]
  refine bk 5 U<|RK Y<|aj fun _ y=>WS fun _ AA=>rP 2 [] mn ?_
  refine RK AA<|bR U (bu fun T=>?_) (bw fun T=>?_)
  ·exact absurd T he
  refine WS fun _ V=>rS (SX (bg (xs:=[]) (cs:=(cu.cells (cu.mk (b_.mk (bD.mk (bp.mk none 0 0)) 0 (bp.mk none 0 0) (bp.mk none 0 0) 0 0 0) (bp.mk none 0 0) (bp.mk none 0 0) 0 (bp.mk none 0 0)))) U U (bh IM U)) U U)<|bk 1 U<|gd U sv U<|rP 1 [] mn ?_
  refine RK V<|av ?_
  refine LX hQ (false,(cG r),none,0,none,0,[],none,0,none,0,none,0,none,0,[]) [] [0] (mc 0 U mn) U (by first|rfl|(show List.all _ _=true; simp only [cond_true,fm,List.all_nil,fK,j6,Bool.and_true]; rfl)) U ?_ ?_
  ·first|rfl|(simp only [cond_true,jx]; rfl)
  ·refine ⟨Bl,fun _=>?_⟩; first|exact MW (sR (h:=h) (i:=i) (t:=t) he) he|exact MW (ph (h:=h) (i:=i) (t:=t) b) he
 obtain ⟨he,f⟩:=g.1 rfl
 try dsimp only [cond_true,cond_false,List.cons_append,List.nil_append]
 have b:=he
 try dsimp only at f
 have d:=(gX he).2
 refine bk 5 U<|RK Y<|aj fun _ W=>WS fun _ X=>bk 1 U<|rS (SX (cd (r:= .bool false) U U U og) U U)<|RK X<|aZ U<|WK W<|WS fun _ N=>rP 4 [] (mc 5 U mn) ?_
 refine cX (xh r kA kC az cA cC bA bC slA slC drA drC ha heA heC p m o (Value.map (some S)) q h i t hin (by exact d)) (mu [8,9,10,11,12,13,14,15]<|aq (ae (n:=(cT r).length) 1 U (nx (by rw [e]; exact f)))<|aq (dg 2 U tU)<|fB 0 U U<|aJ) U fun v P=>?_
 obtain ⟨l,w,A,G,B,H,R,C,AB,D,J,E,K,F,L,j⟩:=v
 cases l
 ·obtain ⟨M,he⟩:=P.2 rfl
  try dsimp only at M he
  subst M
  try dsimp only [cond_true,cond_false,List.cons_append,List.nil_append]
  refine bk 2 U<|PU U sv U<|rP 1 [] mn ?_
  refine RK N<|av ?_
  refine LX hQ (false,(qS r h i t),none,0,none,0,[],none,0,none,0,none,0,none,0,[]) [] [0] (mc 4 U mn) U (by first|rfl|(show List.all _ _=true; simp only [cond_true,fm,List.all_nil,fK,j6,Bool.and_true]; rfl)) U ?_ ?_
  ·first|rfl|(simp only [cond_true,jx]; rfl)
  ·refine ⟨Bl,fun _=>?_⟩; first|exact MW (sR (h:=h) (i:=i) (t:=t) he) he|exact MW (ph (h:=h) (i:=i) (t:=t) b) he
 obtain ⟨O,⟨Z,a⟩,c⟩:=P.1 rfl
 try dsimp only [cond_true,cond_false,List.cons_append,List.nil_append]
 try dsimp only at O Z a c
 refine bk 2 U<|jI (vs:=(cu.cells (cu.mk (b_.mk (bD.mk (bp.mk A r.an.aL.length G)) r.an.gK (bp.mk B r.an.ai.length H) (bp.mk C r.an.ag.length AB) r.an.bS r.an.eg r.an.cM) (bp.mk D r.aM.length J) (bp.mk E r.bL.length K) r.im (bp.mk F ((g4 r.ao h i t).length) L)))) (cs':=(cu.cells (cu.mk (b_.mk (bD.mk (bp.mk A r.an.aL.length G)) r.an.gK (bp.mk B r.an.ai.length H) (bp.mk C r.an.ag.length AB) r.an.bS r.an.eg r.an.cM) (bp.mk D r.aM.length J) (bp.mk E r.bL.length K) r.im (bp.mk F ((g4 r.ao h i t).length) L)))) (C':=[_,_,_,_,_,_,_,_,_,_,_,_,(cm b4 32 (cu.cells (cu.mk (b_.mk (bD.mk (bp.mk A r.an.aL.length G)) r.an.gK (bp.mk B r.an.ai.length H) (bp.mk C r.an.ag.length AB) r.an.bS r.an.eg r.an.cM) (bp.mk D r.aM.length J) (bp.mk E r.bL.length K) r.im (bp.mk F ((g4 r.ao h i t).length) L)))),_,_,_,_,_,_,_,_,_,_,_]) 12 U U U sv U U U U U U U<|rP 1 [] mn ?_
 refine RK N<|av ?_
 refine LX hQ (true,0,A,G,B,H,R,C,AB,D,J,E,K,F,L,j) [0,1,2,3,4,5,6,7] [0] (mc 12 U mn) U (by first|rfl|(show List.all _ _=true; simp only [cond_true,fm,List.all_nil,fK,j6,Bool.and_true]; rfl)) U ?_ ?_
 ·first|rfl|(simp only [cond_true,jx]; rfl)
 ·exact ⟨fun _=>⟨(ph he).trans O,⟨Z,a⟩,c⟩,Nl⟩
end
section
open Go.RowKit
theorem N9 (la:List Int) (laA:OA) (laC:Nat) (lb:List Int) (lbA:OA) (lbC:Nat) (h1:la.length≤1000000) (h2:lb.length≤1000000):
 eB Tryz.prog 70 [(vS laA la.length laC),(vS lbA lb.length lbC)] [(rd laA la.length 1 (la.map iC)),(rd lbA lb.length 1 (lb.map iC))] (vB (decide (la=lb))):=by
 refine bG kr Tryz.func70 U U fun W Q hQ hN=>?_
 try dsimp only
 refine WS fun _ K=>bk 1 U<|RK K<|aj fun _ L=>WS fun _ M=>rP 5 [] mn ?_
 refine RK M<|cP U (bw fun hl=>?_) (bu fun hl=>?_)
 ·refine WS fun _ N=>rP 1 [] mn ?_
  refine RK N<|av<|Q1 hQ U U U ?_
  first|exact cB (cy (oo hx hy h)).symm|exact cB (gF (nV I A I)).symm|exact cB (cy (fun e=>by subst e; omega)).symm
 refine WK L<|aj fun _ O=>WS fun _ P=>rP 3 [] mn ?_
 refine RK P<|ax ?_
 have B:(0≤la.length)∧(la.take 0=lb.take 0):=by simp
 refine bJ (ι:={z:Nat // (z≤la.length)∧(la.take z=lb.take z)}) [0,1,12] [0,1] U U (fun z=>[(13,(vI (z.1:Int)))]) (fun z=>[]) (fun _=>rfl) (fun _=>rfl) (fun z=>la.length-z.1) ⟨0,B⟩ (aT U) (aI [0,1]) ?_
 clear B
 rintro ⟨i,⟨T,A⟩⟩ J7 J
 try dsimp only
 refine WS fun _ R=>rP 1 [] mn ?_
 refine RK R<|aj fun _ S=>bR U (aN fun AB=>?_) (aO fun AB=>?_)
 ·refine bB<|ab<|ab<|ay<|KK O<|WS fun _ G=>rP 1 [] mn ?_
  refine RK G<|av<|Q1 hQ U U U ?_
  first|exact cB (cy (oo hx hy h)).symm|exact cB (gF (nV I A I)).symm|exact cB (cy (fun e=>by subst e; omega)).symm
 refine WK S<|aj fun _ C=>ax<|WS fun _ D=>bk 2 U<|RK D<|aj fun _ E=>dM cE 9 kr<|dP 2 [] mn ?_
 obtain ⟨x,hx⟩:=aK la i I
 have AA:=bQ iC hx
 refine dS (IA i U (aA 0 U) cK dc I I)<|dS (gl i 0 (vI x) U cp (aA 0 U) AA U dc U)<|dP 2 [] mn ?_
 obtain ⟨y,hy⟩:=aK lb i I
 have V:=bQ iC hy
 refine dS (IA i U (aA 1 U) cK dc I I)<|dS (gl i 0 (vI y) U cp (aA 1 U) V U dc U)<|dP 1 [] mn ?_
 refine cR<|RK E<|cP U (bw fun h=>?_) (bu fun h=>?_)
 ·refine WS fun _ F=>rP 1 [] mn ?_
  refine RK F<|av<|Q1 hQ U U U ?_
  first|exact cB (cy (oo hx hy h)).symm|exact cB (gF (nV I A I)).symm|exact cB (cy (fun e=>by subst e; omega)).symm
 refine ct<|aF<|KK C<|ak<|rP 2 [] mn ?_
 refine aB ?_
 have H:(vI (((i+1):Nat):Int))=(vI ((i:Int)+1)):=by exact cI I
 refine aU (J ⟨(i+1),⟨I,uZ A hx hy h⟩⟩ _ _ _ U os (cQ 3<|bj U H<|dI.nil _) (aI [0,1]))
theorem HH (h i:Int) (t:aa) (r:cj) (kA:OA) (kC:Nat) (az:List RA) (cA:OA) (cC:Nat) (bA:OA) (bC:Nat) (slA:OA) (slC:Nat) (drA:OA) (drC:Nat) (ha:List cb) (heA:OA) (heC:Nat) (hin:fw r az ha):
 lB Tryz.prog 31 [(vA (cu.cells (oY r kA kC cA cC bA bC slA slC drA drC heA heC))),(vI h),(vI i),(vA (aa.cells t))] [(rd fx 3 2 eC),(rd kA r.an.aL.length 9 (r.an.aL.map al.cells)),(rd cA r.an.ai.length 2 (List.zipWith ar.cells r.an.ai az)),(fp (aR ar.ia r.an.ai az)),(rd bA r.an.ag.length 4 (r.an.ag.map bE.cells)),(rd slA r.aM.length 1 (r.aM.map iC)),(rd drA r.bL.length 1 (r.bL.map iC)),(rd heA r.ao.length 1 (List.zipWith cw r.ao ha)),(fp (aR iI r.ao ha))] (fun (x:(OA)×Nat)=>(vT [(vS x.1 ((fg r h i t).length) x.2),(vI (g3 r h i t))])) (fun (x:(OA)×Nat)=>True) (fun (x:(OA)×Nat)=>[(own x.1 x.2 3 1 ((fg r h i t).map iC))]):=by
 have H1:=hin.line
 have LE:=hin.iU
 have LT:=hin.has
 have J6:=hin.iY
 have J4:=hin.draw
 have C3:=dQ (r:=r)
 refine dh kr Tryz.func31 U U fun w0 Q hQ hN=>?_
 try dsimp only
 refine WS fun _ Hy=>fZ U fun b2=>fZ U fun b3=>bk 2 U<|RK Hy<|WS fun _ A2=>rP 1 [] (mc 1 U mn) ?_
 refine cX (oS r kA kC az cA cC bA bC slA slC drA drC ha heA heC hin) (bo [2,3,4,5,6,7,8,9,10]) U fun y5 Di=>?_
 obtain ⟨D2,K8,v,G,f,g,Bf⟩:=y5
 cases D2
 ·obtain ⟨B,he⟩:=Di.2 rfl
  try dsimp only at B he
  subst B
  try dsimp only [cond_true,cond_false,List.cons_append,List.nil_append]
  refine bk 5 U<|RK A2<|aj fun _ J2=>WS fun _ AC=>rP 2 [] mn ?_
  refine RK AC<|bR U (bu fun w=>?_) (bw fun w=>?_)
  ·exact absurd w he
  refine WS fun _ AO=>rP 1 [] mn ?_
  have A:g3 r h i t=cG r:=sR he
  have C:fg r h i t=[]:=xM (by rw [A]; exact he)
  refine dY 3 1 ?_
  rw [show (own none 0 3 1 ([]:List (List Value)))=own none 0 3 1 ((fg r h i t).map iC) from by rw [C]; rfl]
  refine rP 2 [] mn ?_
  refine RK AO<|av ?_
  refine LX hQ (none,0) [0] [] mn U U U ?_ ?_
  ·first|rfl|(rw [A,C]; rfl)|(rw [A]; rfl)
  ·trivial
 obtain ⟨he,m⟩:=Di.1 rfl
 try dsimp only [cond_true,cond_false,List.cons_append,List.nil_append]
 have AB:=he
 try dsimp only at m
 have C0:=(gX he).2
 refine bk 5 U<|RK A2<|aj fun _ A0=>WS fun _ A1=>bk 1 U<|rS (SX (cd (r:= .bool false) U U U og) U U)<|RK A1<|aZ U<|WK A0<|WS fun _ Z=>rP 4 [] (mc 4 U mn) ?_
 refine cX (xh r kA kC az cA cC bA bC slA slC drA drC ha heA heC Bf f g (Value.map (some G)) v h i t hin (by exact C0)) (mu [7,8,9,10,11,12,13,14]<|aq (ae (n:=(cT r).length) 1 U (nx (by rw [C3]; exact m)))<|aq (dg 2 U tU)<|fB 0 U U<|aJ) U fun IR d=>?_
 obtain ⟨D9,JO,L,S,M,T,o,N,AA,O,V,P,W,R,X,Do⟩:=IR
 cases D9
 ·obtain ⟨B,he⟩:=d.2 rfl
  try dsimp only at B he
  subst B
  try dsimp only [cond_true,cond_false,List.cons_append,List.nil_append]
  refine bk 3 U<|AL U yT fun KS=>gd U sv U<|bk 1 U<|RK Z<|aj fun _ J3=>WS fun _ A3=>rP 2 [] mn ?_
  refine RK A3<|bR U (bu fun y=>?_) (bw fun y=>?_)
  ·exact absurd y he
  refine WS fun _ A4=>rP 1 [] mn ?_
  have A:g3 r h i t=qS r h i t:=ph AB
  have C:fg r h i t=[]:=xM (by rw [A]; exact he)
  refine dY 3 1 ?_
  rw [show (own none 0 3 1 ([]:List (List Value)))=own none 0 3 1 ((fg r h i t).map iC) from by rw [C]; rfl]
  refine rP 2 [] mn ?_
  refine RK A4<|av ?_
  refine LX hQ (none,0) [0] [] mn U U U ?_ ?_
  ·first|rfl|(rw [A,C]; rfl)|(rw [A]; rfl)
  ·trivial
 obtain ⟨E,⟨j,Ck⟩,J⟩:=d.1 rfl
 try dsimp only [cond_true,cond_false,List.cons_append,List.nil_append]
 try dsimp only at E j Ck J
 have l:g3 r h i t=0:=(ph AB).trans E
 have Cp:=hin.rep j Ck J
 refine bk 3 U<|AL U yT fun K0=>gd U sv U<|bk 1 U<|RK Z<|aj fun _ A5=>WS fun _ A6=>bk 1 U<|rS (SX (cd (r:= .bool false) U U U og) U U)<|RK A6<|aZ U<|WK A5<|WS fun _ A7=>rP 1 [] (mc 0 U mn) ?_
 refine cX (oS (jW r h i t) L S o M T N AA O V P W Do R X (by exact Cp)) (fB 15 U U<|aq (ae (n:=r.an.aL.length) 1 U sm)<|aq (ae (n:=r.an.ai.length) 2 U (ei j))<|aq (dg 3 U gU)<|aq (ae (n:=r.an.ag.length) 4 U sm)<|aq (ae (n:=r.aM.length) 5 U sm)<|aq (ae (n:=r.bL.length) 6 U sm)<|aq (ae (n:=(g4 r.ao h i t).length) 7 U (cS J.1))<|aq (fY 8 U J)<|aJ) U fun Id e=>?_
 obtain ⟨EQ,Jc,s,p,Eq,FS,OY⟩:=Id
 cases EQ
 ·obtain ⟨B,he⟩:=e.2 rfl
  try dsimp only at B he
  subst B
  try dsimp only [cond_true,cond_false,List.cons_append,List.nil_append]
  exact absurd (z4 l) he
 obtain ⟨he,m⟩:=e.1 rfl
 try dsimp only [cond_true,cond_false,List.cons_append,List.nil_append]
 have C1:=oZ AB
 have F:=pD AB
 have C2:=oZ he
 have J5:=pD he
 refine bk 5 U<|RK A7<|WS fun _ A8=>bk 1 U<|RK A8<|aj fun _ A9=>WS fun _ BF=>bk 1 U<|rS (SX (bO U U) U U)<|rP 2 [] (mc 13 U mn) ?_
 refine cX (GO G) (aJ) U fun GF J7=>?_
 try dsimp only
 refine cX (Ak (aG r) G GF sd) (bo [17,0]) U fun If J8=>?_
 obtain ⟨KR,K5⟩:=If
 try dsimp only
 rw [show (aG r).length=(dE ((aG r).map (·.1))).length from by rw [gL,List.length_map]]
 refine rP 1 [] mn ?_
 have Cx:(dE ((aG r).map (·.1))).length≤5:=by rw [gL,List.length_map]; exact F
 refine rP 1 [] mn ?_
 refine RK BF<|ax<|gu 3 1 ?_
 have D:(0≤(dE ((aG r).map (·.1))).length):=by exact Nat.zero_le _
 refine bJ (ι:={z:Nat×(OA)×Nat // (z.1≤(dE ((aG r).map (·.1))).length)}) [10,13,47,48] [1,3,4,5,6,8,9,10,11,12,13,14,15,16,17,18,19,22,23,24,25,26,27,28,29,30] U U (fun z=>[(15,(vS z.1.2.1 ((((dE ((aG r).map (·.1))).take z.1.1).filter (fun u=> !decide (d_ (aG r) u (aD (aG r) u)=d_ (aG (jW r h i t)) u (aD (aG (jW r h i t)) u)))).length) z.1.2.2)),(49,(vI (z.1.1:Int)))]) (fun z=>[(own z.1.2.1 z.1.2.2 3 1 ((((dE ((aG r).map (·.1))).take z.1.1).filter (fun u=> !decide (d_ (aG r) u (aD (aG r) u)=d_ (aG (jW r h i t)) u (aD (aG (jW r h i t)) u)))).map iC))]) (fun _=>rfl) (fun _=>rfl) (fun z=>(dE ((aG r).map (·.1))).length-z.1.1) ⟨(0,none,0),D⟩ (aT U) (aI [1,3,4,5,6,8,9,10,11,12,13,14,15,16,17,18,19,22,23,24,25,26,27,28,29,30,0]) ?_
 clear D
 rintro ⟨⟨k,a,c⟩,K⟩ J65 Y
 try dsimp only at K
 try dsimp only
 have LA:((((dE ((aG r).map (·.1))).take k).filter (fun u=> !decide (d_ (aG r) u (aD (aG r) u)=d_ (aG (jW r h i t)) u (aD (aG (jW r h i t)) u))))).length≤12:=Nat.le_trans (List.length_filter_le _ _) (by rw [List.length_take]; omega)
 refine WS fun _ Bb=>rP 1 [] mn ?_
 refine RK Bb<|aj fun _ Bg=>bR U (aN fun Hi=>?_) (aO fun Hi=>?_)
 ·refine bB<|ab<|ab<|ay<|KK A9<|WS fun _ B7=>rP 1 [] mn ?_
  have A:=l
  have C:fg r h i t=(((dE ((aG r).map (·.1))).take k).filter (fun u=> !decide (d_ (aG r) u (aD (aG r) u)=d_ (aG (jW r h i t)) u (aD (aG (jW r h i t)) u)))):=by rw [EN l,List.take_of_length_le I]
  rw [← C]
  refine rP 2 [] mn ?_
  refine RK B7<|av ?_
  refine LX hQ (a,c) [26] [] mn U U U ?_ ?_
  ·first|rfl|(rw [A,C]; rfl)|(rw [A]; rfl)
  ·trivial
 refine WK Bg<|aj fun _ b=>ax<|WS fun _ Bs=>?_
 obtain ⟨x,hx⟩:=aK (dE ((aG r).map (·.1))) k I
 have IO:=bQ iC hx
 refine rS (IA k U (ae (n:=(dE ((aG r).map (·.1))).length) 0 U sm) cK dc I I)<|rS (gl k 0 (vI x) U cp (ae (n:=(dE ((aG r).map (·.1))).length) 0 U sm) IO U dc U)<|bk 1 U<|RK Bs<|WS fun _ B3=>rP 2 [] mn ?_
 refine cX (AR r kA kC cA cC bA bC slA slC drA drC heA heC f ((cT r).length) g G v (aG r) x (by exact C1) (by exact CZ (aS hx)) I) (bo [13,16]) U fun In J9=>?_
 obtain ⟨Fd,GT⟩:=In
 try dsimp only
 refine rP 2 [] mn ?_
 refine cX (AR (cj.mk r.an r.aM r.bL r.im (g4 r.ao h i t)) L S M T N AA O V P W R X Eq ((cT (jW r h i t)).length) FS p s (aG (jW r h i t)) x (by exact C2) (by exact fun q=>by have:=MA E x; rw [q] at this; exact CZ (aS hx) (Option.not_isSome_iff_eq_none.1 (by rw [← this]; decide))) I) (bo [2,5]) U fun JN KC=>?_
 obtain ⟨Fn,GZ⟩:=JN
 try dsimp only
 refine rS (CL (N9 (d_ (aG r) x (aD (aG r) x)) Fd GT (d_ (aG (jW r h i t)) x (aD (aG (jW r h i t)) x)) Fn GZ (by exact Nat.le_trans xC I) (by exact Nat.le_trans xC I)) (aq (ae (n:=(d_ (aG r) x (aD (aG r) x)).length) 1 U sm)<|aq (ae (n:=(d_ (aG (jW r h i t)) x (aD (aG (jW r h i t)) x)).length) 0 U sm)<|aJ) U)<|rP 1 [] mn ?_
 refine RK B3<|bR U (bu fun H=>?_) (bw fun H=>?_)
 ·refine ct<|aF<|KK b<|ak<|rP 1 [] mn ?_
  have Cx:(dE ((aG r).map (·.1))).length≤5:=by rw [gL,List.length_map]; exact F
  refine rP 1 [] mn ?_
  refine aB ?_
  rw [show (((dE ((aG r).map (·.1))).take k).filter (fun u=> !decide (d_ (aG r) u (aD (aG r) u)=d_ (aG (jW r h i t)) u (aD (aG (jW r h i t)) u))))=(((dE ((aG r).map (·.1))).take (k+1)).filter (fun u=> !decide (d_ (aG r) u (aD (aG r) u)=d_ (aG (jW r h i t)) u (aD (aG (jW r h i t)) u)))) from (F8 hx (by simpa using H)).symm]
  have Ci:(vI (((k+1):Nat):Int))=(vI ((k:Int)+1)):=by exact cI I
  refine aU (Y ⟨((k+1),a,c),(by first|omega|(simp only []; omega))⟩ _ _ _ U (by first|omega|(dsimp only; omega)) (cQ 5<|bj U Ci<|dI.nil _) (aI [2,3,4,5,6,7,8,9,10,11,12,13,14,15,16,17,18,19,20,21,22,23,24,25,26,27,28]))
 refine ak<|rP 2 [] mn ?_
 refine dj (xs:=[.tmp 62]) (cs:=[(vI x)]) U cK jA U U U U (by simp [Value.cells]) U U fun K4=>?_
 refine cL (es2:=(List.map iC (((dE ((aG r).map (·.1))).take (k+1)).filter (fun u=> !decide (d_ (aG r) u (aD (aG r) u)=d_ (aG (jW r h i t)) u (aD (aG (jW r h i t)) u)))))) (m':=(((dE ((aG r).map (·.1))).take (k+1)).filter (fun u=> !decide (d_ (aG r) u (aD (aG r) u)=d_ (aG (jW r h i t)) u (aD (aG (jW r h i t)) u)))).length) 29 U U U o9 U U sm (bf (es:=List.map iC [x]) 0 U U (by simp [bH]) U) (jX _) os (by simp only [maxLen]; first|omega|(simp; omega)) (by rw [xJ hx (by simpa using H)]; simp) (by rw [xJ hx (by simpa using H)]; simp) U fun GE Go=>?_
 try dsimp only
 refine bk 1 U<|aB<|aF<|KK b<|ak<|rP 1 [] mn ?_
 have Cx:(dE ((aG r).map (·.1))).length≤5:=by rw [gL,List.length_map]; exact F
 refine rP 1 [] mn ?_
 refine aB ?_
 have B9:(vI (((k+1):Nat):Int))=(vI ((k:Int)+1)):=by exact cI I
 refine aU (Y ⟨((k+1),GE,Go),(by first|omega|(simp only []; omega))⟩ _ _ _ U (by first|omega|(dsimp only; omega)) (cQ 5<|bj U B9<|dI.nil _) (aI [3,4,5,6,7,8,9,10,11,12,13,14,15,16,17,18,19,20,21,22,23,24,25,26,27,28,29]))
end
section
open Go.RowKit
theorem mG (x y:Int):
 eB Tryz.prog 30 [(vI x),(vI y)] [] (vA (aa.cells (aa.mk x y))):=by
 refine bG kr Tryz.func30 U U fun D Q hQ hN=>?_
 try dsimp only
 refine WS fun _ A=>AL U dA fun C=>RK A<|WS fun _ B=>rP 2 [] mn ?_
 refine rS (SX (bg (xs:=[(0,.tmp 5),(1,.tmp 6)]) (cs:=(aa.cells (aa.mk x y))) U U (bh gJ U)) U U)<|gd U cz U<|RK B<|av ?_
 exact I3 hQ [0] (mc 0 U mn) U U
theorem AE (x:Int):
 eB Tryz.prog 106 [(vI x)] [] (vA (cN.cells (cN.mk 0 (aa.mk x x)))):=by
 refine bG kr Tryz.func106 U U fun D Q hQ hN=>?_
 try dsimp only
 refine WS fun _ A=>AL U Dd fun C=>RK A<|WS fun _ B=>rP 2 [] mn ?_
 refine rS (CL (mG x x) (aJ) U)<|rS (SX (bg (xs:=[(1,.tmp 5)]) (cs:=(cN.cells (cN.mk 0 (aa.mk x x)))) U U (bh Tn U)) U U)<|gd U Mc U<|RK B<|av ?_
 exact I3 hQ [0] (mc 0 U mn) U U
theorem qK (x y:Int):
 eB Tryz.prog 68 [(vI x),(vI y)] [] (vA (bq.cells (bq.mk false true (aa.mk x y) (dp.mk 0 0 (bp.mk none 0 0))))):=by
 refine bG kr Tryz.func68 U U fun D Q hQ hN=>?_
 try dsimp only
 refine WS fun _ A=>AL U Oj fun C=>RK A<|WS fun _ B=>rP 2 [] mn ?_
 refine rS (CL (mG x y) (aJ) U)<|rS (SX (bg (xs:=[(1,.const (vB true)),(2,.tmp 7)]) (cs:=(bq.cells (bq.mk false true (aa.mk x y) (dp.mk 0 0 (bp.mk none 0 0))))) U U (bh Rv U)) U U)<|gd U Q3 U<|RK B<|av ?_
 exact I3 hQ [0] (mc 0 U mn) U U
theorem NH:
 lB Tryz.prog 66 [] [] (fun (x:(OA)×Nat×(OA)×Nat×(List RA)×(OA)×Nat)=>(vA (b_.cells (b_.mk (bD.mk (bp.mk x.1 aP.an.aL.length x.2.1)) aP.an.gK (bp.mk x.2.2.1 aP.an.ai.length x.2.2.2.1) (bp.mk x.2.2.2.2.2.1 aP.an.ag.length x.2.2.2.2.2.2) aP.an.bS aP.an.eg aP.an.cM)))) (fun (x:(OA)×Nat×(OA)×Nat×(List RA)×(OA)×Nat)=>x.2.2.2.2.1.length=aP.an.ai.length∧eA aP.an x.2.2.2.2.1) (fun (x:(OA)×Nat×(OA)×Nat×(List RA)×(OA)×Nat)=>[(own x.1 x.2.1 153 9 (aP.an.aL.map al.cells)),(own x.2.2.1 x.2.2.2.1 53 2 (List.zipWith ar.cells aP.an.ai x.2.2.2.2.1)),(br (aR ar.owns aP.an.ai x.2.2.2.2.1)),(own x.2.2.2.2.2.1 x.2.2.2.2.2.2 160 4 (aP.an.ag.map bE.cells))]):=by
 refine dh kr Tryz.func66 U U fun AA Q hQ hN=>?_
 try dsimp only
 refine WS fun _ E=>AL U Se fun H=>RK E<|WS fun _ F=>bk 1 U<|RK F<|WS fun _ G=>rS (CL (mG 10000 10200) (aJ) U)<|rS (CL (mG 0 100) (aJ) U)<|rS (SX (bg (xs:=[(0,.const (vI 1)),(1,.tmp 2),(2,.tmp 3)]) (cs:=(al.cells (al.mk 1 (aa.mk 10000 10200) (aa.mk 0 100) (aa.mk 0 0) 0 0))) U U (bh Sm U)) U U)<|dj (xs:=[.tmp 4]) (cs:=(al.cells (al.mk 1 (aa.mk 10000 10200) (aa.mk 0 100) (aa.mk 0 0) 0 0))) U ym G6 U U U U (by simp [Value.cells,al.aW]) U U fun B=>rS (SX (bg (xs:=[(0,.tmp 5)]) (cs:=(bD.cells (bD.mk (bp.mk (some ⟨B,0,none⟩) 1 1)))) U U (bh Tf U)) U U)<|rS (CL (mG 0 2) (aJ) U)<|rS (SX (bg (xs:=[(0,.const (vI 0)),(1,.tmp 7)]) (cs:=(cr.cells (cr.mk 0 (aa.mk 0 2)))) U U (bh Sj U)) U U)<|rS (CL (mG 5 6) (aJ) U)<|rS (SX (bg (xs:=[(0,.const (vI 100000)),(1,.tmp 9)]) (cs:=(cr.cells (cr.mk 100000 (aa.mk 5 6)))) U U (bh Sj U)) U U)<|dj (xs:=[.tmp 8,.tmp 10]) (cs:=((cr.cells (cr.mk 0 (aa.mk 0 2)))++(cr.cells (cr.mk 100000 (aa.mk 5 6))))) U tW yS U U U U (by simp [Value.cells,cr.aW]) U U fun A=>rS (SX (bg (xs:=[(0,.const (vI 100)),(1,.tmp 11)]) (cs:=(dD.cells (dD.mk 100 (bp.mk (some ⟨A,0,none⟩) 2 2)))) U U (bh V4 U)) U U)<|dj (xs:=[.tmp 12]) (cs:=(dD.cells (dD.mk 100 (bp.mk (some ⟨A,0,none⟩) 2 2)))) U uC OY U U U U (by simp [Value.cells,dD.aW]) U U fun C=>bk 1 U<|rS (CL (AE 1000) (aJ) U)<|rS (SX (bg (xs:=[(0,.tmp 15)]) (cs:=(bE.cells (bE.mk (cN.mk 0 (aa.mk 1000 1000)) 0))) U U (bh MJ U)) U U)<|bk 1 U<|rS (CL (AE 4000) (aJ) U)<|rS (SX (bg (xs:=[(0,.tmp 18)]) (cs:=(bE.cells (bE.mk (cN.mk 0 (aa.mk 4000 4000)) 0))) U U (bh MJ U)) U U)<|rP 1 [] mn ?_
 refine rS (CL (AE 9000) (aJ) U)<|rS (SX (bg (xs:=[(0,.tmp 21)]) (cs:=(bE.cells (bE.mk (cN.mk 0 (aa.mk 9000 9000)) 0))) U U (bh MJ U)) U U)<|dj (xs:=[.tmp 16,.tmp 19,.tmp 22]) (cs:=((bE.cells (bE.mk (cN.mk 0 (aa.mk 1000 1000)) 0))++(bE.cells (bE.mk (cN.mk 0 (aa.mk 4000 4000)) 0))++(bE.cells (bE.mk (cN.mk 0 (aa.mk 9000 9000)) 0)))) U vx Tb U U U U (by simp [Value.cells,bE.aW]) U U fun D=>rS (SX (bg (xs:=[(0,.tmp 6),(1,.const (vI 2000)),(4,.const (vI 1)),(5,.const (vI 1)),(6,.const (vI 1)),(2,.tmp 13),(3,.tmp 23)]) (cs:=(b_.cells (b_.mk (bD.mk (bp.mk (some ⟨B,0,none⟩) 1 1)) 2000 (bp.mk (some ⟨C,0,none⟩) 1 1) (bp.mk (some ⟨D,0,none⟩) 3 3) 1 1 1))) U U (bh Vl U)) U U) ?_
 refine cW (es:=(aP.an.aL.map al.cells)) (C':=[_,_,_,(own (some ⟨B,0,none⟩) 1 153 9 (aP.an.aL.map al.cells)),_]) 3 U (nk al.aW _) U (by show _≤maxLen; exact Nat.le_trans (m:=10) (show (1:Nat)≤10 by decide) dc) U ?_
 refine cW (es:=(yZ.aX.map cr.cells)) (C':=[_,_,(own (some ⟨A,0,none⟩) 2 55 3 (yZ.aX.map cr.cells)),_,_]) 2 U (nk cr.aW _) U (by show _≤maxLen; exact Nat.le_trans (m:=10) (show (2:Nat)≤10 by decide) dc) U ?_
 refine cW (es:=(List.zipWith ar.cells aP.an.ai [((some ⟨A,0,none⟩),2)])) (C':=[_,(own (some ⟨C,0,none⟩) 1 53 2 (List.zipWith ar.cells aP.an.ai [((some ⟨A,0,none⟩),2)])),_,_,_]) 1 U (by intro x hx; change x∈[ar.cells yZ ((some ⟨A,0,none⟩),2)] at hx; rw [bI.1 hx]; rfl) U (by show _≤maxLen; exact Nat.le_trans (m:=10) (show (1:Nat)≤10 by decide) dc) U ?_
 refine cW (es:=(aP.an.ag.map bE.cells)) (C':=[(own (some ⟨D,0,none⟩) 3 160 4 (aP.an.ag.map bE.cells)),_,_,_,_]) 0 U (nk bE.aW _) U (by show _≤maxLen; exact Nat.le_trans (m:=10) (show (3:Nat)≤10 by decide) dc) U ?_
 refine xG<|PE (X:=[]) (X':=aR ar.owns aP.an.ai [((some ⟨A,0,none⟩),2)]) 0 3 U U U<|PU U QL U<|RK G<|av ?_
 refine LX hQ ((some ⟨B,0,none⟩),1,(some ⟨C,0,none⟩),1,[((some ⟨A,0,none⟩),2)],(some ⟨D,0,none⟩),3) [3,2,0,1] [0] (mc 4 U mn) U (by simp only [fm,List.all_nil,fK,Bool.and_true]; rfl) U U ?_
 exact ⟨U,Uk 1 dc⟩
theorem O2:
 lB Tryz.prog 67 [] [] (fun (x:(OA)×Nat)=>(vA (dp.cells (dp.mk m6.Start m6.fE (bp.mk x.1 m6.ah.length x.2))))) (fun (x:(OA)×Nat)=>True) (fun (x:(OA)×Nat)=>[(own x.1 x.2 107 2 (m6.ah.map aH.cells))]):=by
 refine dh kr Tryz.func67 U U fun E Q hQ hN=>?_
 try dsimp only
 refine WS fun _ B=>AL U N7 fun D=>RK B<|WS fun _ C=>rS (SX (bg (xs:=[(0,.const (vI 0)),(1,.const (vI 10600))]) (cs:=(aH.cells (aH.mk 0 10600))) U U (bh Gl U)) U U)<|rS (SX (bg (xs:=[(0,.const (vI 0)),(1,.const (vI 11000))]) (cs:=(aH.cells (aH.mk 0 11000))) U U (bh Gl U)) U U)<|rS (SX (bg (xs:=[(0,.const (vI 1)),(1,.const (vI 12600))]) (cs:=(aH.cells (aH.mk 1 12600))) U U (bh Gl U)) U U)<|dj (xs:=[.tmp 1,.tmp 2,.tmp 3]) (cs:=((aH.cells (aH.mk 0 10600))++(aH.cells (aH.mk 0 11000))++(aH.cells (aH.mk 1 12600)))) U wh GI U U U U (by simp [Value.cells,aH.aW]) U U fun A=>rS (SX (bg (xs:=[(0,.const (vI 10000)),(1,.const (vI 20000)),(2,.tmp 4)]) (cs:=(dp.cells (dp.mk 10000 20000 (bp.mk (some ⟨A,0,none⟩) 3 3)))) U U (bh VG U)) U U)<|cW (es:=(m6.ah.map aH.cells)) (C':=[(own (some ⟨A,0,none⟩) 3 107 2 (m6.ah.map aH.cells)),_]) 0 U (nk aH.aW _) U dc U<|te U B8 U<|RK C<|av<|LX hQ ((some ⟨A,0,none⟩),3) [0] [0] (mc 1 U mn) U U U U ?_
 trivial
end
section
open Go.RowKit
theorem jQ:
 lB Tryz.prog 28 [] [] (fun (x:(OA)×Nat×(OA)×Nat×(List RA)×(OA)×Nat×(OA)×Nat×(OA)×Nat×(OA)×Nat×(List cb))=>(vA (cu.cells (cu.mk (b_.mk (bD.mk (bp.mk x.1 aP.an.aL.length x.2.1)) aP.an.gK (bp.mk x.2.2.1 aP.an.ai.length x.2.2.2.1) (bp.mk x.2.2.2.2.2.1 aP.an.ag.length x.2.2.2.2.2.2.1) aP.an.bS aP.an.eg aP.an.cM) (bp.mk x.2.2.2.2.2.2.2.1 aP.aM.length x.2.2.2.2.2.2.2.2.1) (bp.mk x.2.2.2.2.2.2.2.2.2.1 aP.bL.length x.2.2.2.2.2.2.2.2.2.2.1) aP.im (bp.mk x.2.2.2.2.2.2.2.2.2.2.2.1 aP.ao.length x.2.2.2.2.2.2.2.2.2.2.2.2.1))))) (fun (x:(OA)×Nat×(OA)×Nat×(List RA)×(OA)×Nat×(OA)×Nat×(OA)×Nat×(OA)×Nat×(List cb))=>fw aP x.2.2.2.2.1 x.2.2.2.2.2.2.2.2.2.2.2.2.2∧x.2.2.2.2.1.length=aP.an.ai.length∧pJ aP.ao x.2.2.2.2.2.2.2.2.2.2.2.2.2) (fun (x:(OA)×Nat×(OA)×Nat×(List RA)×(OA)×Nat×(OA)×Nat×(OA)×Nat×(OA)×Nat×(List cb))=>[(own x.1 x.2.1 153 9 (aP.an.aL.map al.cells)),(own x.2.2.1 x.2.2.2.1 53 2 (List.zipWith ar.cells aP.an.ai x.2.2.2.2.1)),(br (aR ar.owns aP.an.ai x.2.2.2.2.1)),(own x.2.2.2.2.2.1 x.2.2.2.2.2.2.1 160 4 (aP.an.ag.map bE.cells)),(own x.2.2.2.2.2.2.2.1 x.2.2.2.2.2.2.2.2.1 3 1 (aP.aM.map iC)),(own x.2.2.2.2.2.2.2.2.2.1 x.2.2.2.2.2.2.2.2.2.2.1 3 1 (aP.bL.map iC)),(own x.2.2.2.2.2.2.2.2.2.2.2.1 x.2.2.2.2.2.2.2.2.2.2.2.2.1 56 1 (List.zipWith cw aP.ao x.2.2.2.2.2.2.2.2.2.2.2.2.2)),(br (aR gZ aP.ao x.2.2.2.2.2.2.2.2.2.2.2.2.2))]):=by
 refine dh kr Tryz.func28 U U fun Y Q hQ hN=>?_
 try dsimp only
 refine WS fun _ P=>AL U yT fun X=>RK P<|WS fun _ R=>cX NH (aJ) U fun W T=>?_
 obtain ⟨J,M,K,N,L,E,F⟩:=W
 try dsimp only
 obtain ⟨S,O⟩:=T
 refine dj (xs:=[.const (vI 4),.const (vI 7),.const (vI 9)]) (cs:=[(vI 4),(vI 7),(vI 9)]) U cK jA U U U U (by simp [Value.cells]) U U fun G=>dj (xs:=[.const (vI 2),.const (vI 0),.const (vI 1)]) (cs:=[(vI 2),(vI 0),(vI 1)]) U cK jA U U U U (by simp [Value.cells]) U U fun H=>cX O2 (aJ) U fun AA V=>?_
 obtain ⟨A,B⟩:=AA
 try dsimp only
 refine rS (SX (bg (xs:=[(3,.tmp 4)]) (cs:=(bq.cells (bq.mk false false (aa.mk 0 0) (dp.mk m6.Start m6.fE (bp.mk A m6.ah.length B))))) U U (bh Rv U)) U U)<|rS (CL (qK 2600 2600) (aJ) U)<|rS (CL (qK 2580 2609) (aJ) U)<|dj (xs:=[.tmp 5,.tmp 6,.tmp 7]) (cs:=((bq.cells (bq.mk false false (aa.mk 0 0) (dp.mk m6.Start m6.fE (bp.mk A m6.ah.length B))))++(bq.cells (bq.mk false true (aa.mk 2600 2600) (dp.mk 0 0 (bp.mk none 0 0))))++(bq.cells (bq.mk false true (aa.mk 2580 2609) (dp.mk 0 0 (bp.mk none 0 0)))))) U tm Oj U U U U (by simp [Value.cells,bq.aW]) U U fun C=>rS (CL (qK 2555 2559) (aJ) U)<|rS (CL (qK 2540 2549) (aJ) U)<|rS (CL (qK 2570 2575) (aJ) U)<|dj (xs:=[.tmp 9,.tmp 10,.tmp 11]) (cs:=((bq.cells (bq.mk false true (aa.mk 2555 2559) (dp.mk 0 0 (bp.mk none 0 0))))++(bq.cells (bq.mk false true (aa.mk 2540 2549) (dp.mk 0 0 (bp.mk none 0 0))))++(bq.cells (bq.mk false true (aa.mk 2570 2575) (dp.mk 0 0 (bp.mk none 0 0)))))) U tm Oj U U U U (by simp [Value.cells,bq.aW]) U U fun D=>dj (xs:=[.tmp 8,.tmp 12]) (cs:=[(vS (some ⟨C,0,none⟩) 3 3),(vS (some ⟨D,0,none⟩) 3 3)]) U nj Vn U U U U (by simp [Value.cells]) U U fun AB=>rS (SX (bg (xs:=[(0,.tmp 1),(1,.tmp 2),(2,.tmp 3),(3,.const (vI 2)),(4,.tmp 13)]) (cs:=(cu.cells (cu.mk (b_.mk (bD.mk (bp.mk J aP.an.aL.length M)) aP.an.gK (bp.mk K aP.an.ai.length N) (bp.mk E aP.an.ag.length F) aP.an.bS aP.an.eg aP.an.cM) (bp.mk (some ⟨G,0,none⟩) 3 3) (bp.mk (some ⟨H,0,none⟩) 3 3) 2 (bp.mk (some ⟨AB,0,none⟩) 2 2)))) U U (bh IM U)) U U) ?_
 refine cW (es:=(aP.aM.map iC)) (C':=[_,_,_,_,_,(own (some ⟨G,0,none⟩) 3 3 1 (aP.aM.map iC)),_,_,_,_,_]) 5 U (nk bH _) U (by show _≤maxLen; exact Nat.le_trans (m:=10) (show (3:Nat)≤10 by decide) dc) U ?_
 refine cW (es:=(aP.bL.map iC)) (C':=[_,_,_,_,(own (some ⟨H,0,none⟩) 3 3 1 (aP.bL.map iC)),_,_,_,_,_,_]) 4 U (nk bH _) U (by show _≤maxLen; exact Nat.le_trans (m:=10) (show (3:Nat)≤10 by decide) dc) U ?_
 refine cW (es:=(List.zipWith au.cells UG [(A,B),(none,0),(none,0)])) (C':=[_,_,(own (some ⟨C,0,none⟩) 3 62 7 (List.zipWith au.cells UG [(A,B),(none,0),(none,0)])),_,_,_,_,_,_,_,_]) 2 U (o6 GL) U (by show _≤maxLen; exact Nat.le_trans (m:=10) (show (3:Nat)≤10 by decide) dc) U ?_
 refine cW (es:=(List.zipWith au.cells Ut [(none,0),(none,0),(none,0)])) (C':=[_,(own (some ⟨D,0,none⟩) 3 62 7 (List.zipWith au.cells Ut [(none,0),(none,0),(none,0)])),_,_,_,_,_,_,_,_,_]) 1 U (o6 GL) U (by show _≤maxLen; exact Nat.le_trans (m:=10) (show (3:Nat)≤10 by decide) dc) U ?_
 refine cW (es:=(List.zipWith cw aP.ao [(((some ⟨C,0,none⟩),3),[(A,B),(none,0),(none,0)]),(((some ⟨D,0,none⟩),3),[(none,0),(none,0),(none,0)])])) (C':=[(own (some ⟨AB,0,none⟩) 2 56 1 (List.zipWith cw aP.ao [(((some ⟨C,0,none⟩),3),[(A,B),(none,0),(none,0)]),(((some ⟨D,0,none⟩),3),[(none,0),(none,0),(none,0)])])),_,_,_,_,_,_,_,_,_,_]) 0 U (o6 KA) U (by show _≤maxLen; exact Nat.le_trans (m:=10) (show (2:Nat)≤10 by decide) dc) U ?_
 refine dY 107 2<|dY 107 2<|dY 107 2<|dY 107 2<|dY 107 2<|uS (aR gZ aP.ao [(((some ⟨C,0,none⟩),3),[(A,B),(none,0),(none,0)]),(((some ⟨D,0,none⟩),3),[(none,0),(none,0),(none,0)])]) [7,8,0,1,6,2,3,4] [5,9,10,11,12,13,14,15] U U<|Wr U sv U<|RK R<|av ?_
 refine LX hQ (J,M,K,N,L,E,F,(some ⟨G,0,none⟩),3,(some ⟨H,0,none⟩),3,(some ⟨AB,0,none⟩),2,[(((some ⟨C,0,none⟩),3),[(A,B),(none,0),(none,0)]),(((some ⟨D,0,none⟩),3),[(none,0),(none,0),(none,0)])]) [4,5,6,7,3,2,1,0] [0] (mc 8 U mn) U (by show List.all _ _=true; simp only [fm,List.all_nil,fK,j6,Bool.and_true]; rfl) U U ?_
 exact ⟨Rn O Lc,S,Lc⟩
end
section
open Go.RowKit
theorem S8 (i:Int) (r:cj) (kA:OA) (kC:Nat) (az:List RA) (cA:OA) (cC:Nat) (bA:OA) (bC:Nat) (slA:OA) (slC:Nat) (drA:OA) (drC:Nat) (ha:List cb) (heA:OA) (heC:Nat) (hin:fw r az ha):
 eB Tryz.prog 47 [(vA (cu.cells (oY r kA kC cA cC bA bC slA slC drA drC heA heC))),(vI i)] [(rd fx 3 2 eC),(rd kA r.an.aL.length 9 (r.an.aL.map al.cells)),(rd cA r.an.ai.length 2 (List.zipWith ar.cells r.an.ai az)),(fp (aR ar.ia r.an.ai az)),(rd bA r.an.ag.length 4 (r.an.ag.map bE.cells)),(rd slA r.aM.length 1 (r.aM.map iC)),(rd drA r.bL.length 1 (r.bL.map iC)),(rd heA r.ao.length 1 (List.zipWith cw r.ao ha)),(fp (aR iI r.ao ha))] (vT [(vA (aa.cells (uj r i))),(vI (kM r i))]):=by
 have M:=hin.line
 have g:=hin.iU
 have h:=hin.has
 have W:=hin.iY
 have R:=hin.draw
 have X:=dQ (r:=r)
 refine bG kr Tryz.func47 U U fun m Q hQ hN=>?_
 try dsimp only
 refine WS fun _ L=>fZ U fun k=>AL U dA fun l=>bk 1 U<|RK L<|WS fun _ G=>rP 2 [] (mc 1 U mn) ?_
 refine dj (xs:=[.tmp 11]) (cs:=[(vI i)]) U cK jA U U U U (by simp [Value.cells]) U U fun d=>cX (z9 r kA kC az cA cC bA bC slA slC drA drC ha heA heC i d hin) (bo [3,4,5,6,7,8,9,10,11,0]) U fun j J=>?_
 obtain ⟨K,e,f,O,a,b,c,Y,Z⟩:=j
 cases K
 ·obtain ⟨H,he⟩:=J.2 rfl
  try dsimp only at H he
  subst H
  try dsimp only [cond_true,cond_false,List.cons_append,List.nil_append]
  refine bk 7 U<|RK G<|aj fun _ P=>WS fun _ B=>rP 2 [] mn ?_
  refine RK B<|bR U (bu fun A=>?_) (bw fun A=>?_)
  ·exact absurd A he
  refine WS fun _ C=>rS (SX (bg (xs:=[]) (cs:=(aa.cells (aa.mk 0 0))) U U (bh gJ U)) U U)<|bk 1 U<|te U cz U<|rP 1 [] mn ?_
  refine RK C<|av<|lU hQ [0] (mc 1 U mn) U ?_
  first|(rw [show uj r i=dL from if_neg he]; rfl)|(rw [he,show uj r i=aD _ _ from if_pos he]; done)
 obtain ⟨he,N⟩:=J.1 rfl
 try dsimp only [cond_true,cond_false,List.cons_append,List.nil_append]
 try dsimp only at N
 obtain ⟨AB,S,T⟩:=zT he
 have AA:=oZ AB
 have V:=pD AB
 refine bk 7 U<|RK G<|aj fun _ D=>WS fun _ E=>bk 1 U<|rS (SX (cd (r:= .bool false) U U U og) U U)<|RK E<|aZ U<|WK D<|WS fun _ F=>rP 1 [] mn ?_
 refine rS (IA 0 U (ae (n:=1) 4 U sq) hU dc U I) ?_
 refine rS (oE 0 0 (aa.cells (aD (aG r) i)) U cp (ae (n:=([(aD (aG r) i)]).length) 4 U sm) (show ([(aD (aG r) i)].map aa.cells)[0]? =some [(vI ((aD (aG r) i).Lo)),(vI ((aD (aG r) i).Hi))] from U) U dc U U)<|Ow U cz U<|rP 1 [] mn ?_
 refine RK F<|av<|lU hQ [0] (mc 6 U mn) U ?_
 first|(rw [show uj r i=dL from if_neg he]; rfl)|(rw [he,show uj r i=aD _ _ from if_pos he]; done)
end
section
open Go.RowKit
theorem zq (i lo hi:Int) (r:cj) (kA:OA) (kC:Nat) (az:List RA) (cA:OA) (cC:Nat) (bA:OA) (bC:Nat) (slA:OA) (slC:Nat) (drA:OA) (drC:Nat) (ha:List cb) (heA:OA) (heC:Nat) (hin:fw r az ha):
 eB Tryz.prog 32 [(vA (cu.cells (oY r kA kC cA cC bA bC slA slC drA drC heA heC))),(vI i),(vI lo),(vI hi)] [(rd fx 3 2 eC),(rd kA r.an.aL.length 9 (r.an.aL.map al.cells)),(rd cA r.an.ai.length 2 (List.zipWith ar.cells r.an.ai az)),(fp (aR ar.ia r.an.ai az)),(rd bA r.an.ag.length 4 (r.an.ag.map bE.cells)),(rd slA r.aM.length 1 (r.aM.map iC)),(rd drA r.bL.length 1 (r.bL.map iC)),(rd heA r.ao.length 1 (List.zipWith cw r.ao ha)),(fp (aR iI r.ao ha))] (vB (decide (kM r i=0∧uj r i=aa.mk lo hi))):=by
 have E:=hin.line
 have AA:=hin.iU
 have J:=hin.has
 have G:=hin.iY
 have F:=hin.draw
 have H:=dQ (r:=r)
 refine bG kr Tryz.func32 U U fun M Q hQ hN=>?_
 try dsimp only
 refine WS fun _ C=>fZ U fun K=>bk 1 U<|RK C<|WS fun _ D=>fP 2 [] (mc 0 U mn) U<|rS (CL (S8 i r kA kC az cA cC bA bC slA slC drA drC ha heA heC hin) (bo [1,2,3,4,5,6,7,8,9]) U)<|bk 3 U<|AL U dA fun L=>gd U cz U<|bk 1 U<|RK D<|aj fun _ B=>dM cE 10 kr<|dP 3 [] mn ?_
 refine jN (t:=19) U (aN fun A=>?_) (aO fun A=>?_)
 ·refine dP 7 [] mn ?_
  refine cR<|RK B<|av<|Q1 hQ U U U ?_
  first|exact cB (cy fun q=>A q.1).symm|exact cB (gN.2 ⟨fun q=>⟨A,q⟩,fun q=>q.2⟩)
 refine m_ 3 [] (mc 0 U mn) U<|dS (CL (mG lo hi) (aJ) U)<|dS (BI U (uD _ _ (uj r i) (aa.mk lo hi)))<|dP 2 [] mn ?_
 refine cR<|RK B<|av<|Q1 hQ U U U ?_
 first|exact cB (cy fun q=>A q.1).symm|exact cB (gN.2 ⟨fun q=>⟨A,q⟩,fun q=>q.2⟩)
theorem zH (i:Int) (want:List Int) (wantA:OA) (wantC:Nat) (r:cj) (kA:OA) (kC:Nat) (az:List RA) (cA:OA) (cC:Nat) (bA:OA) (bC:Nat) (slA:OA) (slC:Nat) (drA:OA) (drC:Nat) (ha:List cb) (heA:OA) (heC:Nat) (hin:fw r az ha) (hwl:want.length≤12):
 eB Tryz.prog 33 [(vA (cu.cells (oY r kA kC cA cC bA bC slA slC drA drC heA heC))),(vI i),(vS wantA want.length wantC)] [(rd wantA want.length 1 (want.map iC)),(rd fx 3 2 eC),(rd kA r.an.aL.length 9 (r.an.aL.map al.cells)),(rd cA r.an.ai.length 2 (List.zipWith ar.cells r.an.ai az)),(fp (aR ar.ia r.an.ai az)),(rd bA r.an.ag.length 4 (r.an.ag.map bE.cells)),(rd slA r.aM.length 1 (r.aM.map iC)),(rd drA r.bL.length 1 (r.bL.map iC)),(rd heA r.ao.length 1 (List.zipWith cw r.ao ha)),(fp (aR iI r.ao ha))] (vB (decide (kM r i=0∧gS r i=want))):=by
 have E:=hin.line
 have K:=hin.iU
 have L:=hin.has
 have G:=hin.iY
 have F:=hin.draw
 have H:=dQ (r:=r)
 have M:=sW (r:=r) (i:=i)
 refine bG kr Tryz.func33 U U fun R Q hQ hN=>?_
 try dsimp only
 refine WS fun _ C=>fZ U fun P=>bk 1 U<|RK C<|WS fun _ D=>rP 2 [] (mc 0 U mn) ?_
 refine cX (Ar i r kA kC az cA cC bA bC slA slC drA drC ha heA heC hin) (bo [2,3,4,5,6,7,8,9,10]) U fun O N=>?_
 obtain ⟨AA,J⟩:=O
 try dsimp only
 refine bk 5 U<|RK D<|WS fun _ B=>rP 3 [] mn ?_
 refine ck (t:=17) U (aN fun A=>?_) (aO fun A=>?_)
 ·refine rP 5 [] mn ?_
  refine RK B<|av<|Q1 hQ U U U ?_
  first|exact cB (cy fun q=>A q.1).symm|exact cB (gN.2 ⟨fun q=>⟨A,q⟩,fun q=>q.2⟩)
 refine bk 2 U<|rS (CL (lv (gS r i) AA J want wantA wantC I I) (aq (ae (n:=(gS r i).length) 0 U sm)<|fB 2 U U<|aJ) U)<|rP 2 [] mn ?_
 refine RK B<|av<|Q1 hQ U U U ?_
 first|exact cB (cy fun q=>A q.1).symm|exact cB (gN.2 ⟨fun q=>⟨A,q⟩,fun q=>q.2⟩)
theorem zr (heatX:Int) (want:List Int) (wantA:OA) (wantC:Nat) (hwl:want.length≤12):
 eB Tryz.prog 35 [(vI heatX),(vS wantA want.length wantC)] [(rd fx 3 2 eC),(rd wantA want.length 1 (want.map iC))] (vB (decide (hO aP heatX=0∧gj aP heatX=want))):=by
 have b:=sP (r:=aP) (h:=heatX) dc
 refine bG kr Tryz.func35 U U fun d Q hQ hN=>?_
 try dsimp only
 refine WS fun _ V=>rP 1 [] mn ?_
 refine RK V<|WS fun _ W=>cX jQ (aJ) U fun c Y=>?_
 obtain ⟨N,S,P,AA,R,C,G,D,H,E,AC,F,J,M⟩:=c
 try dsimp only
 obtain ⟨L,X,K⟩:=Y
 refine rP 1 [] mn ?_
 refine cX (AB heatX aP N S R P AA C G D H E AC M F J (by exact L)) (fB 8 U U<|aq (ae (n:=aP.an.aL.length) 0 U sm)<|aq (ae (n:=aP.an.ai.length) 1 U (ei X))<|aq (dg 2 U gU)<|aq (ae (n:=aP.an.ag.length) 3 U sm)<|aq (ae (n:=aP.aM.length) 4 U sm)<|aq (ae (n:=aP.bL.length) 5 U sm)<|aq (ae (n:=aP.ao.length) 6 U (cS K.1))<|aq (fY 7 U K)<|aJ) U fun Z a=>?_
 obtain ⟨O,T⟩:=Z
 try dsimp only
 refine bk 5 U<|RK W<|WS fun _ B=>rP 3 [] mn ?_
 refine ck (t:=15) U (aN fun A=>?_) (aO fun A=>?_)
 ·refine rP 5 [] mn ?_
  refine RK B<|av<|Q1 hQ U U U ?_
  first|exact cB (cy fun q=>A q.1).symm|exact cB (gN.2 ⟨fun q=>⟨A,q⟩,fun q=>q.2⟩)
 refine bk 2 U<|rS (CL (lv (gj aP heatX) O T want wantA wantC I I) (aq (ae (n:=(gj aP heatX).length) 0 U sm)<|fB 10 U U<|aJ) U)<|rP 2 [] mn ?_
 refine RK B<|av<|Q1 hQ U U U ?_
 first|exact cB (cy fun q=>A q.1).symm|exact cB (gN.2 ⟨fun q=>⟨A,q⟩,fun q=>q.2⟩)
theorem BQ (a b:Int) (x y:Int):
 eB Tryz.prog 34 [(vI a),(vI b),(Value.int .u8 x),(Value.int .u8 y)] [(rd fx 3 2 eC)] (vB (decide (((nP aP a b=0∧wg aP a b=x)∧nP aP a b=0)∧qF aP a b=y))):=by
 refine bG kr Tryz.func34 U U fun w Q hQ hN=>?_
 try dsimp only
 refine WS fun _ p=>rP 1 [] mn ?_
 refine RK p<|WS fun _ r=>cX jQ (aJ) U fun v s=>?_
 obtain ⟨j,m,k,o,l,J,V,L,X,N,Z,P,d,h⟩:=v
 try dsimp only
 obtain ⟨F,G,E⟩:=s
 refine bk 2 U<|rS (CL (Ma a b aP j m l k o J V L X N Z h P d (by exact F)) (fB 8 U U<|aq (ae (n:=aP.an.aL.length) 0 U sm)<|aq (ae (n:=aP.an.ai.length) 1 U (ei G))<|aq (dg 2 U gU)<|aq (ae (n:=aP.an.ag.length) 3 U sm)<|aq (ae (n:=aP.aM.length) 4 U sm)<|aq (ae (n:=aP.bL.length) 5 U sm)<|aq (ae (n:=aP.ao.length) 6 U (cS E.1))<|aq (fY 7 U E)<|aJ) U)<|qL [8] U U<|rP 5 [] mn ?_
 refine RK r<|WS fun _ f=>cX jQ (aJ) U fun u g=>?_
 obtain ⟨H,T,AB,AA,S,K,W,M,Y,O,c,R,e,i⟩:=u
 try dsimp only
 obtain ⟨F,G,E⟩:=g
 refine bk 2 U<|rS (CL (Rq a b aP H T S AB AA K W M Y O c i R e (by exact F)) (fB 8 U U<|aq (ae (n:=aP.an.aL.length) 0 U sm)<|aq (ae (n:=aP.an.ai.length) 1 U (ei G))<|aq (dg 2 U gU)<|aq (ae (n:=aP.an.ag.length) 3 U sm)<|aq (ae (n:=aP.aM.length) 4 U sm)<|aq (ae (n:=aP.bL.length) 5 U sm)<|aq (ae (n:=aP.ao.length) 6 U (cS E.1))<|aq (fY 7 U E)<|aJ) U)<|bk 5 U<|RK f<|WS fun _ D=>rP 3 [] mn ?_
 refine ck (t:=29) U (aN fun A=>?_) (aO fun A=>?_)
 ·refine rP 14 [] mn ?_
  refine RK D<|av<|Q1 hQ U U U ?_
  first|exact cB (cy fun q=>A q.1.1.1).symm|exact cB (cy fun q=>B q.1.1.2).symm|exact cB (cy fun q=>C q.1.2).symm|exact cB (gN.2 ⟨fun q=>⟨⟨⟨A,B⟩,C⟩,q⟩,fun q=>q.2⟩)
 refine bk 2 U<|rS (BI U mW)<|rP 2 [] mn ?_
 refine ck (t:=34) U (aN fun B=>?_) (aO fun B=>?_)
 ·refine rP 9 [] mn ?_
  refine RK D<|av<|Q1 hQ U U U ?_
  first|exact cB (cy fun q=>A q.1.1.1).symm|exact cB (cy fun q=>B q.1.1.2).symm|exact cB (cy fun q=>C q.1.2).symm|exact cB (gN.2 ⟨fun q=>⟨⟨⟨A,B⟩,C⟩,q⟩,fun q=>q.2⟩)
 refine rP 4 [] mn ?_
 refine ck (t:=38) U (aN fun C=>?_) (aO fun C=>?_)
 ·refine rP 5 [] mn ?_
  refine RK D<|av<|Q1 hQ U U U ?_
  first|exact cB (cy fun q=>A q.1.1.1).symm|exact cB (cy fun q=>B q.1.1.2).symm|exact cB (cy fun q=>C q.1.2).symm|exact cB (gN.2 ⟨fun q=>⟨⟨⟨A,B⟩,C⟩,q⟩,fun q=>q.2⟩)
 refine bk 2 U<|rS (BI U mW)<|rP 2 [] mn ?_
 refine RK D<|av<|Q1 hQ U U U ?_
 first|exact cB (cy fun q=>A q.1.1.1).symm|exact cB (cy fun q=>B q.1.1.2).symm|exact cB (cy fun q=>C q.1.2).symm|exact cB (gN.2 ⟨fun q=>⟨⟨⟨A,B⟩,C⟩,q⟩,fun q=>q.2⟩)
end
section
open Go.RowKit
theorem K2:
 eB Tryz.prog 7 [] [(rd fx 3 2 eC)] (vB true):=by
 have Eq:=oO (r:=aP)
 have C1:=oO (r:=lG)
 have Zk:=Ds (r:=aP) (h:=0) (i:=2) (t:=aa.mk 2590 2599)
 have Zj:aP.aM.length=3:=rfl
 refine bG kr Tryz.func7 U U fun w0 Q hQ hN=>?_
 try dsimp only
 refine WS fun _ ZY=>rP 1 [] mn ?_
 refine RK ZY<|WS fun _ ZZ=>cX jQ (aJ) U fun y3 Zb=>?_
 obtain ⟨ZT,ZW,ZU,ZX,ZV,X2,Yj,X6,Yo,X_,Ys,YD,Yw,ZJ⟩:=y3
 try dsimp only
 obtain ⟨A,F,B⟩:=Zb
 refine rS (CL (Ez 0 0 aP ZT ZW ZV ZU ZX X2 Yj X6 Yo X_ Ys ZJ YD Yw (by exact A)) (fB 8 U U<|aq (ae (n:=aP.an.aL.length) 0 U sm)<|aq (ae (n:=aP.an.ai.length) 1 U (ei F))<|aq (dg 2 U gU)<|aq (ae (n:=aP.an.ag.length) 3 U sm)<|aq (ae (n:=aP.aM.length) 4 U sm)<|aq (ae (n:=aP.bL.length) 5 U sm)<|aq (ae (n:=aP.ao.length) 6 U (cS B.1))<|aq (fY 7 U B)<|aJ) U)<|bk 1 U<|qL [8] U U<|bk 2 U<|AL U dA fun C3=>gd U cz U<|rP 1 [] mn ?_
 refine RK ZZ<|WS fun _ Y8=>cX jQ (aJ) U fun Zc ZE=>?_
 obtain ⟨Xw,Yd,Xz,Yg,Ya,X3,Yk,X7,Yp,YA,Yt,YE,Yx,ZK⟩:=Zc
 try dsimp only
 obtain ⟨A,F,B⟩:=ZE
 refine cX (wy aP Xw Yd Ya Xz Yg X3 Yk X7 Yp YA Yt ZK YE Yx (by exact A)) (fB 9 U U<|aq (ae (n:=aP.an.aL.length) 0 U sm)<|aq (ae (n:=aP.an.ai.length) 1 U (ei F))<|aq (dg 2 U gU)<|aq (ae (n:=aP.an.ag.length) 3 U sm)<|aq (ae (n:=aP.aM.length) 4 U sm)<|aq (ae (n:=aP.bL.length) 5 U sm)<|aq (ae (n:=aP.ao.length) 6 U (cS B.1))<|aq (fY 7 U B)<|aJ) U fun Zd ZF=>?_
 obtain ⟨a,B7,B9⟩:=Zd
 try dsimp only
 have Xk:=ZF
 have Hy:=Xk
 refine bk 1 U<|qL [0,1,10,11] U U<|rP 4 [] mn ?_
 refine RK Y8<|WS fun _ Y9=>cX jQ (aJ) U fun Ze ZG=>?_
 obtain ⟨Xx,Ye,X0,Yh,Yb,X4,Ym,X8,Yq,YB,Yu,YF,Yy,ZL⟩:=Ze
 try dsimp only
 obtain ⟨A,F,B⟩:=ZG
 refine rS (CL (mG 2590 2599) (aJ) U)<|cX (Me 0 2 (aa.mk 2590 2599) aP Xx Ye Yb X0 Yh X4 Ym X8 Yq YB Yu ZL YF Yy (by exact A)) (fB 11 U U<|aq (ae (n:=aP.an.aL.length) 0 U sm)<|aq (ae (n:=aP.an.ai.length) 1 U (ei F))<|aq (dg 2 U gU)<|aq (ae (n:=aP.an.ag.length) 3 U sm)<|aq (ae (n:=aP.aM.length) 4 U sm)<|aq (ae (n:=aP.bL.length) 5 U sm)<|aq (ae (n:=aP.ao.length) 6 U (cS B.1))<|aq (fY 7 U B)<|aJ) U fun Zf IR=>?_
 obtain ⟨ZM,Zi,G,N,H,O,M,AB,P,J,R,K,S,L,T,AA⟩:=Zf
 cases ZM
 ·obtain ⟨ZC,he⟩:=IR.2 rfl
  try dsimp only at ZC he
  subst ZC
  try dsimp only [cond_true,cond_false,List.cons_append,List.nil_append]
  exact absurd DB he
 obtain ⟨ZD,⟨EQ,ZB⟩,C2⟩:=IR.1 rfl
 try dsimp only [cond_true,cond_false,List.cons_append,List.nil_append]
 try dsimp only at ZD EQ ZB C2
 have IO:fw lG _ _:=fw.rep A EQ ZB C2
 refine bk 1 U<|qL [0,1,2,3,4,5,6,7,16,17,18,19] U U<|bk 2 U<|AL U yT fun Ci=>gd U sv U<|bk 1 U<|RK Y9<|WS fun _ Y_=>rP 1 [] (mc 0 U mn) ?_
 refine cX (wy lG G N M H O AB P J R K S AA L T (by exact IO)) (fB 12 U U<|aq (ae (n:=aP.an.aL.length) 1 U (by rw [List.length_map]; rfl))<|aq (ae (n:=aP.an.ai.length) 2 U (ei EQ))<|aq (dg 3 U gU)<|aq (ae (n:=aP.an.ag.length) 4 U (by rw [List.length_map]; rfl))<|aq (ae (n:=aP.aM.length) 5 U (by rw [List.length_map]; rfl))<|aq (ae (n:=aP.bL.length) 6 U (by rw [List.length_map]; rfl))<|aq (ae (n:=(g4 aP.ao 0 2 (aa.mk 2590 2599)).length) 7 U (cS C2.1))<|aq (fY 8 U C2)<|aJ) U fun Zg ZH=>?_
 obtain ⟨b,BF,Bb⟩:=Zg
 try dsimp only
 have Xk:=ZH
 have H1:=Xk
 refine rP 5 [] mn ?_
 refine RK Y_<|WS fun _ ZA=>cX jQ (aJ) U fun Zh ZI=>?_
 obtain ⟨Xy,Yf,X1,Yi,Yc,X5,Yn,X9,Yr,YC,Yv,YG,Yz,Xq⟩:=Zh
 try dsimp only
 obtain ⟨A,F,B⟩:=ZI
 refine rS (CL (mG 2590 2599) (aJ) U)<|cX (HH 0 2 (aa.mk 2590 2599) aP Xy Yf Yc X1 Yi X5 Yn X9 Yr YC Yv Xq YG Yz (by exact A)) (fB 22 U U<|aq (ae (n:=aP.an.aL.length) 0 U sm)<|aq (ae (n:=aP.an.ai.length) 1 U (ei F))<|aq (dg 2 U gU)<|aq (ae (n:=aP.an.ag.length) 3 U sm)<|aq (ae (n:=aP.aM.length) 4 U sm)<|aq (ae (n:=aP.bL.length) 5 U sm)<|aq (ae (n:=aP.ao.length) 6 U (cS B.1))<|aq (fY 7 U B)<|aJ) U fun ZN Za=>?_
 obtain ⟨W,Z⟩:=ZN
 try dsimp only
 refine bk 1 U<|qL [0,9,10,11,12,13,14,15,16,17,18,19,20,21,22,23] U U<|rP 4 [] mn ?_
 refine RK ZA<|aj fun _ R9=>JY cE [8,9,10,11,12,13,14,15,16,17,18,19,20,21,22,23,24,25,26,27,28,29,30,31,32,33,34,35,36,37,38,39,40,41,42,43,44,45,46,47,48,49,50,51,52,53,54,55,56,57,58,59,60,61,62,63,64,65,66,67,68,69,70,71,72,73] [0,1,2,3,4,5,6,7,8,9,10,11,12,13,14,15] U U U<|eS U (MV U)<|eS U (BI U mW)<|eS U (MV U)<|Mm (t:=40) U (aN fun Y0=>?_) (aO fun Y0=>?_)
 ·exact absurd (P8.1) Y0
 refine eS U (LW 14 U cp U U)<|eS U (CL (mG 2596 2602) (aJ) U)<|eS U (BI U (uD _ _ (gY aP 0 0) (aa.mk 2596 2602)))<|eS U (PK U)<|eS U (MV U)<|eU U<|ir U fun T106 ST=>ck (t:=45) U (aN fun Y1=>?_) (aO fun Y1=>?_)
 ·exact absurd (P8.2) Y1
 refine cX jQ (aJ) U fun ZO Xl=>?_
 obtain ⟨Id,NE,Jc,Or,L0,J6,Px,KR,Qr,K8,Rc,Li,R4,Xr⟩:=ZO
 try dsimp only
 obtain ⟨A,F,B⟩:=Xl
 refine RD ST 8 U<|ir U fun T123 Sz=>rS (CL (zq 0 514 515 aP Id NE L0 Jc Or J6 Px KR Qr K8 Rc Xr Li R4 (by exact A)) (fB 23 U U<|aq (ae (n:=aP.an.aL.length) 0 U sm)<|aq (ae (n:=aP.an.ai.length) 1 U (ei F))<|aq (dg 2 U gU)<|aq (ae (n:=aP.an.ag.length) 3 U sm)<|aq (ae (n:=aP.aM.length) 4 U sm)<|aq (ae (n:=aP.bL.length) 5 U sm)<|aq (ae (n:=aP.ao.length) 6 U (cS B.1))<|aq (fY 7 U B)<|aJ) U)<|RD Sz 8 U<|ir U fun T124 S1=>qL [8,9,10,11,12,13,14,15,16,17,18,19,20,21,22,23] U U<|rS (PK U)<|RD S1 0 U<|ir U fun T125 S2=>rS (MV U)<|RD S2 0 U ?_
 refine wX (V:=OA×Nat×OA×Nat×List RA×OA×Nat×OA×Nat×OA×Nat×OA×Nat×List cb×Nat) (fun (j,z,l,AO,X,p,A1,s,A3,v,A5,x,A7,c,e)=>fw aP X c∧X.length=aP.an.ai.length∧pJ aP.ao c) (fun (j,z,l,AO,X,p,A1,s,A3,v,A5,x,A7,c,e)=>[(3,(vS B7 ((dy aP).length) B9)),(4,(vI (cG aP))),(5,(vP Ci)),(6,(vI 0)),(7,(vS BF ((dy lG).length) Bb)),(8,(vI (cG lG))),(9,(vS W ((fg aP 0 2 (aa.mk 2590 2599)).length) Z)),(10,(vI (g3 aP 0 2 (aa.mk 2590 2599)))),(49,(vB true)),(50,(vA (cu.cells (cu.mk (b_.mk (bD.mk (bp.mk j aP.an.aL.length z)) aP.an.gK (bp.mk l aP.an.ai.length AO) (bp.mk p aP.an.ag.length A1) aP.an.bS aP.an.eg aP.an.cM) (bp.mk s aP.aM.length A3) (bp.mk v aP.bL.length A5) aP.im (bp.mk x aP.ao.length A7))))),(51,(vS (some ⟨e,0,none⟩) 2 2))]) (fun (j,z,l,AO,X,p,A1,s,A3,v,A5,x,A7,c,e)=>[(cm e 3 [(vI 1),(vI 2)]),(own j z 153 9 (aP.an.aL.map al.cells)),(own l AO 53 2 (List.zipWith ar.cells aP.an.ai X)),(br (aR ar.owns aP.an.ai X)),(own p A1 160 4 (aP.an.ag.map bE.cells)),(own s A3 3 1 (aP.aM.map iC)),(own v A5 3 1 (aP.bL.map iC)),(own x A7 56 1 (List.zipWith cw aP.ao c)),(br (aR gZ aP.ao c)),(own W Z 3 1 ((fg aP 0 2 (aa.mk 2590 2599)).map iC)),(own BF Bb 29 1 (List.zipWith nI (dy lG) b)),(br (aR tx (dy lG) b)),(cm Ci 32 (cu.cells (cu.mk (b_.mk (bD.mk (bp.mk G aP.an.aL.length N)) aP.an.gK (bp.mk H aP.an.ai.length O) (bp.mk AB aP.an.ag.length P) aP.an.bS aP.an.eg aP.an.cM) (bp.mk J aP.aM.length R) (bp.mk K aP.bL.length S) aP.im (bp.mk L ((g4 aP.ao 0 2 (aa.mk 2590 2599)).length) T)))),(own G N 153 9 (aP.an.aL.map al.cells)),(own H O 53 2 (List.zipWith ar.cells aP.an.ai M)),(br (aR ar.owns aP.an.ai M)),(own AB P 160 4 (aP.an.ag.map bE.cells)),(own J R 3 1 (aP.aM.map iC)),(own K S 3 1 (aP.bL.map iC)),(own L T 56 1 (List.zipWith cw (g4 aP.ao 0 2 (aa.mk 2590 2599)) AA)),(br (aR gZ (g4 aP.ao 0 2 (aa.mk 2590 2599)) AA)),(own B7 B9 29 1 (List.zipWith nI (dy aP) a)),(br (aR tx (dy aP) a)),(cm C3 45 (aa.cells (gY aP 0 0))),(rd fx 3 2 eC).ro]) 60 [14,15,16,17,18,19,20,21,22,23,24,25,26,27,28,29,30,31,32,33,34,35,36,37,38,39,40,41,42,43,44,45,46,47,48,49,50,51,52,53,54,55,56,57,58,59,60,61,62,63,64,65,66,67,68,69,70,71,72,73] (fun hJ=>?_) ?_
 ·refine je [12,13] kr (eQ ?_<|eQ ?_<|kX)
  rotate_left 1
  ·refine iK U U U fun T162 Tp=>ck (t:=49) U (aN fun Di=>?_) (aO fun Di=>?_)
   ·exact absurd (⟨mP.1,mP.2.1⟩) Di
   refine dj (xs:=[.const (vI 1),.const (vI 2)]) (cs:=[(vI 1),(vI 2)]) U cK jA U U U U (by simp [Value.cells]) U U fun YI=>RD Tp 1 U<|N1 12<|iK U U U fun T164 T0=>cX jQ (aJ) U fun ZQ Xn=>?_
   obtain ⟨In,Ne,J3,PP,L3,J8,QH,K0,RG,LE,R1,Ll,R6,Xt⟩:=ZQ
   try dsimp only
   obtain ⟨A,F,B⟩:=Xn
   refine RD T0 9 U ?_
   exact kd hJ (In,Ne,J3,PP,L3,J8,QH,K0,RG,LE,R1,Ll,R6,Xt,YI) ⟨A,F,B⟩ [8,0,1,2,3,4,5,6,7,9,10,11,12,13,14,15,16,17,18,19,20,21,22,23,24] U U U
  refine iK U U U fun T143 TV=>ck (t:=49) U (aN fun Di=>?_) (aO fun Di=>?_)
  ·exact absurd (⟨mP.1,mP.2.1⟩) Di
  refine cX jQ (aJ) U fun ZP Xm=>?_
  obtain ⟨If,NN,J2,Os,L2,J7,QD,KS,Qu,LA,R0,Lk,R5,Xs⟩:=ZP
  try dsimp only
  obtain ⟨A,F,B⟩:=Xm
  refine RD TV 8 U<|N1 13<|iK U U U fun T160 TX=>dj (xs:=[.const (vI 1),.const (vI 2)]) (cs:=[(vI 1),(vI 2)]) U cK jA U U U U (by simp [Value.cells]) U U fun YH=>RD TX 9 U ?_
  exact kd hJ (If,NN,J2,Os,L2,J7,QD,KS,Qu,LA,R0,Lk,R5,Xs,YH) ⟨A,F,B⟩ [0,1,2,3,4,5,6,7,8,9,10,11,12,13,14,15,16,17,18,19,20,21,22,23,24] U U U
 rintro ⟨j,z,l,AO,X,p,A1,s,A3,v,A5,x,A7,c,e⟩ ⟨A,F,B⟩
 try dsimp only
 refine ir U fun T181 T2=>rS (CL (zH 0 ([1,2]) (some ⟨e,0,none⟩) 2 aP j z X l AO p A1 s A3 v A5 c x A7 (by exact A) dc) (aq (bf 0 U U (by simp [bH]) U)<|fB 24 U U<|aq (ae (n:=aP.an.aL.length) 1 U sm)<|aq (ae (n:=aP.an.ai.length) 2 U (ei F))<|aq (dg 3 U gU)<|aq (ae (n:=aP.an.ag.length) 4 U sm)<|aq (ae (n:=aP.aM.length) 5 U sm)<|aq (ae (n:=aP.bL.length) 6 U sm)<|aq (ae (n:=aP.ao.length) 7 U (cS B.1))<|aq (fY 8 U B)<|aJ) U)<|RD T2 9 U<|ir U fun T182 T4=>qL [0,9,10,11,12,13,14,15,16,17,18,19,20,21,22,23,24] U U<|rS (PK U)<|RD T4 1 U<|ir U fun T183 T5=>rS (MV U)<|RD T5 1 U ?_
 refine wX (V:=OA×Nat×OA×Nat×List RA×OA×Nat×OA×Nat×OA×Nat×OA×Nat×List cb×Nat) (fun (k,AC,o,A0,Y,q,A2,u,A4,w,A6,y,A8,d,f)=>fw aP Y d∧Y.length=aP.an.ai.length∧pJ aP.ao d) (fun (k,AC,o,A0,Y,q,A2,u,A4,w,A6,y,A8,d,f)=>[(3,(vS B7 ((dy aP).length) B9)),(4,(vI (cG aP))),(5,(vP Ci)),(6,(vI 0)),(7,(vS BF ((dy lG).length) Bb)),(8,(vI (cG lG))),(9,(vS W ((fg aP 0 2 (aa.mk 2590 2599)).length) Z)),(10,(vI (g3 aP 0 2 (aa.mk 2590 2599)))),(54,(vB true)),(55,(vA (cu.cells (cu.mk (b_.mk (bD.mk (bp.mk k aP.an.aL.length AC)) aP.an.gK (bp.mk o aP.an.ai.length A0) (bp.mk q aP.an.ag.length A2) aP.an.bS aP.an.eg aP.an.cM) (bp.mk u aP.aM.length A4) (bp.mk w aP.bL.length A6) aP.im (bp.mk y aP.ao.length A8))))),(56,(vS (some ⟨f,0,none⟩) 2 2))]) (fun (k,AC,o,A0,Y,q,A2,u,A4,w,A6,y,A8,d,f)=>[(cm f 3 [(vI 2),(vI 3)]),(own k AC 153 9 (aP.an.aL.map al.cells)),(own o A0 53 2 (List.zipWith ar.cells aP.an.ai Y)),(br (aR ar.owns aP.an.ai Y)),(own q A2 160 4 (aP.an.ag.map bE.cells)),(own u A4 3 1 (aP.aM.map iC)),(own w A6 3 1 (aP.bL.map iC)),(own y A8 56 1 (List.zipWith cw aP.ao d)),(br (aR gZ aP.ao d)),(cm e 3 [(vI 1),(vI 2)]),(own W Z 3 1 ((fg aP 0 2 (aa.mk 2590 2599)).map iC)),(own BF Bb 29 1 (List.zipWith nI (dy lG) b)),(br (aR tx (dy lG) b)),(cm Ci 32 (cu.cells (cu.mk (b_.mk (bD.mk (bp.mk G aP.an.aL.length N)) aP.an.gK (bp.mk H aP.an.ai.length O) (bp.mk AB aP.an.ag.length P) aP.an.bS aP.an.eg aP.an.cM) (bp.mk J aP.aM.length R) (bp.mk K aP.bL.length S) aP.im (bp.mk L ((g4 aP.ao 0 2 (aa.mk 2590 2599)).length) T)))),(own G N 153 9 (aP.an.aL.map al.cells)),(own H O 53 2 (List.zipWith ar.cells aP.an.ai M)),(br (aR ar.owns aP.an.ai M)),(own AB P 160 4 (aP.an.ag.map bE.cells)),(own J R 3 1 (aP.aM.map iC)),(own K S 3 1 (aP.bL.map iC)),(own L T 56 1 (List.zipWith cw (g4 aP.ao 0 2 (aa.mk 2590 2599)) AA)),(br (aR gZ (g4 aP.ao 0 2 (aa.mk 2590 2599)) AA)),(own B7 B9 29 1 (List.zipWith nI (dy aP) a)),(br (aR tx (dy aP) a)),(cm C3 45 (aa.cells (gY aP 0 0))),(rd fx 3 2 eC).ro]) 55 [19,20,21,22,23,24,25,26,27,28,29,30,31,32,33,34,35,36,37,38,39,40,41,42,43,44,45,46,47,48,49,50,51,52,53,54,55,56,57,58,59,60,61,62,63,64,65,66,67,68,69,70,71,72,73] (fun hJ=>?_) ?_
 ·refine je [17,18] kr (eQ ?_<|eQ ?_<|kX)
  rotate_left 1
  ·refine iK U U U fun T220 T8=>ck (t:=54) U (aN fun Do=>?_) (aO fun Do=>?_)
   ·exact absurd (⟨mP.1,mP.2.2⟩) Do
   refine dj (xs:=[.const (vI 2),.const (vI 3)]) (cs:=[(vI 2),(vI 3)]) U cK jA U U U U (by simp [Value.cells]) U U fun YK=>RD T8 2 U<|N1 17<|iK U U U fun T222 T9=>cX jQ (aJ) U fun ZS Xp=>?_
   obtain ⟨JO,Op,J5,Pl,M7,KC,Qb,K5,Rb,La,R3,Ls,R8,Xv⟩:=ZS
   try dsimp only
   obtain ⟨A,F,B⟩:=Xp
   refine RD T9 10 U ?_
   exact kd hJ (JO,Op,J5,Pl,M7,KC,Qb,K5,Rb,La,R3,Ls,R8,Xv,YK) ⟨A,F,B⟩ [8,0,1,2,3,4,5,6,7,9,10,11,12,13,14,15,16,17,18,19,20,21,22,23,24,25] U U U
  refine iK U U U fun T201 T6=>ck (t:=54) U (aN fun Do=>?_) (aO fun Do=>?_)
  ·exact absurd (⟨mP.1,mP.2.2⟩) Do
  refine cX jQ (aJ) U fun ZR Xo=>?_
  obtain ⟨JN,OK,J4,Pi,M2,J9,QU,K4,RM,LT,R2,Lo,R7,Xu⟩:=ZR
  try dsimp only
  obtain ⟨A,F,B⟩:=Xo
  refine RD T6 9 U<|N1 18<|iK U U U fun T218 T7=>dj (xs:=[.const (vI 2),.const (vI 3)]) (cs:=[(vI 2),(vI 3)]) U cK jA U U U U (by simp [Value.cells]) U U fun YJ=>RD T7 10 U ?_
  exact kd hJ (JN,OK,J4,Pi,M2,J9,QU,K4,RM,LT,R2,Lo,R7,Xu,YJ) ⟨A,F,B⟩ [0,1,2,3,4,5,6,7,8,9,10,11,12,13,14,15,16,17,18,19,20,21,22,23,24,25] U U U
 rintro ⟨k,AC,o,A0,Y,q,A2,u,A4,w,A6,y,A8,d,f⟩ ⟨A,F,B⟩
 try dsimp only
 refine ir U fun T239 UV=>rS (CL (zH 2 ([2,3]) (some ⟨f,0,none⟩) 2 aP k AC Y o A0 q A2 u A4 w A6 d y A8 (by exact A) dc) (aq (bf 0 U U (by simp [bH]) U)<|fB 25 U U<|aq (ae (n:=aP.an.aL.length) 1 U sm)<|aq (ae (n:=aP.an.ai.length) 2 U (ei F))<|aq (dg 3 U gU)<|aq (ae (n:=aP.an.ag.length) 4 U sm)<|aq (ae (n:=aP.aM.length) 5 U sm)<|aq (ae (n:=aP.bL.length) 6 U sm)<|aq (ae (n:=aP.ao.length) 7 U (cS B.1))<|aq (fY 8 U B)<|aJ) U)<|RD UV 10 U<|ir U fun T240 VN=>qL [0,9,10,11,12,13,14,15,16,17,18,19,20,21,22,23,24,25] U U<|rS (PK U)<|RD VN 2 U<|ir U fun T241 VO=>rS (MV U)<|RD VO 2 U<|ir U fun T242 Vc=>ck (t:=59) U (aN fun Y2=>?_) (aO fun Y2=>?_)
 ·exact absurd (⟨BO.1,BO.2.2⟩) Y2
 refine rS (CL (BQ 1 2 2 0) (bo [17]) U)<|RD Vc 2 U<|ir U fun T243 Vk=>rS (PK U)<|RD Vk 2 U<|ir U fun T244 Vq=>rS (MV U)<|RD Vq 2 U<|ir U fun T245 V3=>ck (t:=62) U (aN fun Y3=>?_) (aO fun Y3=>?_)
 ·exact absurd (⟨⟨⟨Bh.1,Bh.2.1⟩,Bh.1⟩,Bh.2.2⟩) Y3
 refine rS (CL (BQ 0 1 0 1) (bo [17]) U)<|RD V3 2 U<|ir U fun T246 WB=>rS (PK U)<|RD WB 2 U<|ir U fun T247 WC=>rS (MV U)<|RD WC 2 U<|ir U fun T248 WD=>ck (t:=65) U (aN fun Y4=>?_) (aO fun Y4=>?_)
 ·exact absurd (⟨⟨⟨AT.1,AT.2.1⟩,AT.1⟩,AT.2.2⟩) Y4
 refine rS (MV U)<|RD WD 2 U<|ir U fun T249 WE=>rS (BI U mW)<|RD WE 2 U<|ir U fun T250 WF=>rS (PK U)<|RD WF 2 U<|ir U fun T251 WG=>rS (MV U)<|RD WG 2 U ?_
 refine wX (V:=Nat×Nat) (fun (C,g)=>True) (fun (C,g)=>[(5,(vP Ci)),(6,(vI 0)),(7,(vS BF ((dy lG).length) Bb)),(8,(vI (cG lG))),(9,(vS W ((fg aP 0 2 (aa.mk 2590 2599)).length) Z)),(10,(vI (g3 aP 0 2 (aa.mk 2590 2599)))),(69,(vB true)),(70,(vS B7 ((dy aP).length) B9)),(71,(vS (some ⟨C,0,none⟩) 3 3)),(72,(vS (some ⟨g,0,none⟩) 1 1))]) (fun (C,g)=>[(cm g 29 [(vS (some ⟨C,0,none⟩) 3 3)]),(cm C 3 [(vI 0),(vI 1),(vI 2)]),(cm f 3 [(vI 2),(vI 3)]),(cm e 3 [(vI 1),(vI 2)]),(own W Z 3 1 ((fg aP 0 2 (aa.mk 2590 2599)).map iC)),(own BF Bb 29 1 (List.zipWith nI (dy lG) b)),(br (aR tx (dy lG) b)),(cm Ci 32 (cu.cells (cu.mk (b_.mk (bD.mk (bp.mk G aP.an.aL.length N)) aP.an.gK (bp.mk H aP.an.ai.length O) (bp.mk AB aP.an.ag.length P) aP.an.bS aP.an.eg aP.an.cM) (bp.mk J aP.aM.length R) (bp.mk K aP.bL.length S) aP.im (bp.mk L ((g4 aP.ao 0 2 (aa.mk 2590 2599)).length) T)))),(own G N 153 9 (aP.an.aL.map al.cells)),(own H O 53 2 (List.zipWith ar.cells aP.an.ai M)),(br (aR ar.owns aP.an.ai M)),(own AB P 160 4 (aP.an.ag.map bE.cells)),(own J R 3 1 (aP.aM.map iC)),(own K S 3 1 (aP.bL.map iC)),(own L T 56 1 (List.zipWith cw (g4 aP.ao 0 2 (aa.mk 2590 2599)) AA)),(br (aR gZ (g4 aP.ao 0 2 (aa.mk 2590 2599)) AA)),(own B7 B9 29 1 (List.zipWith nI (dy aP) a)),(br (aR tx (dy aP) a)),(cm C3 45 (aa.cells (gY aP 0 0))),(rd fx 3 2 eC).ro]) 39 [35,36,37,38,39,40,41,42,43,44,45,46,47,48,49,50,51,52,53,54,55,56,57,58,59,60,61,62,63,64,65,66,67,68,69,70,71,72,73] (fun hJ=>?_) ?_
 ·refine je [32,33] kr (eQ ?_<|eQ ?_<|kX)
  ·refine iK U U U fun T254 WH=>ck (t:=69) U (aN fun D2=>?_) (aO fun D2=>?_)
   ·exact absurd (rf) D2
   refine rS (MV U)<|RD WH 2 U<|N1 33<|iK U U U fun T255 WI=>dj (xs:=[.const (vI 0),.const (vI 1),.const (vI 2)]) (cs:=[(vI 0),(vI 1),(vI 2)]) U cK jA U U U U (by simp [Value.cells]) U U fun FS=>RD WI 3 U<|N1 34<|iK U U U fun T257 WL=>dj (xs:=[.tmp 71]) (cs:=[(vS (some ⟨FS,0,none⟩) 3 3)]) U pK we U U U U (by simp [Value.cells]) U U fun YL=>RD WL 4 U ?_
   exact kd hJ (FS,YL) trivial [0,1,2,3,4,5,6,7,8,9,10,11,12,13,14,15,16,17,18,19] U U U
  refine iK U U U fun T259 WM=>ck (t:=69) U (aN fun D2=>?_) (aO fun D2=>?_)
  ·exact absurd (rf) D2
  refine dj (xs:=[.const (vI 0),.const (vI 1),.const (vI 2)]) (cs:=[(vI 0),(vI 1),(vI 2)]) U cK jA U U U U (by simp [Value.cells]) U U fun Cp=>RD WM 3 U<|je [32,34] kr (eQ ?_<|eQ ?_<|kX)
  rotate_left 1
  ·refine iK U U U fun T264 WP=>dj (xs:=[.tmp 71]) (cs:=[(vS (some ⟨Cp,0,none⟩) 3 3)]) U pK we U U U U (by simp [Value.cells]) U U fun YN=>RD WP 4 U<|N1 32<|iK U U U fun T266 WQ=>rS (MV U)<|RD WQ 4 U ?_
   exact kd hJ (Cp,YN) trivial [0,1,2,3,4,5,6,7,8,9,10,11,12,13,14,15,16,17,18,19] U U U
  refine iK U U U fun T261 WN=>rS (MV U)<|RD WN 3 U<|N1 34<|iK U U U fun T262 WO=>dj (xs:=[.tmp 71]) (cs:=[(vS (some ⟨Cp,0,none⟩) 3 3)]) U pK we U U U U (by simp [Value.cells]) U U fun YM=>RD WO 4 U ?_
  exact kd hJ (Cp,YM) trivial [0,1,2,3,4,5,6,7,8,9,10,11,12,13,14,15,16,17,18,19] U U U
 rintro ⟨C,g⟩-
 try dsimp only
 refine ir U fun T267 WR=>?_
 refine cW (es:=(([0,1,2]:List Int).map iC)) (C':=[_,(own (some ⟨C,0,none⟩) 3 3 1 (([0,1,2]:List Int).map iC)),_,_,_,_,_,_,_,_,_,_,_,_,_,_,_,_,_,_]) 1 U (nk bH _) U (by show _≤maxLen; exact Nat.le_trans (m:=10) (show (3:Nat)≤10 by decide) dc) U ?_
 refine cW (es:=(List.zipWith nI [([0,1,2]:List Int)] [((some ⟨C,0,none⟩),3)])) (C':=[(own (some ⟨g,0,none⟩) 1 29 1 (List.zipWith nI [([0,1,2]:List Int)] [((some ⟨C,0,none⟩),3)])),_,_,_,_,_,_,_,_,_,_,_,_,_,_,_,_,_,_,_]) 0 U (o6 KP) U (by show _≤maxLen; exact Nat.le_trans (m:=10) (show (1:Nat)≤10 by decide) dc) U ?_
 refine uS (aR tx [([0,1,2]:List Int)] [((some ⟨C,0,none⟩),3)]) [1] [0,2,3,4,5,6,7,8,9,10,11,12,13,14,15,16,17,18,19] U U<|rS (CL (qY (dy aP) ([([0,1,2]:List Int)]) a B7 B9 ([((some ⟨C,0,none⟩),3)]) (some ⟨g,0,none⟩) 1 (by first|exact Eq.1|exact C1.1) dc (by first|exact Eq.2|exact C1.2) dc (by exact Hy) (by rfl)) (aq (ae (n:=(dy aP).length) 16 U (kv Hy))<|aq (dg 17 U zP)<|aq (ae (n:=([([0,1,2]:List Int)]).length) 1 U sm)<|aq (dg 0 U zP)<|aJ) U)<|RD WR 4 U<|ir U fun T268 WT=>rS (PK U)<|RD WT 4 U<|ir U fun T269 WU=>rS (MV U)<|RD WU 4 U<|ir U fun T270 WV=>ck (t:=75) U (aN fun Y5=>?_) (aO fun Y5=>?_)
 ·exact absurd (Nx) Y5
 refine rS (MV U)<|RD WV 4 U<|ir U fun T271 WW=>rS (SX (cd (r:= .bool true) U U U mW) U U)<|RD WW 4 U<|ir U fun T272 WX=>rS (PK U)<|RD WX 4 U<|ir U fun T273 WY=>rS (MV U)<|RD WY 4 U<|ir U fun T274 WZ=>rS (LW 7 U cp U U)<|RD WZ 4 U<|ir U fun T275 Wa=>?_
 refine rS (CL (zq 2 516 516 lG G N M H O AB P J R K S AA L T (by exact IO)) (fB 19 U U<|aq (ae (n:=aP.an.aL.length) 8 U (by rw [List.length_map]; rfl))<|aq (ae (n:=aP.an.ai.length) 9 U (ei EQ))<|aq (dg 10 U gU)<|aq (ae (n:=aP.an.ag.length) 11 U (by rw [List.length_map]; rfl))<|aq (ae (n:=aP.aM.length) 12 U (by rw [List.length_map]; rfl))<|aq (ae (n:=aP.bL.length) 13 U (by rw [List.length_map]; rfl))<|aq (ae (n:=(g4 aP.ao 0 2 (aa.mk 2590 2599)).length) 14 U (cS C2.1))<|aq (fY 15 U C2)<|aJ) U) ?_
 refine RD Wa 4 U<|ir U fun T276 Wf=>rS (PK U)<|RD Wf 4 U<|ir U fun T277 Wl=>rS (MV U)<|RD Wl 4 U<|ir U fun T278 Ww=>ck (t:=83) U (aN fun Y6=>?_) (aO fun Y6=>?_)
 ·exact absurd (KW) Y6
 refine rS (MV U)<|RD Ww 4 U<|ir U fun T279 Wy=>rS (BI U mW)<|RD Wy 4 U<|ir U fun T280 Wz=>rS (PK U)<|RD Wz 4 U<|ir U fun T281 W0=>rS (MV U)<|RD W0 4 U ?_
 refine wX (V:=Nat×Nat×Nat) (fun (D,E,A9)=>True) (fun (D,E,A9)=>[(9,(vS W ((fg aP 0 2 (aa.mk 2590 2599)).length) Z)),(10,(vI (g3 aP 0 2 (aa.mk 2590 2599)))),(71,(vS (some ⟨C,0,none⟩) 3 3)),(87,(vB true)),(88,(vS BF ((dy lG).length) Bb)),(89,(vS (some ⟨D,0,none⟩) 2 2)),(90,(vS (some ⟨E,0,none⟩) 1 1)),(91,(vS (some ⟨A9,0,none⟩) 2 2))]) (fun (D,E,A9)=>[(cm A9 29 [(vS (some ⟨D,0,none⟩) 2 2),(vS (some ⟨E,0,none⟩) 1 1)]),(cm E 3 [(vI 2)]),(cm D 3 [(vI 0),(vI 1)]),(br (aR tx [([0,1,2]:List Int)] [((some ⟨C,0,none⟩),3)])),(own (some ⟨g,0,none⟩) 1 29 1 (List.zipWith nI [([0,1,2]:List Int)] [((some ⟨C,0,none⟩),3)])),(cm f 3 [(vI 2),(vI 3)]),(cm e 3 [(vI 1),(vI 2)]),(own W Z 3 1 ((fg aP 0 2 (aa.mk 2590 2599)).map iC)),(own BF Bb 29 1 (List.zipWith nI (dy lG) b)),(br (aR tx (dy lG) b)),(cm Ci 32 (cu.cells (cu.mk (b_.mk (bD.mk (bp.mk G aP.an.aL.length N)) aP.an.gK (bp.mk H aP.an.ai.length O) (bp.mk AB aP.an.ag.length P) aP.an.bS aP.an.eg aP.an.cM) (bp.mk J aP.aM.length R) (bp.mk K aP.bL.length S) aP.im (bp.mk L ((g4 aP.ao 0 2 (aa.mk 2590 2599)).length) T)))),(own G N 153 9 (aP.an.aL.map al.cells)),(own H O 53 2 (List.zipWith ar.cells aP.an.ai M)),(br (aR ar.owns aP.an.ai M)),(own AB P 160 4 (aP.an.ag.map bE.cells)),(own J R 3 1 (aP.aM.map iC)),(own K S 3 1 (aP.bL.map iC)),(own L T 56 1 (List.zipWith cw (g4 aP.ao 0 2 (aa.mk 2590 2599)) AA)),(br (aR gZ (g4 aP.ao 0 2 (aa.mk 2590 2599)) AA)),(own B7 B9 29 1 (List.zipWith nI (dy aP) a)),(br (aR tx (dy aP) a)),(cm C3 45 (aa.cells (gY aP 0 0))),(rd fx 3 2 eC).ro]) 20 [54,55,56,57,58,59,60,61,62,63,64,65,66,67,68,69,70,71,72,73] (fun hJ=>?_) ?_
 ·refine je [50,51,52] kr (eQ ?_<|eQ ?_<|eQ ?_<|kX)
  ·refine iK U U U fun T285 W1=>ck (t:=87) U (aN fun Ck=>?_) (aO fun Ck=>?_)
   ·exact absurd (x9) Ck
   refine rS (MV U)<|RD W1 4 U<|je [51,52] kr (eQ ?_<|eQ ?_<|kX)
   rotate_left 1
   ·refine iK U U U fun T292 W5=>dj (xs:=[.const (vI 2)]) (cs:=[(vI 2)]) U cK jA U U U U (by simp [Value.cells]) U U fun GE=>RD W5 5 U<|N1 51<|iK U U U fun T294 W6=>dj (xs:=[.const (vI 0),.const (vI 1)]) (cs:=[(vI 0),(vI 1)]) U cK jA U U U U (by simp [Value.cells]) U U fun GF=>RD W6 6 U<|N1 53<|iK U U U fun T296 W7=>dj (xs:=[.tmp 89,.tmp 90]) (cs:=[(vS (some ⟨GF,0,none⟩) 2 2),(vS (some ⟨GE,0,none⟩) 1 1)]) U pK we U U U U (by simp [Value.cells]) U U fun YP=>RD W7 7 U ?_
    exact kd hJ (GF,GE,YP) trivial [0,2,1,3,4,5,6,7,8,9,10,11,12,13,14,15,16,17,18,19,20,21,22] U U U
   refine iK U U U fun T286 W2=>dj (xs:=[.const (vI 0),.const (vI 1)]) (cs:=[(vI 0),(vI 1)]) U cK jA U U U U (by simp [Value.cells]) U U fun Fd=>RD W2 5 U<|N1 52<|iK U U U fun T288 W3=>dj (xs:=[.const (vI 2)]) (cs:=[(vI 2)]) U cK jA U U U U (by simp [Value.cells]) U U fun Fn=>RD W3 6 U<|N1 53<|iK U U U fun T290 W4=>dj (xs:=[.tmp 89,.tmp 90]) (cs:=[(vS (some ⟨Fd,0,none⟩) 2 2),(vS (some ⟨Fn,0,none⟩) 1 1)]) U pK we U U U U (by simp [Value.cells]) U U fun YO=>RD W4 7 U ?_
   exact kd hJ (Fd,Fn,YO) trivial [0,1,2,3,4,5,6,7,8,9,10,11,12,13,14,15,16,17,18,19,20,21,22] U U U
  ·refine iK U U U fun T298 W8=>ck (t:=87) U (aN fun Ck=>?_) (aO fun Ck=>?_)
   ·exact absurd (x9) Ck
   refine dj (xs:=[.const (vI 0),.const (vI 1)]) (cs:=[(vI 0),(vI 1)]) U cK jA U U U U (by simp [Value.cells]) U U fun Bg=>RD W8 5 U<|je [50,52] kr (eQ ?_<|eQ ?_<|kX)
   ·refine iK U U U fun T300 W9=>rS (MV U)<|RD W9 5 U<|N1 52<|iK U U U fun T301 W_=>dj (xs:=[.const (vI 2)]) (cs:=[(vI 2)]) U cK jA U U U U (by simp [Value.cells]) U U fun GT=>RD W_ 6 U<|N1 53<|iK U U U fun T303 XA=>dj (xs:=[.tmp 89,.tmp 90]) (cs:=[(vS (some ⟨Bg,0,none⟩) 2 2),(vS (some ⟨GT,0,none⟩) 1 1)]) U pK we U U U U (by simp [Value.cells]) U U fun YQ=>RD XA 7 U ?_
    exact kd hJ (Bg,GT,YQ) trivial [0,1,2,3,4,5,6,7,8,9,10,11,12,13,14,15,16,17,18,19,20,21,22] U U U
   refine iK U U U fun T305 XB=>dj (xs:=[.const (vI 2)]) (cs:=[(vI 2)]) U cK jA U U U U (by simp [Value.cells]) U U fun Cx=>RD XB 6 U<|je [50,53] kr (eQ ?_<|eQ ?_<|kX)
   rotate_left 1
   ·refine iK U U U fun T310 XE=>dj (xs:=[.tmp 89,.tmp 90]) (cs:=[(vS (some ⟨Bg,0,none⟩) 2 2),(vS (some ⟨Cx,0,none⟩) 1 1)]) U pK we U U U U (by simp [Value.cells]) U U fun YS=>RD XE 7 U<|N1 50<|iK U U U fun T312 XG=>rS (MV U)<|RD XG 7 U ?_
    exact kd hJ (Bg,Cx,YS) trivial [0,1,2,3,4,5,6,7,8,9,10,11,12,13,14,15,16,17,18,19,20,21,22] U U U
   refine iK U U U fun T307 XC=>rS (MV U)<|RD XC 6 U<|N1 53<|iK U U U fun T308 XD=>dj (xs:=[.tmp 89,.tmp 90]) (cs:=[(vS (some ⟨Bg,0,none⟩) 2 2),(vS (some ⟨Cx,0,none⟩) 1 1)]) U pK we U U U U (by simp [Value.cells]) U U fun YR=>RD XD 7 U ?_
   exact kd hJ (Bg,Cx,YR) trivial [0,1,2,3,4,5,6,7,8,9,10,11,12,13,14,15,16,17,18,19,20,21,22] U U U
  refine iK U U U fun T313 XH=>ck (t:=87) U (aN fun Ck=>?_) (aO fun Ck=>?_)
  ·exact absurd (x9) Ck
  refine dj (xs:=[.const (vI 2)]) (cs:=[(vI 2)]) U cK jA U U U U (by simp [Value.cells]) U U fun Bs=>RD XH 5 U<|je [50,51] kr (eQ ?_<|eQ ?_<|kX)
  ·refine iK U U U fun T315 XI=>rS (MV U)<|RD XI 5 U<|N1 51<|iK U U U fun T316 XJ=>dj (xs:=[.const (vI 0),.const (vI 1)]) (cs:=[(vI 0),(vI 1)]) U cK jA U U U U (by simp [Value.cells]) U U fun GZ=>RD XJ 6 U<|N1 53<|iK U U U fun T318 XK=>dj (xs:=[.tmp 89,.tmp 90]) (cs:=[(vS (some ⟨GZ,0,none⟩) 2 2),(vS (some ⟨Bs,0,none⟩) 1 1)]) U pK we U U U U (by simp [Value.cells]) U U fun YT=>RD XK 7 U ?_
   exact kd hJ (GZ,Bs,YT) trivial [0,2,1,3,4,5,6,7,8,9,10,11,12,13,14,15,16,17,18,19,20,21,22] U U U
  refine iK U U U fun T320 XL=>dj (xs:=[.const (vI 0),.const (vI 1)]) (cs:=[(vI 0),(vI 1)]) U cK jA U U U U (by simp [Value.cells]) U U fun C0=>RD XL 6 U<|je [50,53] kr (eQ ?_<|eQ ?_<|kX)
  rotate_left 1
  ·refine iK U U U fun T325 XO=>dj (xs:=[.tmp 89,.tmp 90]) (cs:=[(vS (some ⟨C0,0,none⟩) 2 2),(vS (some ⟨Bs,0,none⟩) 1 1)]) U pK we U U U U (by simp [Value.cells]) U U fun YV=>RD XO 7 U<|N1 50<|iK U U U fun T327 XP=>rS (MV U)<|RD XP 7 U ?_
   exact kd hJ (C0,Bs,YV) trivial [0,2,1,3,4,5,6,7,8,9,10,11,12,13,14,15,16,17,18,19,20,21,22] U U U
  refine iK U U U fun T322 XM=>rS (MV U)<|RD XM 6 U<|N1 53<|iK U U U fun T323 XN=>dj (xs:=[.tmp 89,.tmp 90]) (cs:=[(vS (some ⟨C0,0,none⟩) 2 2),(vS (some ⟨Bs,0,none⟩) 1 1)]) U pK we U U U U (by simp [Value.cells]) U U fun YU=>RD XN 7 U ?_
  exact kd hJ (C0,Bs,YU) trivial [0,2,1,3,4,5,6,7,8,9,10,11,12,13,14,15,16,17,18,19,20,21,22] U U U
 rintro ⟨D,E,A9⟩-
 try dsimp only
 refine ir U fun T328 XQ=>?_
 refine cW (es:=(([0,1]:List Int).map iC)) (C':=[_,_,(own (some ⟨D,0,none⟩) 2 3 1 (([0,1]:List Int).map iC)),_,_,_,_,_,_,_,_,_,_,_,_,_,_,_,_,_,_,_,_]) 2 U (nk bH _) U (by show _≤maxLen; exact Nat.le_trans (m:=10) (show (2:Nat)≤10 by decide) dc) U ?_
 refine cW (es:=(([2]:List Int).map iC)) (C':=[_,(own (some ⟨E,0,none⟩) 1 3 1 (([2]:List Int).map iC)),_,_,_,_,_,_,_,_,_,_,_,_,_,_,_,_,_,_,_,_,_]) 1 U (nk bH _) U (by show _≤maxLen; exact Nat.le_trans (m:=10) (show (1:Nat)≤10 by decide) dc) U ?_
 refine cW (es:=(List.zipWith nI [([0,1]:List Int),([2]:List Int)] [((some ⟨D,0,none⟩),2),((some ⟨E,0,none⟩),1)])) (C':=[(own (some ⟨A9,0,none⟩) 2 29 1 (List.zipWith nI [([0,1]:List Int),([2]:List Int)] [((some ⟨D,0,none⟩),2),((some ⟨E,0,none⟩),1)])),_,_,_,_,_,_,_,_,_,_,_,_,_,_,_,_,_,_,_,_,_,_]) 0 U (o6 KP) U (by show _≤maxLen; exact Nat.le_trans (m:=10) (show (2:Nat)≤10 by decide) dc) U ?_
 refine uS (aR tx [([0,1]:List Int),([2]:List Int)] [((some ⟨D,0,none⟩),2),((some ⟨E,0,none⟩),1)]) [2,1] [0,3,4,5,6,7,8,9,10,11,12,13,14,15,16,17,18,19,20,21,22] U U<|rS (CL (qY (dy lG) ([([0,1]:List Int),([2]:List Int)]) b BF Bb ([((some ⟨D,0,none⟩),2),((some ⟨E,0,none⟩),1)]) (some ⟨A9,0,none⟩) 2 (by first|exact Eq.1|exact C1.1) dc (by first|exact Eq.2|exact C1.2) dc (by exact H1) (by rfl)) (aq (ae (n:=(dy lG).length) 7 U (kv H1))<|aq (dg 8 U zP)<|aq (ae (n:=([([0,1]:List Int),([2]:List Int)]).length) 1 U sm)<|aq (dg 0 U zP)<|aJ) U)<|RD XQ 6 U<|ir U fun T329 XR=>rS (PK U)<|RD XR 6 U<|ir U fun T330 XS=>rS (MV U)<|RD XS 6 U<|ir U fun T331 XU=>ck (t:=94) U (aN fun Y7=>?_) (aO fun Y7=>?_)
 ·exact absurd (JR) Y7
 refine rS (MV U)<|RD XU 6 U<|ir U fun T332 XV=>rS (BI U mW)<|RD XV 6 U<|ir U fun T333 XW=>rS (PK U)<|RD XW 6 U<|ir U fun T334 XX=>rS (MV U)<|RD XX 6 U ?_
 refine wX (V:=Nat) (fun B3=>True) (fun B3=>[(71,(vS (some ⟨C,0,none⟩) 3 3)),(89,(vS (some ⟨D,0,none⟩) 2 2)),(90,(vS (some ⟨E,0,none⟩) 1 1)),(98,(vB true)),(99,(vS W ((fg aP 0 2 (aa.mk 2590 2599)).length) Z)),(100,(vS (some ⟨B3,0,none⟩) 1 1))]) (fun B3=>[(cm B3 3 [(vI 2)]),(br (aR tx [([0,1]:List Int),([2]:List Int)] [((some ⟨D,0,none⟩),2),((some ⟨E,0,none⟩),1)])),(own (some ⟨A9,0,none⟩) 2 29 1 (List.zipWith nI [([0,1]:List Int),([2]:List Int)] [((some ⟨D,0,none⟩),2),((some ⟨E,0,none⟩),1)])),(br (aR tx [([0,1,2]:List Int)] [((some ⟨C,0,none⟩),3)])),(own (some ⟨g,0,none⟩) 1 29 1 (List.zipWith nI [([0,1,2]:List Int)] [((some ⟨C,0,none⟩),3)])),(cm f 3 [(vI 2),(vI 3)]),(cm e 3 [(vI 1),(vI 2)]),(own W Z 3 1 ((fg aP 0 2 (aa.mk 2590 2599)).map iC)),(own BF Bb 29 1 (List.zipWith nI (dy lG) b)),(br (aR tx (dy lG) b)),(cm Ci 32 (cu.cells (cu.mk (b_.mk (bD.mk (bp.mk G aP.an.aL.length N)) aP.an.gK (bp.mk H aP.an.ai.length O) (bp.mk AB aP.an.ag.length P) aP.an.bS aP.an.eg aP.an.cM) (bp.mk J aP.aM.length R) (bp.mk K aP.bL.length S) aP.im (bp.mk L ((g4 aP.ao 0 2 (aa.mk 2590 2599)).length) T)))),(own G N 153 9 (aP.an.aL.map al.cells)),(own H O 53 2 (List.zipWith ar.cells aP.an.ai M)),(br (aR ar.owns aP.an.ai M)),(own AB P 160 4 (aP.an.ag.map bE.cells)),(own J R 3 1 (aP.aM.map iC)),(own K S 3 1 (aP.bL.map iC)),(own L T 56 1 (List.zipWith cw (g4 aP.ao 0 2 (aa.mk 2590 2599)) AA)),(br (aR gZ (g4 aP.ao 0 2 (aa.mk 2590 2599)) AA)),(own B7 B9 29 1 (List.zipWith nI (dy aP) a)),(br (aR tx (dy aP) a)),(cm C3 45 (aa.cells (gY aP 0 0))),(rd fx 3 2 eC).ro]) 11 [63,64,65,66,67,68,69,70,71,72,73] (fun hJ=>?_) ?_
 ·refine je [61,62] kr (eQ ?_<|eQ ?_<|kX)
  rotate_left 1
  ·refine iK U U U fun T339 Xa=>ck (t:=98) U (aN fun D9=>?_) (aO fun D9=>?_)
   ·exact absurd (DB) D9
   refine dj (xs:=[.const (vI 2)]) (cs:=[(vI 2)]) U cK jA U U U U (by simp [Value.cells]) U U fun YX=>RD Xa 7 U<|N1 61<|iK U U U fun T341 Xb=>rS (MV U)<|RD Xb 7 U ?_
   exact kd hJ YX trivial [0,1,2,3,4,5,6,7,8,9,10,11,12,13,14,15,16,17,18,19,20,21,22] U U U
  refine iK U U U fun T336 XY=>ck (t:=98) U (aN fun D9=>?_) (aO fun D9=>?_)
  ·exact absurd (DB) D9
  refine rS (MV U)<|RD XY 6 U<|N1 62<|iK U U U fun T337 XZ=>dj (xs:=[.const (vI 2)]) (cs:=[(vI 2)]) U cK jA U U U U (by simp [Value.cells]) U U fun YW=>RD XZ 7 U ?_
  exact kd hJ YW trivial [0,1,2,3,4,5,6,7,8,9,10,11,12,13,14,15,16,17,18,19,20,21,22] U U U
 rintro B3-
 try dsimp only
 refine ir U fun T342 Xc=>rS (CL (lv (fg aP 0 2 (aa.mk 2590 2599)) W Z ([2]) (some ⟨B3,0,none⟩) 1 I dc) (aq (ae (n:=(fg aP 0 2 (aa.mk 2590 2599)).length) 7 U sm)<|aq (bf 0 U U (by simp [bH]) U)<|aJ) U)<|RD Xc 7 U<|ir U fun T343 Xd=>rS (PK U)<|RD Xd 7 U<|ir U fun T344 Xe=>rS (MV U)<|RD Xe 7 U<|ir U fun T345 Xf=>ck (t:=103) U (aN fun Go=>?_) (aO fun Go=>?_)
 ·exact absurd (OM) Go
 refine dj (xs:=[.const (vI 0),.const (vI 2),.const (vI 1)]) (cs:=[(vI 0),(vI 2),(vI 1)]) U cK jA U U U U (by simp [Value.cells]) U U fun YY=>RD Xf 8 U<|ir U fun T347 Xg=>rS (CL (zr 1 ([0,2,1]) (some ⟨YY,0,none⟩) 3 dc) (fB 23 U U<|aq (bf 0 U U (by simp [bH]) U)<|aJ) U)<|RD Xg 8 U<|ir U fun T348 Xh=>rS (PK U)<|RD Xh 8 U<|ir U fun T349 Xi=>rS (MV U)<|RD Xi 8 U<|ir U fun T350 Xj=>ck (t:=107) U (aN fun Hi=>?_) (aO fun Hi=>?_)
 ·exact absurd (LQ) Hi
 refine dj (xs:=[.const (vI 0),.const (vI 1),.const (vI 2)]) (cs:=[(vI 0),(vI 1),(vI 2)]) U cK jA U U U U (by simp [Value.cells]) U U fun YZ=>RD Xj 9 U<|Kd [109,110,0] kr kr U _ U U (aI [9,10,11,12,13,14,15,16,17,18,19,20,21,22,23,24])<|dS (CL (zr 2 ([0,1,2]) (some ⟨YZ,0,none⟩) 3 dc) (fB 24 U U<|aq (bf 0 U U (by simp [bH]) U)<|aJ) U)<|dP 2 [] mn ?_
 refine cR<|RK R9<|av<|Q1 hQ U U U ?_
 exact cB (gF KV)
end
section
open Go.RowKit
theorem jc (n lo hi:Int):
 eB Tryz.prog 91 [(vI n),(vI lo),(vI hi)] [] (vB (decide (lo≤n∧n≤hi))):=by
 refine bG kr Tryz.func91 U U fun D Q hQ hN=>?_
 try dsimp only
 refine WS fun _ B=>bk 1 U<|RK B<|WS fun _ A=>rP 4 [] mn ?_
 refine dx (t:=10) U (aO fun C=>?_) (aN fun C=>?_)
 ·refine rP 5 [] mn ?_
  refine RK A<|av<|Q1 hQ U U U ?_
  exact cB (gN.2 I)
 refine rP 5 [] mn ?_
 refine RK A<|av<|Q1 hQ U U U ?_
 exact cB (cy I).symm
theorem D0 (ts:List al) (tsA:OA) (tsC:Nat) (hst: ∀ x∈ts,bP x) (hlen:ts.length≤12):
 lB Tryz.prog 170 [(vA (bD.cells (bD.mk (bp.mk tsA ts.length tsC))))] [(rd tsA ts.length 9 (ts.map al.cells))] (fun (x:(OA)×Nat)=>(vS x.1 ((iy ts (ts.length+1)).length) x.2)) (fun (x:(OA)×Nat)=>True) (fun (x:(OA)×Nat)=>[(own x.1 x.2 45 2 ((iy ts (ts.length+1)).map aa.cells))]):=by
 refine dh kr Tryz.func170 U U fun V Q hQ hN=>?_
 try dsimp only
 refine WS fun _ J=>fZ U fun AA=>bk 1 U<|RK J<|WS fun _ K=>bk 1 U<|RK K<|aj fun _ L=>WS fun _ M=>rP 1 [] mn ?_
 refine RK M<|ax<|gu 45 2 ?_
 have A:(0≤ts.length+1):=by exact Nat.zero_le _
 refine bJ (ι:={z:Nat×(OA)×Nat // (z.1≤ts.length+1)}) [1] [1,2] U U (fun z=>[(3,(vS z.1.2.1 ((iy ts z.1.1).length) z.1.2.2)),(4,(vI (z.1.1:Int)))]) (fun z=>[(own z.1.2.1 z.1.2.2 45 2 ((iy ts z.1.1).map aa.cells))]) (fun _=>rfl) (fun _=>rfl) (fun z=>ts.length+1-z.1.1) ⟨(0,none,0),A⟩ (aT U) (aI [1,2,0]) ?_
 clear A
 rintro ⟨⟨i,a,c⟩,B⟩ J6 AB
 try dsimp only at B
 try dsimp only
 refine aj fun _ N=>WS fun _ O=>rP 5 [] (mc 0 U mn) ?_
 refine RK O<|bR U (aN fun T=>?_) (aO fun T=>?_)
 ·refine bB<|ab<|ab<|ay<|KK L<|WS fun _ E=>?_
  obtain rfl:i=ts.length+1:=by omega
  refine rP 2 [] mn ?_
  refine RK E<|av<|LX hQ (a,c) [2] [] mn U U U U ?_
  trivial
 refine WK N<|aj fun _ C=>ax<|WS fun _ D=>fP 2 [] (mc 0 U mn) U<|rS (CL (BB ts tsA tsC 0 (i:Int) hst hlen I) (bo [1]) U)<|bk 3 U<|AL U dA fun P=>AL U dA fun R=>te U cz U<|gd U cz U<|RK D<|ak<|rP 2 [] (mc 1 U mn) ?_
 refine dj (xs:=[.tmp 21]) (cs:=(aa.cells (eO ts (0:Int).toNat ((i:Int)-0).toNat))) U hU dA U U U U (by simp [Value.cells,aa.aW]) U U fun S=>?_
 refine cL (es2:=(List.map aa.cells (iy ts (i+1)))) (m':=(iy ts (i+1)).length) 5 U U U xo U U sm (bf (es:=List.map aa.cells [(eO ts (0:Int).toNat ((i:Int)-0).toNat)]) 0 U U (by simp [aa.aW]) U) (ic _) (by simp only [o3]; omega) (by simp only [maxLen,o3]; omega) (by rw [CS]; simp) sm U fun G H=>?_
 try dsimp only
 refine bk 1 U<|aB<|aF<|KK C<|ak<|rP 3 [] mn ?_
 refine aB ?_
 have F:(vI (((i+1):Nat):Int))=(vI ((i:Int)+1)):=by exact cI I
 refine aU (AB ⟨((i+1),G,H),(by first|omega|(simp only []; omega))⟩ _ _ _ U os (dI.cons U<|dI.cons U<|bj U F<|dI.nil _) (aI [3,4,5]))
theorem Sf (ts:List al) (tsA:OA) (tsC:Nat) (s:cN) (hlen:ts.length≤1000000) (hside: ∀ x∈ts,0≤x.js∧x.js≤255):
 eB Tryz.prog 133 [(vA (bD.cells (bD.mk (bp.mk tsA ts.length tsC)))),(vA (cN.cells s))] [(rd tsA ts.length 9 (ts.map al.cells))] (vT [(vA (aa.cells (Qd ts s))),(vI (F7 ts s))]):=by
 refine bG kr Tryz.func133 U U fun r Q hQ hN=>?_
 try dsimp only
 refine WS fun _ R=>fZ U fun i=>fZ U fun k=>AL U dA fun l=>bk 1 U<|RK R<|aj fun _ S=>WS fun _ T=>fP 1 [] (mc 2 U mn) U<|rS (CL (wB ts tsA tsC hlen) (bo [3]) U)<|rP 1 [] mn ?_
 refine RK T<|cP U (fun AB=>?_) (fun AB=>?_)
 ·rw [Bool.not_eq_true'] at AB
  refine WS fun _ AA=>rS (SX (bg (xs:=[]) (cs:=(aa.cells (aa.mk 0 0))) U U (bh gJ U)) U U)<|gd U cz U<|rP 1 [] mn ?_
  refine RK AA<|av<|lU hQ [0] (mc 0 U mn) U ?_
  (have e:=LI (s:=s) (by simpa using AB); rw [e.1,e.2]<;>rfl)
 rw [Bool.not_eq_false'] at AB
 refine WK S<|aj fun _ V=>WS fun _ W=>?_
 have M:=kg AB
 have Z:=lh AB
 refine fP 2 [0,1] (mc 2 U (mc 1 U mn)) U<|rS (CL (rG ts tsA tsC s asm asm) (bo [3]) U)<|rP 1 [] mn ?_
 refine RK W<|cP U (bw fun D=>?_) (bu fun D=>?_)
 ·refine WS fun _ O=>rS (SX (bg (xs:=[]) (cs:=(aa.cells (aa.mk 0 0))) U U (bh gJ U)) U U)<|gd U cz U<|rP 1 [] mn ?_
  refine RK O<|av<|lU hQ [0] (mc 0 U mn) U ?_
  (have e:=Ko AB D; rw [e.1,e.2]<;>rfl)
 refine WK V<|aj fun _ H=>p9 cE [0,2,3] [1,4,5,6,7] [false,false,false] [] [(cm l 45 (aa.cells (aa.mk 0 0))),(cm k 158 (cN.cells s)),(cm i 24 (bD.cells (bD.mk (bp.mk tsA ts.length tsC)))),(rd tsA ts.length 9 (ts.map al.cells)).ro] [] kr (aI [0,1,2,3]) (aI []) ?_
 have q:=D.1
 have N:=qD M D
 have p:(iy ts (ts.length+1)).length=ts.length+1:=o3
 refine eS U (LW 2 U cp U U)<|eS U (FA 0 U fc U)<|eS U (L1 (vI s.a_) 1 U cp U U)<|eU U<|je [1,6] kr (eQ ?_<|eQ ?_<|kX)
 rotate_left 1
 ·refine NO U U [1,4,5,7] fun T12 J=>AL U dA fun f=>RD J 1 U<|N1 1<|NO U U [4,5,7] fun T14 P=>cX (D0 ts tsA tsC asm asm) (bo [4]) U fun Y b=>?_
  obtain ⟨d,o⟩:=Y
  try dsimp only
  refine RD P 2 U<|N1 4<|NO U U [5,7] fun T19 E=>?_
  obtain ⟨z,hz⟩:=aK (iy ts (ts.length+1)) ((s.a_).toNat) I
  have A:=bQ aa.cells hz
  refine rS (IA ((s.a_).toNat) U (ae (n:=(iy ts (ts.length+1)).length) 0 U sm) hU dc I I)<|RD E 2 U<|N1 5<|NO U U [7] fun T20 F=>rS (oE ((s.a_).toNat) 0 (aa.cells z) U cp (ae (n:=(iy ts (ts.length+1)).length) 0 U sm) A U dc U U)<|RD F 2 U<|N1 7<|NO U U [] fun T21 C=>te U cz U<|RD C 2 U<|qv<|KK H<|WS fun _ B=>rP 1 [] mn ?_
  have A:=qk hz
  have G:=mD M 0 s.a_.toNat
  unfold lV at N
  rw [← A] at G
  refine fP 11 [0,1,0,1] (mc 1 U (mc 3 U mn)) U<|rS (SX (bg (xs:=[(0,.tmp 27),(1,.tmp 33)]) (cs:=(aa.cells (aa.mk (z.Lo+s.mX.Lo) (z.Hi+s.mX.Hi)))) U U (bh gJ U)) U U)<|G0 U cz U<|rP 1 [] mn ?_
  refine RK B<|av<|lU hQ [0] (mc 2 U mn) U ?_
  (have e:=xB AB D; subst A; rw [e.1,e.2]<;>rfl)
 refine NO U U [4,5,6,7] fun T12 J=>cX (D0 ts tsA tsC asm asm) (bo [3]) U fun X a=>?_
 obtain ⟨c,m⟩:=X
 try dsimp only
 refine RD J 1 U<|je [4,6] kr (eQ ?_<|eQ ?_<|kX)
 rotate_left 1
 ·refine NO U U [4,5,7] fun T17 K=>AL U dA fun g=>RD K 2 U<|N1 4<|NO U U [5,7] fun T19 E=>?_
  obtain ⟨z,hz⟩:=aK (iy ts (ts.length+1)) ((s.a_).toNat) I
  have A:=bQ aa.cells hz
  refine rS (IA ((s.a_).toNat) U (ae (n:=(iy ts (ts.length+1)).length) 1 U sm) hU dc I I)<|RD E 2 U<|N1 5<|NO U U [7] fun T20 F=>rS (oE ((s.a_).toNat) 0 (aa.cells z) U cp (ae (n:=(iy ts (ts.length+1)).length) 1 U sm) A U dc U U)<|RD F 2 U<|N1 7<|NO U U [] fun T21 C=>gd U cz U<|RD C 2 U<|qv<|KK H<|WS fun _ B=>rP 1 [] mn ?_
  have A:=qk hz
  have G:=mD M 0 s.a_.toNat
  unfold lV at N
  rw [← A] at G
  refine fP 11 [0,1,0,1] (mc 0 U (mc 3 U mn)) U<|rS (SX (bg (xs:=[(0,.tmp 27),(1,.tmp 33)]) (cs:=(aa.cells (aa.mk (z.Lo+s.mX.Lo) (z.Hi+s.mX.Hi)))) U U (bh gJ U)) U U)<|G0 U cz U<|rP 1 [] mn ?_
  refine RK B<|av<|lU hQ [0] (mc 2 U mn) U ?_
  (have e:=xB AB D; subst A; rw [e.1,e.2]<;>rfl)
 refine NO U U [5,6,7] fun T17 K=>?_
 obtain ⟨z,hz⟩:=aK (iy ts (ts.length+1)) ((s.a_).toNat) I
 have A:=bQ aa.cells hz
 refine rS (IA ((s.a_).toNat) U (ae (n:=(iy ts (ts.length+1)).length) 0 U sm) hU dc I I)<|RD K 1 U<|je [5,6] kr (eQ ?_<|eQ ?_<|kX)
 rotate_left 1
 ·refine NO U U [5,7] fun T18 L=>AL U dA fun h=>RD L 2 U<|N1 5<|NO U U [7] fun T20 F=>rS (oE ((s.a_).toNat) 0 (aa.cells z) U cp (ae (n:=(iy ts (ts.length+1)).length) 1 U sm) A U dc U U)<|RD F 2 U<|N1 7<|NO U U [] fun T21 C=>gd U cz U<|RD C 2 U<|qv<|KK H<|WS fun _ B=>rP 1 [] mn ?_
  have A:=qk hz
  have G:=mD M 0 s.a_.toNat
  unfold lV at N
  rw [← A] at G
  refine fP 11 [0,1,0,1] (mc 0 U (mc 3 U mn)) U<|rS (SX (bg (xs:=[(0,.tmp 27),(1,.tmp 33)]) (cs:=(aa.cells (aa.mk (z.Lo+s.mX.Lo) (z.Hi+s.mX.Hi)))) U U (bh gJ U)) U U)<|G0 U cz U<|rP 1 [] mn ?_
  refine RK B<|av<|lU hQ [0] (mc 2 U mn) U ?_
  (have e:=xB AB D; subst A; rw [e.1,e.2]<;>rfl)
 refine NO U U [6,7] fun T18 L=>rS (oE ((s.a_).toNat) 0 (aa.cells z) U cp (ae (n:=(iy ts (ts.length+1)).length) 0 U sm) A U dc U U)<|RD L 1 U<|N1 6<|NO U U [7] fun T19 E=>AL U dA fun j=>RD E 2 U<|N1 7<|NO U U [] fun T21 C=>gd U cz U<|RD C 2 U<|qv<|KK H<|WS fun _ B=>rP 1 [] mn ?_
 have A:=qk hz
 have G:=mD M 0 s.a_.toNat
 unfold lV at N
 rw [← A] at G
 refine fP 11 [0,1,0,1] (mc 0 U (mc 3 U mn)) U<|rS (SX (bg (xs:=[(0,.tmp 27),(1,.tmp 33)]) (cs:=(aa.cells (aa.mk (z.Lo+s.mX.Lo) (z.Hi+s.mX.Hi)))) U U (bh gJ U)) U U)<|G0 U cz U<|rP 1 [] mn ?_
 refine RK B<|av<|lU hQ [0] (mc 2 U mn) U ?_
 (have e:=xB AB D; subst A; rw [e.1,e.2]<;>rfl)
theorem H5 (ts:List al) (tsA:OA) (tsC:Nat) (p:cN) (q:cN) (hlen:ts.length≤1000000) (hside: ∀ x∈ts,0≤x.js∧x.js≤255) (hord: ¬ q.a_<p.a_):
 eB Tryz.prog 134 [(vA (bD.cells (bD.mk (bp.mk tsA ts.length tsC)))),(vA (cN.cells p)),(vA (cN.cells q))] [(rd tsA ts.length 9 (ts.map al.cells))] (vT [(vA (aa.cells (ld ts p q))),(vI (l5 ts p q))]):=by
 refine bG kr Tryz.func134 U U fun k Q hQ hN=>?_
 try dsimp only
 refine WS fun _ N=>fZ U fun f=>fZ U fun g=>fZ U fun i=>AL U dA fun j=>bk 1 U<|RK N<|aj fun _ O=>WS fun _ P=>fP 1 [] (mc 3 U mn) U<|rS (CL (wB ts tsA tsC hlen) (bo [4]) U)<|rP 1 [] mn ?_
 refine RK P<|cP U (fun A=>?_) (fun A=>?_)
 ·rw [Bool.not_eq_true'] at A
  refine WS fun _ R=>rS (SX (bg (xs:=[]) (cs:=(aa.cells (aa.mk 0 0))) U U (bh gJ U)) U U)<|gd U cz U<|rP 1 [] mn ?_
  refine RK R<|av<|lU hQ [0] (mc 0 U mn) U ?_
  (have e:=vu (a:=p) (b:=q) (by simpa using A); rw [e.1,e.2]<;>rfl)
 rw [Bool.not_eq_false'] at A
 refine WK O<|aj fun _ S=>WS fun _ E=>?_
 have D:=kg A
 have M:=lh A
 refine fP 2 [0,1] (mc 3 U (mc 2 U mn)) U<|rS (CL (rG ts tsA tsC p asm asm) (bo [4]) U)<|rP 2 [] mn ?_
 refine dx (t:=20) U (bw fun B=>?_) (bu fun B=>?_)
 ·refine bk 5 U<|RK E<|aQ U<|WS fun _ G=>rS (SX (bg (xs:=[]) (cs:=(aa.cells (aa.mk 0 0))) U U (bh gJ U)) U U)<|gd U cz U<|rP 1 [] mn ?_
  refine RK G<|av<|lU hQ [0] (mc 0 U mn) U ?_
  (have e:=pE (a:=p) (b:=q) A (fun h=>by first|exact B h.1|exact C h.2); rw [e.1,e.2]<;>rfl)
 refine fP 2 [0,1] (mc 3 U (mc 1 U mn)) U<|rS (CL (rG ts tsA tsC q asm asm) (bo [4]) U)<|rP 2 [] mn ?_
 refine RK E<|cP U (bw fun C=>?_) (bu fun C=>?_)
 ·refine WS fun _ H=>rS (SX (bg (xs:=[]) (cs:=(aa.cells (aa.mk 0 0))) U U (bh gJ U)) U U)<|gd U cz U<|rP 1 [] mn ?_
  refine RK H<|av<|lU hQ [0] (mc 0 U mn) U ?_
  (have e:=pE (a:=p) (b:=q) A (fun h=>by first|exact B h.1|exact C h.2); rw [e.1,e.2]<;>rfl)
 refine WK S<|aj fun _ AB=>WS fun _ J=>?_
 have AA:fH ts p∧fH ts q:=⟨B,C⟩
 have T:=qD D B
 have V:=qD D C
 have c:=B.1
 have d:=C.1
 have Y:=xX D M C B
 unfold lV at T V
 refine rP 5 [0,1] (mc 1 U (mc 2 U mn)) ?_
 refine RK J<|cP U (aO fun F=>?_) (aN fun F=>?_)
 ·exfalso; omega
 refine WK AB<|WS fun _ K=>rP 2 [] (mc 3 U mn) ?_
 have Z:=mD D p.a_.toNat (q.a_-p.a_).toNat
 refine fP 3 [0,1] (mc 2 U (mc 1 U mn)) U<|rS (CL (BB ts tsA tsC p.a_ q.a_ asm asm I) (bo [4]) U)<|bk 3 U<|AL U dA fun W=>AL U dA fun X=>te U cz U<|gd U cz U<|RK K<|WS fun _ L=>fP 20 [0,1,2,0,1,2] (mc 1 U (mc 3 U (mc 4 U mn))) U<|rS (SX (bg (xs:=[(0,.tmp 64),(1,.tmp 74)]) (cs:=(aa.cells (aa.mk ((((eO ts p.a_.toNat (q.a_-p.a_).toNat).Lo)+q.mX.Lo)-p.mX.Hi) ((((eO ts p.a_.toNat (q.a_-p.a_).toNat).Hi)+q.mX.Hi)-p.mX.Lo)))) U U (bh gJ U)) U U)<|G0 U cz U<|rP 1 [] mn ?_
 refine RK L<|av<|lU hQ [0] (mc 2 U mn) U ?_
 (have e:=lI A AA; rw [e.1,e.2,rh F]<;>rfl)
theorem Ld (ts:List al) (tsA:OA) (tsC:Nat) (p:cN) (q:cN) (hlen:ts.length≤1000000) (hside: ∀ x∈ts,0≤x.js∧x.js≤255):
 eB Tryz.prog 134 [(vA (bD.cells (bD.mk (bp.mk tsA ts.length tsC)))),(vA (cN.cells p)),(vA (cN.cells q))] [(rd tsA ts.length 9 (ts.map al.cells))] (vT [(vA (aa.cells (ld ts p q))),(vI (l5 ts p q))]):=by
 refine bG kr Tryz.func134 U U fun u Q hQ hN=>?_
 try dsimp only
 refine WS fun _ S=>fZ U fun n=>fZ U fun o=>fZ U fun r=>AL U dA fun s=>bk 1 U<|RK S<|aj fun _ T=>WS fun _ AA=>fP 1 [] (mc 3 U mn) U<|rS (CL (wB ts tsA tsC hlen) (bo [4]) U)<|rP 1 [] mn ?_
 refine RK AA<|cP U (fun A=>?_) (fun A=>?_)
 ·rw [Bool.not_eq_true'] at A
  refine WS fun _ V=>rS (SX (bg (xs:=[]) (cs:=(aa.cells (aa.mk 0 0))) U U (bh gJ U)) U U)<|gd U cz U<|rP 1 [] mn ?_
  refine RK V<|av<|lU hQ [0] (mc 0 U mn) U ?_
  (have e:=vu (a:=p) (b:=q) (by simpa using A); rw [e.1,e.2]<;>rfl)
 rw [Bool.not_eq_false'] at A
 refine WK T<|aj fun _ W=>WS fun _ E=>?_
 have D:=kg A
 have P:=lh A
 refine fP 2 [0,1] (mc 3 U (mc 2 U mn)) U<|rS (CL (rG ts tsA tsC p asm asm) (bo [4]) U)<|rP 2 [] mn ?_
 refine dx (t:=20) U (bw fun B=>?_) (bu fun B=>?_)
 ·refine bk 5 U<|RK E<|aQ U<|WS fun _ G=>rS (SX (bg (xs:=[]) (cs:=(aa.cells (aa.mk 0 0))) U U (bh gJ U)) U U)<|gd U cz U<|rP 1 [] mn ?_
  refine RK G<|av<|lU hQ [0] (mc 0 U mn) U ?_
  (have e:=pE (a:=p) (b:=q) A (fun h=>by first|exact B h.1|exact C h.2); rw [e.1,e.2]<;>rfl)
 refine fP 2 [0,1] (mc 3 U (mc 1 U mn)) U<|rS (CL (rG ts tsA tsC q asm asm) (bo [4]) U)<|rP 2 [] mn ?_
 refine RK E<|cP U (bw fun C=>?_) (bu fun C=>?_)
 ·refine WS fun _ H=>rS (SX (bg (xs:=[]) (cs:=(aa.cells (aa.mk 0 0))) U U (bh gJ U)) U U)<|gd U cz U<|rP 1 [] mn ?_
  refine RK H<|av<|lU hQ [0] (mc 0 U mn) U ?_
  (have e:=pE (a:=p) (b:=q) A (fun h=>by first|exact B h.1|exact C h.2); rw [e.1,e.2]<;>rfl)
 refine WK W<|aj fun _ AB=>WS fun _ J=>?_
 have R:fH ts p∧fH ts q:=⟨B,C⟩
 have X:=qD D B
 have Y:=qD D C
 have l:=B.1
 have m:=C.1
 have j:=xX D P C B
 unfold lV at X Y
 refine rP 5 [0,1] (mc 1 U (mc 2 U mn)) ?_
 refine RK J<|cP U (aO fun F=>?_) (aN fun F=>?_)
 ·refine WS fun _ K=>fP 3 [0,1,2] (mc 3 U (mc 1 U (mc 2 U mn))) U<|rS (CL (H5 ts tsA tsC q p hlen hside I) (bo [4]) U)<|bk 3 U<|AL U dA fun d=>gd U cz U<|bk 1 U<|RK K<|WS fun _ L=>rP 2 [] (mc 0 U mn) ?_
  have O:ld ts q p=kj ts q p:=(lI A ⟨C,B⟩).2
  have Z: -400000≤(ld ts q p).Lo∧(ld ts q p).Hi≤400000:=by rw [O]; omega
  have c:(ld ts q p).Lo≤(ld ts q p).Hi:=by rw [O]; omega
  refine rS (NG U ⟨I,I⟩)<|fP 2 [] (mc 0 U mn) U<|rS (NG U ⟨I,I⟩)<|rS (SX (bg (xs:=[(0,.tmp 41),(1,.tmp 44)]) (cs:=(aa.cells (aa.mk (-((ld ts q p).Hi)) (-((ld ts q p).Lo))))) U U (bh gJ U)) U U)<|te U cz U<|rP 1 [] mn ?_
  refine RK L<|av<|lU hQ [0] (mc 1 U mn) U ?_
  (have e:=lI A R; have i:=lI A ⟨C,B⟩; rw [e.1,e.2,i.2,EE F]<;>rfl)
 refine WK AB<|WS fun _ M=>rP 2 [] (mc 3 U mn) ?_
 have k:=mD D p.a_.toNat (q.a_-p.a_).toNat
 refine fP 3 [0,1] (mc 2 U (mc 1 U mn)) U<|rS (CL (BB ts tsA tsC p.a_ q.a_ asm asm I) (bo [4]) U)<|bk 3 U<|AL U dA fun f=>AL U dA fun g=>te U cz U<|gd U cz U<|RK M<|WS fun _ N=>fP 20 [0,1,2,0,1,2] (mc 1 U (mc 3 U (mc 4 U mn))) U<|rS (SX (bg (xs:=[(0,.tmp 64),(1,.tmp 74)]) (cs:=(aa.cells (aa.mk ((((eO ts p.a_.toNat (q.a_-p.a_).toNat).Lo)+q.mX.Lo)-p.mX.Hi) ((((eO ts p.a_.toNat (q.a_-p.a_).toNat).Hi)+q.mX.Hi)-p.mX.Lo)))) U U (bh gJ U)) U U)<|G0 U cz U<|rP 1 [] mn ?_
 refine RK N<|av<|lU hQ [0] (mc 2 U mn) U ?_
 (have e:=lI A R; rw [e.1,e.2,rh F]<;>rfl)
end
end Go.Proofs.YtlajhejcfcoddaaGreatDoor
