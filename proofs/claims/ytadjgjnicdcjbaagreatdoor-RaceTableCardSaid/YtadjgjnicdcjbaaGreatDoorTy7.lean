/-
 The statement raceTable_said, part 7 of 8: Rx3, DrawB, Async, NJoin, Rt3, Rr1, WLe, Ends5, Can, False, Sim, Told, Clear, Ways, WayM, B7, B8, B9, R1, Y1, Y2, Y3, Y5, Rx5, Rx8.
 Conditions: none.
-/
import Derived.Test.YtadjgjnicdcjbaaGreatDoorTy1
import Derived.Test.YtadjgjnicdcjbaaGreatDoorTy2
import Derived.Test.YtadjgjnicdcjbaaGreatDoorTy3
import Derived.Test.YtadjgjnicdcjbaaGreatDoorTy4
import Derived.Test.YtadjgjnicdcjbaaGreatDoorTy5
import Derived.Test.YtadjgjnicdcjbaaGreatDoorTy6
import Derived.KernelRfl
namespace Go.Proofs.YtadjgjnicdcjbaaGreatDoor
set_option maxRecDepth 100000
set_option maxHeartbeats 4000000
set_option linter.unusedVariables false
section
open Go.RowKit
theorem Me (a b:Int) (r:bT) (kA:OA) (kC:Nat) (cA:OA) (cC:Nat) (bA:OA) (bC:Nat) (slA:OA) (slC:Nat) (drA:OA) (drC:Nat) (heA:OA) (heC:Nat) (tA:OA) (tN tC:Nat) (gs gw:Nat) (m:gY) (g1:Nat) (hb: ∀ p∈m,0≤p.2.Lo∧p.2.Lo≤p.2.Hi∧p.2.Hi≤30000000):
 dT Tryz.prog 50 [(vI a),(vI b),(vP g1)] [(bV gw 91 (fH.cells (fH.mk (oI r kA kC cA cC bA bC slA slC drA drC heA heC) (br.mk tA tN tC) (Value.map (some gs))))),(gZ iV gs (bL dw m)),(bV g1 81 [(vP gw)])] (vI ((aA m a).Lo-(aA m b).Lo)):=by
 have A:=gM (i:=a) hb
 have B:=gM (i:=b) hb
 refine bx kr Tryz.func50 U U fun E Q hQ hN=>?_
 try dsimp only
 refine WS fun _ C=>bf 1 U<|RK C<|ah fun _ D=>dB cu 16 kr<|mP 1 [] (mr 2 U mn) U<|dS (SX (bI U U) U U)<|mP 3 [] (mr 0 U mn) U<|dS (SX (jO (kV:=iV) (x:=a) (l:=m) (f:=dw) (z:=(aa.mk 0 0)) U U U mm (dC oJ) vz (by exact j8 1 U)) U U)<|dS (SX (kO (v:=(vI (((List.lookup a m).getD (aa.mk 0 0)).Lo))) U U fu AW U) U U)<|mP 1 [] (mr 2 U mn) U<|dS (SX (bI U U) U U)<|dP 3 [] (mr 0 U mn) ?_
 refine dS (SX (jO (kV:=iV) (x:=b) (l:=m) (f:=dw) (z:=(aa.mk 0 0)) U U U mm (dC oJ) vz (by exact j8 1 U)) U U)<|dS (SX (kO (v:=(vI (((List.lookup b m).getD (aa.mk 0 0)).Lo))) U U fu AW U) U U) ?_
 unfold aA at A B
 simp only [dx] at A B
 refine dP 2 [] mn ?_
 refine cM<|RK D<|an ?_
 exact Q1 hQ U U U U
theorem zT (r:bT) (kA:OA) (kC:Nat) (az:List RA) (cA:OA) (cC:Nat) (bA:OA) (bC:Nat) (slA:OA) (slC:Nat) (drA:OA) (drC:Nat) (ha:List cO) (heA:OA) (heC:Nat) (hin:e7 r az ha):
 lv Tryz.prog 21 [(vA (cx.cells (oI r kA kC cA cC bA bC slA slC drA drC heA heC)))] [(rd eW 3 2 dZ),(rd kA r.ao.aP.length 9 (r.ao.aP.map al.cells)),(rd cA r.ao.ak.length 2 (List.zipWith ar.cells r.ao.ak az)),(eX (aV ar.g0 r.ao.ak az)),(rd bA r.ao.ae.length 4 (r.ao.ae.map bD.cells)),(rd slA r.aQ.length 1 (r.aQ.map iC)),(rd drA r.bQ.length 1 (r.bQ.map iC)),(rd heA r.ay.length 1 (List.zipWith cP r.ay ha)),(eX (aV ir r.ay ha))] (fun (x:(List RA)×(OA)×Nat)=>(vT [(vS x.2.1 ((cd r).length) x.2.2),(vI (cK r))])) (fun (x:(List RA)×(OA)×Nat)=>x.1.length=(cd r).length) (fun (x:(List RA)×(OA)×Nat)=>[(own x.2.1 x.2.2 32 1 (List.zipWith l3 (cd r) x.1)),(bw (aV sG (cd r) x.1))]):=by
 have IB:=hin.line
 have Li:=hin.iO
 have Lk:=hin.has
 have J3:=hin.iN
 have Jg:=hin.draw
 have J4:=dy (r:=r)
 refine dj kr Tryz.func21 U U fun w0 Q hQ hN=>?_
 try dsimp only
 refine WS fun _ Gf=>fM U fun b2=>bf 2 U<|RK Gf<|WS fun _ Ah=>rP 1 [] (mc 0 U mn) ?_
 refine cX (nZ r kA kC az cA cC bA bC slA slC drA drC ha heA heC hin) (bj [1,2,3,4,5,6,7,8,9]) U fun y4 Do=>?_
 obtain ⟨Dt,LE,X,O,EQ,W,J8⟩:=y4
 cases Dt
 ·obtain ⟨C2,he⟩:=Do.2 rfl
  try dsimp only at C2 he
  subst C2
  try dsimp only [cond_true,cond_false,List.cons_append,List.nil_append]
  refine bf 3 U<|AL U Rf fun Kg=>GA U RX U U<|bf 1 U<|RK Ah<|ah fun _ In=>WS fun _ p=>rP 2 [] mn ?_
  refine RK p<|bK U (bq fun g=>?_) (bp fun g=>?_)
  ·exact absurd g he
  refine WS fun _ s=>rP 1 [] mn ?_
  have E:cd r=[]:=Dh he
  have Z:([]:List RA).length=(cd r).length:=by rw [E]; rfl
  refine dH 32 1<|x8 ?_
  rw [show (own none 0 32 1 ([]:List (List Value)))=own none 0 32 1 (List.zipWith l3 (cd r) []) from by rw [E]; rfl,show bw []=bw (aV sG (cd r) []) from by rw [E]; rfl]
  refine rP 2 [] mn ?_
  refine RK s<|an ?_
  refine LX hQ ([],none,0) [1,0] [] mn U (by show List.all _ _=true; simp only [fB,List.all_nil,Ls,Bool.and_true]; rfl) U ?_ ?_
  ·first|rfl|(rw [E]; rfl)|(rw [he,← E,List.length_map]; rfl)|(rw [he,E]; rfl)
  ·exact Z
 obtain ⟨he,L0⟩:=Do.1 rfl
 try dsimp only [cond_true,cond_false,List.cons_append,List.nil_append]
 have AB:=nt he
 have J2:=mo he
 refine bf 3 U<|AL U Rf fun R=>GA U RX U U<|bf 1 U<|RK Ah<|ah fun _ t=>WS fun _ v=>bf 1 U<|rS (SX (bU (r:= .bool false) U U U mA) U U)<|RK v<|aW U<|WK t<|WS fun _ w=>bf 1 U<|RK w<|WS fun _ y=>bf 1 U<|RK y<|ah fun _ AC=>WS fun _ AO=>fw 1 [] (mc 0 U mn) U<|rS (SX (bI U U) U U)<|rP 2 [] (mc 1 U mn) ?_
 refine cX (F2 O) (aI) U fun Fd J5=>?_
 try dsimp only
 refine cX (yN (aF r) O Fd sd) (bj [5,0]) U fun If J6=>?_
 obtain ⟨FS,Fn⟩:=If
 try dsimp only
 rw [show (aF r).length=(df ((aF r).map (·.1))).length from by rw [gl,List.length_map]]
 refine rS (FU U) ?_
 refine cX (yH (df ((aF r).map (·.1))) FS Fn (Value.func (.func 50) [].toArray [(vP R)].toArray) (fun u=>(aA (aF r) u).Lo) (eX [(bV X 91 (fH.cells (fH.mk (oI r kA kC cA cC bA bC slA slC drA drC heA heC) (br.mk EQ ((cN r).length) W) (Value.map (some O))))),(gZ iV O (bL dw (aF r))),(bV R 81 [(vP X)])]) (by intro IX Id _; exact nE (fi:=[]) (ca:=[(vP R)]) (l0 (Me IX Id r kA kC cA cC bA bC slA slC drA drC heA heC EQ ((cN r).length) W O X (aF r) R (by first|assumption|omega)) (No 0 1 2 U U U U U U))) (by exact Ti AB) (by rw [gl,List.length_map]; omega)) (aw (ai (n:=(df ((aF r).map (·.1))).length) 0 U sm)<|aw (l5 (No 3 6 2 U U U U U U))<|aI) U fun Ik J7=>?_
 obtain ⟨J9,LA⟩:=Ik
 try dsimp only
 have Ly:(er (fun u=>(aA (aF r) u).Lo) (df ((aF r).map (·.1)))).length=(aF r).length:=by rw [kz,gl,List.length_map]
 have Di:Et (fun u=>(aA (aF r) u).Lo) (er (fun u=>(aA (aF r) u).Lo) (df ((aF r).map (·.1)))):=uY
 refine rP 2 [] mn ?_
 refine RK AO<|av<|fQ 32 1<|oy ?_
 have H:(0≤(er (fun u=>(aA (aF r) u).Lo) (df ((aF r).map (·.1)))).length)∧(([]:List RA).length=([]:List (List Int)).length)∧(l9 (aA (aF r)) ((er (fun u=>(aA (aF r) u).Lo) (df ((aF r).map (·.1)))).take 0) ([]:List (List Int)) (-1))∧(-1≤(-1)∧(-1)≤30000000):=by exact ⟨Nat.zero_le _,rfl,Fg,I⟩
 refine bH (ι:={z:Nat×(List (List Int))×(List RA)×(OA)×Nat×Int // (z.1≤(er (fun u=>(aA (aF r) u).Lo) (df ((aF r).map (·.1)))).length)∧(z.2.2.1.length=z.2.1.length)∧(l9 (aA (aF r)) ((er (fun u=>(aA (aF r) u).Lo) (df ((aF r).map (·.1)))).take z.1) z.2.1 z.2.2.2.2.2)∧(-1≤z.2.2.2.2.2∧z.2.2.2.2.2≤30000000)}) [1,4,29,30] [2,3,5,6,7,8,9,11,12,13,14,15,16,17,18,19] U U (fun z=>[(6,(vS z.1.2.2.2.1 z.1.2.1.length z.1.2.2.2.2.1)),(7,(vI z.1.2.2.2.2.2)),(31,(vI (z.1.1:Int)))]) (fun z=>[(bw (aV sG z.1.2.1 z.1.2.2.1)),(own z.1.2.2.2.1 z.1.2.2.2.2.1 32 1 (List.zipWith l3 z.1.2.1 z.1.2.2.1))]) (fun _=>rfl) (fun _=>rfl) (fun z=>(er (fun u=>(aA (aF r) u).Lo) (df ((aF r).map (·.1)))).length-z.1.1) ⟨(0,([]:List (List Int)),([]:List RA),none,0,(-1)),H⟩ (aT U) (aH [2,3,5,6,7,8,9,11,12,13,14,15,16,17,18,19,0,1]) ?_
 clear H
 rintro ⟨⟨i,G,gz,a,c,last⟩,⟨b,C,A,d⟩⟩ J37 T
 try dsimp only at b C A d
 try dsimp only
 have Gr:G.length≤12:=by have:=F8 A; omega
 have LT:(G++[([]:List Int)]).length=G.length+1:=by simp
 have Jm:(gz++[((none,0):RA)]).length=gz.length+1:=by simp
 refine WS fun _ Al=>rP 1 [] mn ?_
 refine RK Al<|ah fun _ A0=>bK U (aM fun GE=>?_) (aL fun GE=>?_)
 ·refine bu<|ab<|ab<|au<|KK AC<|ah fun _ A8=>ah fun _ A9=>?_
  have Gr:G.length≤12:=by have:=F8 A; omega
  refine aj<|rP 3 [] mn ?_
  refine RK A9<|av ?_
  have H:(0≤G.length):=by exact Nat.zero_le _
  refine bH (ι:={z:Nat // (z≤G.length)}) [1,6,66,67] [0,1,3,4,5,6,7,8,9,10,11,12,13,14,15,17] U U (fun z=>[(68,(vI (z.1:Int)))]) (fun z=>[(bw (aV sG (nj G z.1) gz))]) (fun _=>rfl) (fun _=>rfl) (fun z=>G.length-z.1) ⟨0,H⟩ (aT U) (aH [0,1,3,4,5,6,7,8,9,10,11,12,13,14,15,17,16]) ?_
  clear H
  rintro ⟨j,Eq⟩ J65 h
  try dsimp only
  refine WS fun _ Bi=>rP 1 [] mn ?_
  refine RK Bi<|ah fun _ B3=>bK U (aM fun GT=>?_) (aL fun GT=>?_)
  ·refine bu<|ab<|ab<|au<|KK A8<|ah fun _ Ci=>?_
   have H1:G.length≤j:=by omega
   have Y:=vl A.ok
   rw [List.take_of_length_le I] at Y
   have E:G.map df=cd r:=qt he (qF Y.1 (qj.trans fx)) Y.2
   have Z:gz.length=(cd r).length:=by rw [← E,List.length_map]; omega
   rw [DA H1,E,← Jz,E]
   refine aj<|bf 1 U<|rP 2 [] mn ?_
   refine RK Ci<|an ?_
   refine LX hQ (gz,a,c) [15,16] [] mn U (by show List.all _ _=true; simp only [fB,List.all_nil,Ls,Bool.and_true]; rfl) U ?_ ?_
   ·first|rfl|(rw [E]; rfl)|(rw [he,← E,List.length_map]; rfl)|(rw [he,E]; rfl)
   ·exact Z
  refine WK B3<|ah fun _ B7=>av<|ah fun _ B9=>?_
  obtain ⟨cg,B⟩:=aJ G j I
  obtain ⟨cga,D⟩:=aJ gz j I
  have F:(List.zipWith l3 G gz)[j]? =some (l3 cg cga):=dA B D
  refine ES (f:=sG) 16 (HU B) D U U U ?_
  try dsimp only
  refine aj<|rS (IA j U (ai (n:=G.length) 17 U (iy C)) nW dc I I)<|rS (fV j 0 (vS cga.1 cg.length cga.2) U bX (ai (n:=G.length) 17 U (iy C)) F U dc U)<|bf 1 U<|RK B9<|aj<|rP 1 [] mn ?_
  refine iQ 0 U U U U (Af cg cga.1 cga.2 (by have:=zV A (aR B); omega)) U kh U (fun msrt C3=>?_)
  try dsimp only
  refine aC<|aG<|KK B7<|aj<|rP 2 [] mn ?_
  refine aC ?_
  obtain rfl:=qM C3.1 C3.2
  refine OK (f:=sG) (ms:=nj G j) (m:=df cg) 1 0 (by rw [Ed]; omega) D U U U ?_
  rw [DI B]
  have C1:(vI (((j+1):Nat):Int))=(vI ((j:Int)+1)):=by exact cI I
  refine aS (h ⟨(j+1),(by first|omega|(simp only []; omega))⟩ _ _ _ U os (ct 4<|aX U C1<|dh.nil _) (aH [1,2,3,4,5,6,7,8,9,10,11,12,13,14,15,16,0]))
 refine WK A0<|ah fun _ AA=>av<|WS fun _ A1=>?_
 obtain ⟨x,hx⟩:=aJ (er (fun u=>(aA (aF r) u).Lo) (df ((aF r).map (·.1)))) i I
 have IR:=bG iC hx
 refine rS (IA i U (ai (n:=(er (fun u=>(aA (aF r) u).Lo) (df ((aF r).map (·.1)))).length) 0 U sm) cp dc I I)<|rS (fV i 0 (vI x) U bX (ai (n:=(er (fun u=>(aA (aF r) u).Lo) (df ((aF r).map (·.1)))).length) 0 U sm) IR U dc U)<|bf 1 U<|RK A1<|WS fun _ A2=>fw 1 [] (mc 2 U mn) U<|rS (SX (bI U U) U U)<|rP 2 [] (mc 3 U mn) ?_
 have IO:=gM (i:=x) AB
 refine rP 1 [] mn ?_
 refine rS (SX (jO (kV:=iV) (x:=x) (l:=(aF r)) (f:=dw) (z:=(aa.mk 0 0)) U U U mm (dC oJ) vz (by exact aD 6 U)) U U)<|AL U de fun K0=>fP U cm U<|RK A2<|ah fun _ V=>WS fun _ A3=>?_
 rw [show ((List.lookup x (aF r)).getD (aa.mk 0 0))=(aA (aF r) x) from rfl]
 refine rP 4 [] (mc 0 U mn) ?_
 refine RK A3<|bK U (aM fun N=>?_) (aL fun N=>?_)
 ·refine WK V<|ah fun _ A6=>?_
  have La:1≤G.length:=Fe IO.1 A N
  refine aj<|rP 4 [] mn ?_
  refine RK A6<|ah fun _ A7=>?_
  have G2:(G.length-1)<G.length:=by first|omega|(simp; done)
  obtain ⟨cg,B⟩:=aJ G (G.length-1) I
  obtain ⟨cga,D⟩:=aJ gz (G.length-1) I
  have F:(List.zipWith l3 G gz)[(G.length-1)]? =some (l3 cg cga):=dA B D
  refine ES (f:=sG) 17 B D U U U ?_
  try dsimp only
  refine aj<|bf 4 U<|rS (IA (G.length-1) U (ai (n:=G.length) 19 U (iy C)) nW dc I I)<|rS (fV (G.length-1) 0 (vS cga.1 cg.length cga.2) U bX (ai (n:=G.length) 19 U (iy C)) F U dc U)<|rP 1 [] mn ?_
  have Go:cg.length≤12:=(List.mem_append.1 (show cg∈G++[[]] from by first|exact aR B|exact List.mem_append_left _ (aR B))).elim (fun q=>by have:=zV A q; omega) (fun q=>by simp at q; subst q; simp)
  refine cY (xs:=[.tmp 57]) (cs:=[(vI x)]) U cp jf U U U U (by simp [Value.cells]) U U fun K8=>?_
  refine db (es2:=(List.map iC (cg++[x]))) (m':=(cg++[x]).length) 1 U U U p5 U U sm (aZ (es:=List.map iC [x]) 0 U U (by simp [bB]) U) (kd _) os (by first|(simp only [maxLen]; omega)|(simp [maxLen]; omega)) sm sm U fun K M=>?_
  try dsimp only
  refine rS (IA (G.length-1) U (ai (n:=G.length) 20 U (iy C)) nW dc I I)<|ew (k:=(G.length-1)) (o:=0) (vs:=[(vS K ((cg++[x]).length) M)]) (es':=(List.zipWith l3 (G.set (G.length-1) (cg++[x])) (gz.set (G.length-1) (K,M)))) (C':=[_,_,_,_,_,_,_,_,_,_,_,_,_,_,_,_,_,_,_,_,(own a c 32 1 (List.zipWith l3 (G.set (G.length-1) (cg++[x])) (gz.set (G.length-1) (K,M))))]) 20 U U U zS U U U U F U dc (by exact qG (c:=l3) (m:=(cg++[x])) (a:=(K,M))) U<|FQ (f:=sG) (ms:=G) (asl:=gz) (m:=(cg++[x])) (a:=(K,M)) 2 1 I I U U U<|RK A7<|aj<|fw 3 [] (mc 2 U mn) U<|rS (MX U)<|bf 1 U<|aC<|aG<|KK AA<|aj<|rP 2 [] mn ?_
  refine aC ?_
  have Cx:(vS a ((G.set (G.length-1) (cg++[x])).length) c)=(vS a G.length c):=by rw [List.length_set]
  have C0:(vI (((i+1):Nat):Int))=(vI ((i:Int)+1)):=by exact cI I
  refine aS (T ⟨((i+1),(G.set (G.length-1) (cg++[x])),(gz.set (G.length-1) (K,M)),a,c,(max last ((aA (aF r) x).Hi))),⟨I,by simp; omega,by first|exact pI I hx B A N|exact oD I (fun u _=>(gM (i:=u) AB).2.1) Di hx B A N,dso⟩⟩ _ _ _ U os (ct 4<|aX U Cx<|dh.cons U<|aX U C0<|dh.nil _) (aH [3,4,5,6,7,8,9,10,11,12,13,14,15,16,17,18,0,19]))
 refine aj<|rP 1 [] mn ?_
 refine cY (xs:=[.const (vS none 0 0)]) (cs:=[(vS none 0 0)]) U nW vM U U U U (by simp [Value.cells]) U U fun K4=>?_
 refine db (es2:=(List.zipWith l3 (G++[[]]) (gz++[(none,0)]))) (m':=(G++[[]]).length) 19 rfl rfl rfl US rfl rfl (iy C).symm (aZ (es:=List.zipWith l3 [[]] [(none,0)]) 0 rfl rfl (by intro e he; simp [l3] at he; subst he; rfl) rfl) (Nf _ _) I (by simp only [maxLen]; omega) (HF I) (by simp; omega) rfl fun P S=>?_
 try dsimp only
 refine dH 3 1<|P3 (Y':=aV sG (G++[[]]) (gz++[(none,0)])) 19 0 U U (E7 I U)<|bf 1 U<|RK V<|WS fun _ A4=>rP 4 [] mn ?_
 refine RK A4<|ah fun _ A5=>?_
 have G2:((G++[[]]).length-1)<(G++[[]]).length:=by first|omega|(simp; done)
 obtain ⟨cg,B⟩: ∃ y_,(G++[[]])[((G++[[]]).length-1)]? =some y_:=⟨(G++[[]])[((G++[[]]).length-1)]'I,eC _⟩
 obtain ⟨cga,D⟩: ∃ y_,(gz++[(none,0)])[((G++[[]]).length-1)]? =some y_:=⟨(gz++[(none,0)])[((G++[[]]).length-1)]'I,eC _⟩
 have F:(List.zipWith l3 (G++[[]]) (gz++[(none,0)]))[((G++[[]]).length-1)]? =some (l3 cg cga):=dA B D
 refine ES (f:=sG) 0 B D U U U ?_
 try dsimp only
 refine aj<|rP 4 [] mn ?_
 refine rS (IA ((G++[[]]).length-1) U (ai (n:=(G++[[]]).length) 20 U (iy (by simp; omega))) nW dc I I) ?_
 refine rS (fV ((G++[[]]).length-1) 0 (vS cga.1 cg.length cga.2) U bX (ai (n:=(G++[[]]).length) 20 U (iy (by simp; omega))) F U dc U) ?_
 refine rP 1 [] mn ?_
 have Go:cg.length≤12:=(List.mem_append.1 (show cg∈G++[[]] from by first|exact aR B|exact List.mem_append_left _ (aR B))).elim (fun q=>by have:=zV A q; omega) (fun q=>by simp at q; subst q; simp)
 refine cY (xs:=[.tmp 57]) (cs:=[(vI x)]) U cp jf U U U U (by simp [Value.cells]) U U fun K5=>?_
 refine db (es2:=(List.map iC (cg++[x]))) (m':=(cg++[x]).length) 1 U U U p5 U U sm (aZ (es:=List.map iC [x]) 0 U U (by simp [bB]) U) (kd _) os (by first|(simp only [maxLen]; omega)|(simp [maxLen]; omega)) sm sm U fun J L=>?_
 try dsimp only
 refine rS (IA ((G++[[]]).length-1) U (ai (n:=(G++[[]]).length) 21 U (iy (by simp; omega))) nW dc I I) ?_
 refine ew (k:=((G++[[]]).length-1)) (o:=0) (vs:=[(vS J ((cg++[x]).length) L)]) (es':=(List.zipWith l3 ((G++[[]]).set ((G++[[]]).length-1) (cg++[x])) ((gz++[(none,0)]).set ((G++[[]]).length-1) (J,L)))) (C':=[_,_,_,_,_,_,_,_,_,_,_,_,_,_,_,_,_,_,_,_,_,(own P S 32 1 (List.zipWith l3 ((G++[[]]).set ((G++[[]]).length-1) (cg++[x])) ((gz++[(none,0)]).set ((G++[[]]).length-1) (J,L))))]) 21 U U U zS U U U U F U dc (by exact qG (c:=l3) (m:=(cg++[x])) (a:=(J,L))) U<|FQ (f:=sG) (ms:=(G++[[]])) (asl:=(gz++[(none,0)])) (m:=(cg++[x])) (a:=(J,L)) 2 1 I I U U U<|RK A5<|aj<|fw 3 [] (mc 3 U mn) U<|rS (MX U)<|bf 1 U<|aC<|aG<|KK AA<|aj<|rP 2 [] mn ?_
 refine aC ?_
 have Ck:(vS P (((G++[[]]).set ((G++[[]]).length-1) (cg++[x])).length) S)=(vS P ((G++[[]]).length) S):=by rw [List.length_set]
 have Cp:(vI (((i+1):Nat):Int))=(vI ((i:Int)+1)):=by exact cI I
 refine aS (T ⟨((i+1),((G++[[]]).set ((G++[[]]).length-1) (cg++[x])),((gz++[(none,0)]).set ((G++[[]]).length-1) (J,L)),P,S,(max last ((aA (aF r) x).Hi))),⟨I,by simp; omega,by first|exact pI I hx B A N|exact oD I (fun u _=>(gM (i:=u) AB).2.1) Di hx B A N,dso⟩⟩ _ _ _ U os (ct 4<|aX U Ck<|dh.cons U<|aX U Cp<|dh.nil _) (aH [4,5,6,7,8,9,10,11,12,13,14,15,16,17,18,19,0,20]))
end
section
theorem TN.sub {E:eY} {ops:Array Oper} {Q:cU} {D:List Deferred} {C' C1 C:List aq} {tb rem:List Nat}: ∀ {n:Nat} {L L':List (Nat×Value)},dh L L'→TN E ops D C' C1 (fun L C=>KJ E (Q .normal) D L C) tb n rem L' C→TN E ops D C' C1 (fun L C=>KJ E (Q .normal) D L C) tb n rem L C:=by
 intro n
 cases n with
 |zero=>intro L L' hs h; exact jE hs (fun _ h=>h) h
 |succ n=>intro L L' hs h i hi o ho K hK; exact OU hs (fun _ h=>h) (h i hi o ho K hK)
theorem MU {E:eY} {ops:Array Oper} {Q:cU} {D:List Deferred} {C' C1 C:List aq} {bs:List Bool} {os:List Oper} {L:List (Nat×Value)} {tb rem:List Nat} {n:Nat} {t:Nat} {b:Bool} (h:L.lookup t=some (.bool b))
 (h1:b=true→p7 E ops D C' C1 (fun L'=>TN E ops D C' C1 (fun L C=>KJ E (Q .normal) D L C) tb n rem L' C) bs os ((t,.bool true)::L)) (h2:b=false→p7 E ops D C' C1 (fun L'=>TN E ops D C' C1 (fun L C=>KJ E (Q .normal) D L C) tb n rem L' C) bs os ((t,.bool false)::L)):
 p7 E ops D C' C1 (fun L'=>TN E ops D C' C1 (fun L C=>KJ E (Q .normal) D L C) tb n rem L' C) bs os L:=by
 have A: ∀ v:Bool,b=v→dh L ((t,.bool v)::L):=fun v hv=>dh.cons (hv▸h) (fun _ _ h=>h)
 cases b
 ·exact p7.mono (fun _ _=>TN.sub) (A _ U) (h2 U)
 ·exact p7.mono (fun _ _=>TN.sub) (A _ U) (h1 U)
theorem Ki {E:eY} {ops:Array Oper} {Q:cU} {D:List Deferred} {L:List (Nat×Value)} {C1 C2 C:List aq} {t n:Nat} {b:Bool} {bs:List Bool} {os:List Oper} {tb rem:List Nat} (h:L.lookup t=some (.bool b)) (h2:b=false→p7 E ops D C2 C1 (fun L2=>TN E ops D C2 C1 (fun L C=>KJ E (Q .normal) D L C) tb n rem L2 C) bs os ((t,.bool false)::L)) (h1:b=true→p7 E ops D C2 C1 (fun L2=>TN E ops D C2 C1 (fun L C=>KJ E (Q .normal) D L C) tb n rem L2 C) bs os ((t,.bool true)::L)):p7 E ops D C2 C1 (fun L2=>TN E ops D C2 C1 (fun L C=>KJ E (Q .normal) D L C) tb n rem L2 C) bs os L:=MU h h1 h2
end
section
open Go.RowKit
/-- a row is taken that was made before; an operation -/
inductive fy where
 |take (i:Nat)
 |op (j:Nat)
def fy.ix:fy→Nat
 | .take i=>i
 | .op j=>j
def Bx (dO:Nat→Nat):List fy→List Nat
 |[]=>[]
 | .take i::s=>dO i::Bx dO s
 | .op _::s=>Bx dO s
theorem tS {dO:Nat→Nat} {i:Nat}: ∀ {s:List fy},fy.take i∈s→dO i∈Bx dO s
 | .take k::s,h=>by
  rcases List.mem_cons.1 h with e|h
  ·cases e; exact cb ..
  ·exact cR _ (tS h)
 | .op k::s,h=>by
  rcases List.mem_cons.1 h with e|h
  ·cases e
  ·exact tS (s:=s) h
def rB (m:Array Nat) (dO:Nat→Nat) (x y:fy):Bool:=x.ix != y.ix&&(match y with | .op j=>im m x.ix j| .take i=>match x with | .take k=>dO k != dO i| .op _=>true)
def TY (m:Array Nat) (dO:Nat→Nat):List fy→Bool
 |[]=>true
 |x::s=>s.all (rB m dO x)&&TY m dO s
theorem F7 {m:Array Nat} {dO:Nat→Nat}: ∀ {s:List fy},TY m dO s=true→s.Pairwise fun x y=>rB m dO x y=true
 |[],_=>List.Pairwise.nil
 |x::s,h=>by
  simp only [TY,cG] at h
  exact List.Pairwise.cons (fun y hy=>List.all_eq_true.1 h.1 y hy) (F7 h.2)
/-- what is known of the slots B is known in L -/
def Ch (B L:List (Nat×Value)):Prop:= ∀ t v,B.lookup t=some v→L.lookup t=some v
theorem vX {B L:List (Nat×Value)} (h:B.map (fun p=>L.lookup p.1)=B.map (fun p=>some p.2)):Ch B L:=by
 induction B with
 |nil=>intro t v h; simp at h
 |cons p B ih=>
  obtain ⟨k,u⟩:=p
  simp only [List.map_cons,List.cons.injEq] at h
  intro t v hl
  by_cases e:t=k
  ·subst e
   simp only [List.lookup,beq_self_eq_true,Option.some.injEq] at hl
   rw [h.1,hl]
  ·have:(t==k)=false:=by simpa using e
   simp only [List.lookup,this] at hl
   exact ih h.2 t v hl
theorem nR {L Y:List (Nat×Value)} {t:Nat}:(L++Y).lookup t=match L.lookup t with |some v=>some v|none=>Y.lookup t:=by
 induction L with
 |nil=>rfl
 |cons p L ih=>
  obtain ⟨k,u⟩:=p
  by_cases e:t==k
  ·simp [List.lookup,e]
  ·have:(t==k)=false:=by simpa using e
   simp only [List.cons_append,List.lookup,this,ih]
theorem Ch.app {B L Y:List (Nat×Value)} (h:Ch B L):Ch B (L++Y):=fun t v ht=>by rw [nR,h t v ht]
theorem PN {B L:List (Nat×Value)} (h:Ch B L) {x:Operand} {v:Value} (hv:ev B x=some v):ev L x=some v:=by
 cases x<;>simp only [ev] at hv ⊢ <;>first|exact h _ _ hv|exact hv
theorem Gl {B L:List (Nat×Value)} (h:Ch B L): ∀ {xs:List Operand} {vs:List Value},evs B xs=some vs→evs L xs=some vs
 |[],vs,hv=>hv
 |x::xs,vs,hv=>by
  simp only [evs] at hv ⊢
  cases e1:ev B x with
  |none=>rw [e1] at hv; simp at hv
  |some v=>
   cases e2:evs B xs with
   |none=>rw [e1,e2] at hv; simp at hv
   |some us=>
    rw [e1,e2] at hv
    rw [PN h e1,Gl h e2]; exact hv
section
variable (E:eY) (ops:Array Oper) (D:List Deferred) (C':List aq) (K0:Act→World→Prop) (B:List (Nat×Value)) (dO:Nat→Nat) (VO:Nat→Nat→Value) (AO:Nat→Nat→aq)
def CH:List fy→List (Nat×Value)→List aq→Prop
 |[],L,C=>KJ E K0 D L C
 | .take i::s,L,C=> ∀ b,CH s ((dO i,VO i b)::L) (AO i b::C)
 | .op j::s,L,C=> ∀ o,ops[j]? =some o→ ∀ (Y:List (Nat×Value)) (X:List aq) (K:Act→World→Prop),(∀ L' C'',(∀ w,St E.S E.w0 C'' w→St E.S E.w0 C' w)→((Bx dO s).all fun d=>(L'.lookup d).isNone)=true→B.map (fun p=>L'.lookup p.1)=B.map (fun p=>some p.2)→CH s L' C''→KJ E K D (L'++Y) (C''++X))→RJ E ops (NQ K) [o] D (L++Y) (C++X)
/-- a row that is made at any time -/
def SA (i:Nat):Prop:= ∀ o,ops[i]? =some o→ ∀ (L:List (Nat×Value)) (C:List aq) (K:Act→World→Prop),Ch B L→(∀ b,KJ E K D ((dO i,VO i b)::L) (AO i b::C))→RJ E ops (NQ K) [o] D L C
end
section
variable {E:eY} {ops:Array Oper} {D:List Deferred} {C' C1:List aq} {K0:Act→World→Prop} {B:List (Nat×Value)} {dO:Nat→Nat} {VO:Nat→Nat→Value} {AO:Nat→Nat→aq}
theorem Fp {Q:cU} {rest:List Oper} {L L2:List (Nat×Value)} {C C2:List aq} (hL: ∀ a,Fr E.n D L a→Fr E.n D L2 a) (hC: ∀ w,St E.S E.w0 C w→St E.S E.w0 C2 w) (h:RJ E ops Q rest D L2 C2):RJ E ops Q rest D L C:=fun a w hf hs=>h a w (hL a hf) (hC w hs)
theorem zQ {K:Act→World→Prop} {L L2:List (Nat×Value)} {C C2:List aq} (hL: ∀ a,Fr E.n D L a→Fr E.n D L2 a) (hC: ∀ w,St E.S E.w0 C w→St E.S E.w0 C2 w) (h:KJ E K D L2 C2):KJ E K D L C:=fun a w hf hs=>h a w (hL a hf) (hC w hs)
theorem Bj {n:Nat} {L L2:List (Nat×Value)} (h: ∀ t v,L2.lookup t=some v→L.lookup t=some v) (a:Act) (hf:Fr n D L a):Fr n D L2 a:=⟨hf.defers,hf.size,fun t v ht=>hf.at_ t v (h t v ht)⟩
theorem Ea: ∀ (T0 s':List fy) (dn:List (Nat×Nat)) (L Y:List (Nat×Value)) (C:List aq),(∀ x∈T0,∃ i b,x= .take i∧(i,b)∈dn)→(T0++s').Pairwise (fun x y=>rB (pV ops) dO x y=true)→(dn.map (·.1)).Nodup→(∀ p∈dn,fy.take p.1∈T0++s')→(∀ p∈dn,Y.lookup (dO p.1)=some (VO p.1 p.2))→(∀ i,fy.take i∈T0++s'→L.lookup (dO i)=none)→
 CH E ops D C' K0 B dO VO AO (T0++s') L C→ ∃ (dn':List (Nat×Nat)) (L':List (Nat×Value)) (C2:List aq),CH E ops D C' K0 B dO VO AO s' L' C2∧(dn'.map (·.1)).Nodup∧(∀ p,p∈dn'↔p∈dn∧fy.take p.1∈s')∧(∀ t v,(L'++Y).lookup t=some v→(L++Y).lookup t=some v)∧(∀ i,fy.take i∈s'→L'.lookup (dO i)=none)∧(∀ w,St E.S E.w0 (C++dn.map fun p=>AO p.1 p.2) w→St E.S E.w0 (C2++dn'.map fun p=>AO p.1 p.2) w)
 |[],s',dn,L,Y,C,_,_,hn,hm,_,hl,h=>⟨dn,L,C,h,hn,fun p=>⟨fun q=>⟨q,hm p q⟩,fun q=>q.1⟩,fun t v q=>q,hl,fun w q=>q⟩
 |x::T0,s',dn,L,Y,C,ht,hp,hn,hm,hy,hl,h=>by
  obtain ⟨i,b,rfl,hb⟩:=ht x (cb ..)
  obtain ⟨J,P⟩:=List.pairwise_cons.1 hp
  have AB: ∀ y∈T0++s',i≠y.ix:=fun y hy e=>by
   have:=J y hy
   simp only [rB,cG,bne_iff_ne,fy.ix] at this
   exact this.1 e
  have N: ∀ k,fy.take k∈T0++s'→dO k≠dO i:=fun k hk e=>by
   have:=J _ hk
   simp only [rB,cG,bne_iff_ne] at this
   exact this.2 e.symm
  have K:dn.Perm ((i,b)::dn.erase (i,b)):=List.perm_cons_erase hb
  have H:((dn.erase (i,b)).map (·.1)).Nodup∧i ∉ (dn.erase (i,b)).map (·.1):=by
   have:=(K.map (·.1)).nodup_iff.1 hn
   exact ⟨(List.nodup_cons.1 this).2,(List.nodup_cons.1 this).1⟩
  have A: ∀ p∈dn.erase (i,b),p∈dn∧p.1≠i:=fun p hp=>⟨List.mem_of_mem_erase hp,fun e=>by have q:=List.mem_map_of_mem (f:=fun p:Nat×Nat=>p.1) hp; simp only [e] at q; exact H.2 q⟩
  have O:L.lookup (dO i)=none:=hl i (cb ..)
  obtain ⟨dn',L',C2,R,T,AA,V,W,X⟩:=Ea T0 s' (dn.erase (i,b)) ((dO i,VO i b)::L) Y (AO i b::C) (fun x hx=>by
   obtain ⟨k,c,rfl,hk⟩:=ht x (cR _ hx)
   refine ⟨k,c,U,?_⟩
   have F:k≠i:=fun e=>AB _ (List.mem_append_left _ hx) e.symm
   exact (List.mem_erase_of_ne (fun e=>F (congrArg Prod.fst e))).2 hk) P H.1 (fun p hp=>by
   obtain ⟨M,G⟩:=A p hp
   rcases List.mem_cons.1 (hm p M) with e|e
   ·injection e with e; exact absurd e G
   ·exact e) (fun p hp=>hy p (A p hp).1) (fun k hk=>by
   have:(dO k==dO i)=false:=by simpa using N k hk
   simp only [List.lookup,this]
   exact hl k (cR _ hk)) (h b)
  refine ⟨dn',L',C2,R,T,fun p=>?_,fun t v hv=>?_,W,fun w hw=>X w ?_⟩
  ·rw [AA]
   constructor
   ·rintro ⟨M,G⟩; exact ⟨(A p M).1,G⟩
   ·rintro ⟨M,G⟩
    have F:p.1≠i:=fun e=>AB _ (List.mem_append_right _ G) e.symm
    exact ⟨(List.mem_erase_of_ne (fun e=>F (congrArg Prod.fst e))).2 M,G⟩
  ·have:=V t v hv
   rw [nR] at this ⊢
   by_cases e:t=dO i
   ·subst e
    simp only [List.lookup,beq_self_eq_true] at this
    rw [O]; simp only
    rw [hy _ hb]; exact this
   ·have Q:(t==dO i)=false:=by simpa using e
    simp only [List.lookup,Q] at this
    exact this
  ·refine hw.perm ?_
   show (C++dn.map fun p=>AO p.1 p.2).Perm (AO i b::(C++(dn.erase (i,b)).map fun p=>AO p.1 p.2))
   refine ((K.map fun p:Nat×Nat=>AO p.1 p.2).append_left C).trans ?_
   exact List.perm_middle
theorem Bm: ∀ (s:List fy) (j:Nat),fy.op j∈s→ ∃ T0 k s',s=T0++fy.op k::s'∧ ∀ x∈T0,∃ i,x=fy.take i
 | .take i::s,j,h=>by
  rcases List.mem_cons.1 h with e|h
  ·cases e
  ·obtain ⟨T0,k,s',rfl,A⟩:=Bm s j h
   exact ⟨.take i::T0,k,s',U,fun x hx=>by
    rcases List.mem_cons.1 hx with rfl|hx
    ·exact ⟨i,U⟩
    ·exact A x hx⟩
 | .op k::s,j,_=>⟨[],k,s,rfl,fun x hx=>by cases hx⟩
def ks (s:List fy) (dn:List (Nat×Nat)):List Nat:=(s.map fy.ix).filter fun i=> !(dn.map (·.1)).contains i
theorem qT {s:List fy} {dn:List (Nat×Nat)} {i:Nat}:i∈ks s dn↔(∃ x∈s,x.ix=i)∧ ∀ p∈dn,p.1≠i:=by
 unfold ks
 rw [List.mem_filter,ua]
 refine and_congr Iff.rfl ?_
 rw [Bool.not_eq_true',← Bool.not_eq_true,List.contains_iff_mem,ua]
 constructor
 ·intro h p hp e; exact h ⟨p,hp,e⟩
 ·rintro h ⟨p,hp,e⟩; exact h p hp e
theorem qH (hal: ∀ i,SA E ops D B dO VO AO i∨True): ∀ (n:Nat) (s:List fy) (dn:List (Nat×Nat)) (L Y:List (Nat×Value)) (C:List aq),(∀ i,fy.take i∈s→SA E ops D B dO VO AO i)→s.Pairwise (fun x y=>rB (pV ops) dO x y=true)→(ks s dn).length=n→(dn.map (·.1)).Nodup→(∀ p∈dn,fy.take p.1∈s)→(∀ p∈dn,Y.lookup (dO p.1)=some (VO p.1 p.2))→(∀ i,fy.take i∈s→L.lookup (dO i)=none)→Ch B L→
 (∀ w,St E.S E.w0 C w→St E.S E.w0 C' w)→CH E ops D C' K0 B dO VO AO s L C→TN E ops D C' C1 (fun L C=>KJ E K0 D L C) [] n (ks s dn) (L++Y) (C++dn.map fun p=>AO p.1 p.2)
 |0,s,dn,L,Y,C,_,hp,hlen,hn,hm,hy,hl,hB,hC,h=>by
  have hr:ks s dn=[]:=jD hlen
  have Q: ∀ x∈s,∃ i b,x=fy.take i∧(i,b)∈dn:=fun x hx=>by
   have hx':x.ix ∉ ks s dn:=by rw [hr]; exact List.not_mem_nil
   rw [qT] at hx'
   have: ∃ p∈dn,p.1=x.ix:=by
    apply Classical.byContradiction
    intro q
    exact hx' ⟨⟨x,hx,U⟩,fun p hp e=>q ⟨p,hp,e⟩⟩
   obtain ⟨p,T,AA⟩:=this
   have ht:=hm p T
   rcases List.mem_iff_getElem.1 hx with ⟨a,ha,ea⟩
   rcases List.mem_iff_getElem.1 ht with ⟨c,hc,ec⟩
   have d:a=c:=by
    rcases Nat.lt_trichotomy a c with q|q|q
    ·have:=List.pairwise_iff_getElem.1 hp a c ha hc q
     simp only [rB,cG,bne_iff_ne,ea,ec] at this
     exact absurd AA.symm this.1
    ·exact q
    ·have:=List.pairwise_iff_getElem.1 hp c a hc ha q
     simp only [rB,cG,bne_iff_ne,ea,ec] at this
     exact absurd AA this.1
   subst d
   exact ⟨p.1,p.2,by rw [← ea,ec],T⟩
  obtain ⟨dn',L',C2,V,J,O,W,h5,X⟩:=Ea s [] dn L Y C Q (by simpa using hp) hn (by simpa using hm) hy (by simpa using hl) (by simpa using h)
  show KJ E K0 D _ _
  have hd:dn'=[]:=List.eq_nil_iff_forall_not_mem.2 fun p hp=>by have:=((O p).1 hp).2; cases this
  subst hd
  refine zQ (L2:=L') (C2:=C2) (fun a hf=>Bj (fun t v ht=>W t v (by rw [nR,ht])) a hf) (fun w hw=>by have:=X w hw; simpa using this) V
 |n+1,s,dn,L,Y,C,hal',hp,hlen,hn,hm,hy,hl,hB,hC,h=>by
  intro i hi o ho K hK
  obtain ⟨G,m⟩:=List.mem_filter.1 hi
  obtain ⟨⟨x,hx,rfl⟩,H⟩:=qT.1 G
  have A: ∀ k∈ks s dn,im (pV ops) k x.ix=false:=fun k hk=>by
   have:=List.all_eq_true.1 m k hk
   simpa using this
  cases x with
  |take i=>
   simp only [fy.ix] at H A ho hK G ⊢
   refine hal' i hx o ho _ _ K hB.app fun b=>?_
   have l:=hl i hx
   have AB:(ks s dn).filter (· != i)=ks s ((i,b)::dn):=by
    unfold ks
    rw [List.filter_filter]
    apply List.filter_congr
    intro k _
    simp only [List.map_cons,List.contains_cons,Bool.not_or]
    rfl
   have N:(ks s dn).Nodup:=by
    unfold ks
    refine List.Nodup.sublist List.filter_sublist<|List.pairwise_map.2 (hp.imp fun {a c} q=>?_)
    simp only [rB,cG,bne_iff_ne] at q
    exact q.1
   have M: ∀ k,fy.take k∈s→k≠i→dO k≠dO i:=fun k hk AC e=>by
    rcases List.mem_iff_getElem.1 hx with ⟨a,ha,ea⟩
    rcases List.mem_iff_getElem.1 hk with ⟨c,hc,ec⟩
    rcases Nat.lt_trichotomy a c with q|q|q
    ·have:=List.pairwise_iff_getElem.1 hp a c ha hc q
     simp only [rB,cG,bne_iff_ne,ea,ec] at this
     exact this.2 e.symm
    ·subst q; rw [ea] at ec; cases ec; exact AC rfl
    ·have:=List.pairwise_iff_getElem.1 hp c a hc ha q
     simp only [rB,cG,bne_iff_ne,ea,ec] at this
     exact this.2 e
   refine zQ (L2:=L++((dO i,VO i b)::Y)) (C2:=C++((i,b)::dn).map fun p=>AO p.1 p.2) (fun a hf=>Bj (fun t v ht=>?_) a hf) (fun w hw=>hw.perm (List.perm_middle).symm) (hK _ _ (fun w hw=>hC w (hw.take (List.sublist_append_left _ _))) (fun q=>by cases q) ?_)
   ·rw [nR] at ht
    by_cases e:t=dO i
    ·subst e
     rw [l] at ht
     simp only [List.lookup,beq_self_eq_true] at ht ⊢
     exact ht
    ·have e2:(t==dO i)=false:=by simpa using e
     simp only [List.lookup,e2] at ht ⊢
     rw [nR]; exact ht
   ·rw [AB]
    refine qH hal n s ((i,b)::dn) L ((dO i,VO i b)::Y) C hal' hp ?_ (List.nodup_cons.2 ⟨fun q=>?_,hn⟩) (fun p hp'=>?_) (fun p hp'=>?_) hl hB hC h
    ·rw [← AB,← List.Nodup.erase_eq_filter N,List.length_erase_of_mem G,hlen]; rfl
    ·obtain ⟨p,hp',e⟩:=List.mem_map.1 q
     exact H p hp' e
    ·rcases List.mem_cons.1 hp' with rfl|hp'
     ·exact hx
     ·exact hm p hp'
    ·rcases List.mem_cons.1 hp' with rfl|hp'
     ·simp [List.lookup]
     ·have:(dO p.1==dO i)=false:=by simpa using M p.1 (hm p hp') (H p hp')
      simp only [List.lookup,this]
      exact hy p hp'
  |op j=>
   simp only [fy.ix] at H A ho hK G ⊢
   obtain ⟨T0,k,s',rfl,hT⟩:=Bm s j hx
   obtain ⟨q1,q2,q3⟩:=List.pairwise_append.1 hp
   obtain ⟨q4,q5⟩:=List.pairwise_cons.1 q2
   have R: ∀ k',fy.op k'∈T0++fy.op k::s'→k'∈ks (T0++fy.op k::s') dn:=fun k' hk'=>by
    refine qT.2 ⟨⟨_,hk',U⟩,fun p hp' e=>?_⟩
    have ht:=hm p hp'
    rcases List.mem_iff_getElem.1 hk' with ⟨a,ha,ea⟩
    rcases List.mem_iff_getElem.1 ht with ⟨c,hc,ec⟩
    rcases Nat.lt_trichotomy a c with q|q|q
    ·have:=List.pairwise_iff_getElem.1 hp a c ha hc q
     simp only [rB,cG,bne_iff_ne,ea,ec,fy.ix] at this
     exact this.1 e.symm
    ·subst q; rw [ea] at ec; cases ec
    ·have:=List.pairwise_iff_getElem.1 hp c a hc ha q
     simp only [rB,cG,bne_iff_ne,ea,ec,fy.ix] at this
     exact this.1 e
   have Ah:k=j:=by
    apply Classical.byContradiction
    intro Al
    have hj':fy.op j∈s':=by
     rcases List.mem_append.1 hx with q|q
     ·obtain ⟨i,e⟩:=hT _ q; cases e
     ·rcases List.mem_cons.1 q with e|q
      ·injection e with e; exact absurd e.symm Al
      ·exact q
    have:=q4 _ hj'
    simp only [rB,cG,fy.ix] at this
    have J:=A k (R k sm)
    rw [this.2] at J; cases J
   subst Ah
   have F: ∀ x∈T0,∃ i b,x=fy.take i∧(i,b)∈dn:=fun x hx'=>by
    obtain ⟨i,rfl⟩:=hT x hx'
    apply Classical.byContradiction
    intro q
    have r:i∈ks (T0++fy.op k::s') dn:=qT.2 ⟨⟨_,List.mem_append_left _ hx',rfl⟩,fun p hp' e=>q ⟨i,p.2,rfl,by rw [← e]; exact hp'⟩⟩
    have:=q3 _ hx' _ (cb ..)
    simp only [rB,cG,fy.ix] at this
    have J:=A i r
    rw [this.2] at J; cases J
   obtain ⟨dn',L',C2,V,J,O,W,h5,X⟩:=Ea T0 (fy.op k::s') dn L Y C F hp hn hm hy hl h
   refine Fp (fun a hf=>Bj W a hf) X (V o ho Y (dn'.map fun p=>AO p.1 p.2) K fun L3 C3 P A0 Z g=>?_)
   have AB:(ks (T0++fy.op k::s') dn).filter (· != k)=ks s' dn':=by
    unfold ks
    rw [List.map_append,List.filter_append,List.map_cons,List.filter_append]
    have e1:(List.map fy.ix T0).filter (fun i=> !(dn.map (·.1)).contains i)=[]:=by
     apply List.filter_eq_nil_iff.2
     intro z hz
     obtain ⟨x,hx',rfl⟩:=List.mem_map.1 hz
     obtain ⟨i,b,rfl,hb⟩:=F x hx'
     simp only [fy.ix,Bool.not_eq_true',Bool.not_eq_false,List.contains_iff_mem]
     exact List.mem_map_of_mem (f:=(·.1)) hb
    rw [e1]
    simp only [List.filter_nil,List.nil_append]
    have u:k ∉ dn.map (·.1):=fun q=>by
     obtain ⟨p,hp',e⟩:=List.mem_map.1 q
     exact H p hp' e
    rw [List.filter_cons_of_pos (by simpa [fy.ix] using u),List.filter_cons_of_neg (by simp [fy.ix]),List.filter_filter]
    apply List.filter_congr
    intro z hz
    obtain ⟨y,hy',rfl⟩:=List.mem_map.1 hz
    have A1:y.ix≠k:=fun e=>by
     have:=q4 y hy'
     simp only [rB,cG,bne_iff_ne,fy.ix] at this
     exact this.1 e.symm
    rw [Bool.eq_iff_iff]
    simp only [cG,bne_iff_ne,Bool.not_eq_true',← Bool.not_eq_true,List.contains_iff_mem]
    constructor
    ·rintro ⟨_,hq⟩ hc
     obtain ⟨p,hp',e⟩:=List.mem_map.1 hc
     exact hq (by rw [← e]; exact List.mem_map_of_mem (f:=(·.1)) ((O p).1 hp').1)
    ·intro hq
     refine ⟨A1,fun hc=>?_⟩
     obtain ⟨p,hp',e⟩:=List.mem_map.1 hc
     apply hq
     rw [← e]
     refine List.mem_map_of_mem (f:=(·.1)) ((O p).2 ⟨hp',?_⟩)
     have ht:=hm p hp'
     rcases List.mem_append.1 ht with ht|ht
     ·exfalso
      have:=q3 _ ht _ (cR _ hy')
      simp only [rB,cG,bne_iff_ne,fy.ix] at this
      exact this.1 e
     ·exact ht
   have N:(ks (T0++fy.op k::s') dn).Nodup:=by
    unfold ks
    refine List.Nodup.sublist List.filter_sublist<|List.pairwise_map.2 (hp.imp fun {a c} q=>?_)
    simp only [rB,cG,bne_iff_ne] at q
    exact q.1
   refine hK _ _ (fun w hw=>P w (hw.take (List.sublist_append_left _ _))) (fun q=>by cases q) ?_
   rw [AB]
   have hdn': ∀ p∈dn',fy.take p.1∈s':=fun p hp'=>by
    rcases List.mem_cons.1 ((O p).1 hp').2 with e|e
    ·cases e
    ·exact e
   refine qH hal n s' dn' L3 Y C3 (fun i hi=>hal' i (by simp [hi])) q5 ?_ J hdn' (fun p hp'=>hy p ((O p).1 hp').1) (fun i hi=>?_) (vX Z) P g
   ·rw [← AB,← List.Nodup.erase_eq_filter N,List.length_erase_of_mem G,hlen]; rfl
   ·have:=List.all_eq_true.1 A0 _ (tS hi)
    simpa using this
/-- the rows, at any time; the others, one after the other -/
theorem Oz {tb rem:List Nat} {L:List (Nat×Value)} {C:List aq} (s:List fy) (B:List (Nat×Value)) (dO:Nat→Nat) (VO:Nat→Nat→Value) (AO:Nat→Nat→aq) {n:Nat} (htb:tb=[]) (hr:s.map fy.ix=rem) (hn:rem.length=n) (hp:TY (pV ops) dO s=true) (hl:((Bx dO s).all fun d=>(L.lookup d).isNone)=true) (hB:B.map (fun p=>L.lookup p.1)=B.map (fun p=>some p.2)) (hC: ∀ w,St E.S E.w0 C w→St E.S E.w0 C' w)
 (hal: ∀ i,fy.take i∈s→SA E ops D B dO VO AO i) (h:CH E ops D C' K0 B dO VO AO s L C):TN E ops D C' C1 (fun L C=>KJ E K0 D L C) tb n rem L C:=by
 subst htb hr
 have e:ks s []=s.map fy.ix:=by unfold ks; simp
 have:=qH (C1:=C1) (fun i=> .inr trivial) n s [] L [] C hal (F7 hp) (by rw [e]; exact hn) List.nodup_nil (fun p hp=>by cases hp) (fun p hp=>by cases hp) (fun i hi=>by
  have:=List.all_eq_true.1 hl _ (tS hi)
  simpa using this) (vX hB) hC h
 simpa [e] using this
theorem Q5 {p:Nat→Prop}: ∀ i,fy.take i∈([]:List fy)→p i:=fun i h=>by cases h
theorem xw {p:Nat→Prop} {j:Nat} {s:List fy} (h: ∀ i,fy.take i∈s→p i): ∀ i,fy.take i∈fy.op j::s→p i:=fun i hi=>by
 rcases List.mem_cons.1 hi with e|hi
 ·cases e
 ·exact h i hi
theorem wh {p:Nat→Prop} {j:Nat} {s:List fy} (hj:p j) (h: ∀ i,fy.take i∈s→p i): ∀ i,fy.take i∈fy.take j::s→p i:=fun i hi=>by
 rcases List.mem_cons.1 hi with e|hi
 ·cases e; exact hj
 ·exact h i hi
end
section
variable {E:eY} {ops:Array Oper} {D:List Deferred} {B:List (Nat×Value)} {dO:Nat→Nat} {VO:Nat→Nat→Value} {AO:Nat→Nat→aq}
variable {d:Nat} {ty:TypeId} {ps:String} {af:Array Edge}
theorem Lw {i t e sz:Nat} (ho:ops[i]? =some ⟨some d,.buildSlice t 0 #[],ty,ps,af,none⟩) (ht:tE E.P t=some (e,sz)) (hd:Nat.blt d E.n=true) (h1:dO i=d) (h2: ∀ b,VO i b= .slice (some ⟨b,0,none⟩) 0 0) (h3: ∀ b,AO i b=bV b e []):SA E ops D B dO VO AO i:=fun o ho' L C K hB hk=>by
 rw [ho] at ho'; cases ho'
 exact sN U ht hd fun b=>aC (by have:=hk b; rw [h1,h2,h3] at this; exact this)
theorem Pt {i t e sz n:Nat} {xs:List Operand} {vs:List Value} {cs zs:List Value} (ho:ops[i]? =some ⟨some d,.buildSlice t n ((xs.zipIdx.map fun p=>(p.2,p.1)).toArray),ty,ps,af,none⟩) (ht:tE E.P t=some (e,sz)) (hz:tZ E.P e=some zs) (hx:evs B xs=some vs) (hn:xs.length=n) (hp:Nat.blt 0 (n*sz)=true) (hb:Nat.ble (n*sz) 16777216=true) (hv: ∀ v∈vs,v.cells.size=sz)
 (hc:(vs.map (·.cells.toList)).flatten=cs) (hd:Nat.blt d E.n=true) (h1:dO i=d) (h2: ∀ b,VO i b= .slice (some ⟨b,0,none⟩) n n) (h3: ∀ b,AO i b=bV b e cs):SA E ops D B dO VO AO i:=fun o ho' L C K hB hk=>by
 rw [ho] at ho'; cases ho'
 exact cY U ht hz (Gl hB hx) hn hp hb hv hc hd fun b=>aC (by have:=hk b; rw [h1,h2,h3] at this; exact this)
end
section
variable {E:eY} {ops:Array Oper} {D:List Deferred} {C':List aq} {K0:Act→World→Prop} {B:List (Nat×Value)} {dO:Nat→Nat} {VO:Nat→Nat→Value} {AO:Nat→Nat→aq}
theorem xZ {j:Nat} {s:List fy} {L:List (Nat×Value)} {C:List aq} {o:Oper} (ho:ops[j]? =some o)
 (h: ∀ (Y:List (Nat×Value)) (X:List aq) (K:Act→World→Prop),(∀ L' C'',(∀ w,St E.S E.w0 C'' w→St E.S E.w0 C' w)→((Bx dO s).all fun d=>(L'.lookup d).isNone)=true→B.map (fun p=>L'.lookup p.1)=B.map (fun p=>some p.2)→CH E ops D C' K0 B dO VO AO s L' C''→KJ E K D (L'++Y) (C''++X))→RJ E ops (NQ K) [o] D (L++Y) (C++X)):CH E ops D C' K0 B dO VO AO (.op j::s) L C:=fun o' ho'=>by
 rw [ho] at ho'; cases ho'
 exact h
theorem sj {s:List fy} {L Y:List (Nat×Value)} {C X:List aq} {K:Act→World→Prop} (hT: ∀ L' C'',(∀ w,St E.S E.w0 C'' w→St E.S E.w0 C' w)→((Bx dO s).all fun d=>(L'.lookup d).isNone)=true→B.map (fun p=>L'.lookup p.1)=B.map (fun p=>some p.2)→CH E ops D C' K0 B dO VO AO s L' C''→KJ E K D (L'++Y) (C''++X)) (nL nC:Nat)
 (hL:L.take nL++Y=L) (hC:C.take nC++X=C) (h1: ∀ w,St E.S E.w0 (C.take nC) w→St E.S E.w0 C' w) (h2:((Bx dO s).all fun d=>((L.take nL).lookup d).isNone)=true) (h3:B.map (fun p=>(L.take nL).lookup p.1)=B.map (fun p=>some p.2)) (h:CH E ops D C' K0 B dO VO AO s (L.take nL) (C.take nC)):RJ E ops (NQ K) [] D L C:=by
 have:=hT _ _ h1 h2 h3 h
 rw [hL,hC] at this
 exact aC this
theorem SC {c:Code} {Q:cU} {L L':List (Nat×Value)} {C:List aq} (h:L'.map (fun p=>L.lookup p.1)=L'.map (fun p=>some p.2)) (k:WJ E c Q D L' C):WJ E c Q D L C:=fun a w hf hs=>k a w (Bj (vX h) a hf) hs
theorem wB: ∀ {C:List aq} {i:Nat} {A:aq},C[i]? =some A→C.Perm (A::C.eraseIdx i)
 |[],i,A,h=>by simp at h
 |x::C,0,A,h=>by
  simp at h; subst h
  exact List.Perm.refl _
 |x::C,i+1,A,h=>((wB (C:=C) (i:=i) (by simpa using h)).cons x).trans (List.Perm.swap _ _ _)
theorem St.front {S:BS} {w0 w:World} {C:List aq} {A:aq} (i:Nat) (hi:C[i]? =some A) (h:St S w0 C w):St S w0 (A::C.eraseIdx i) w:=h.perm (wB hi)
theorem Fx {K:Act→World→Prop} {L:List (Nat×Value)} {C:List aq} {A:aq} (i:Nat) (hi:C[i]? =some A) (h:KJ E K D L (A::C.eraseIdx i)):KJ E K D L C:=fun a w hf hs=>h a w hf (hs.front i hi)
theorem rn {Q:cU} {rest:List Oper} {L:List (Nat×Value)} {C:List aq} {A:aq} (i:Nat) (hi:C[i]? =some A) (h:RJ E ops Q rest D L (A::C.eraseIdx i)):RJ E ops Q rest D L C:=fun a w hf hs=>h a w hf (hs.front i hi)
end
end
section
open Go.RowKit
section
variable {E:eY} {ops:Array Oper} {D:List Deferred} {C' C1:List aq} {tb:List Nat}
theorem wK {V:Type} {F:List (Nat×Value)→List aq→Prop} (P:V→Prop) (fL:V→List (Nat×Value)) (fC:V→List aq) (n:Nat) (rest:List Nat) {m:Nat} {rem:List Nat} {L:List (Nat×Value)} {C:List aq} (h1:(∀ v,P v→TN E ops D C' C1 F tb n rest (fL v) (fC v))→TN E ops D C' C1 F tb m rem L C) (h2: ∀ v,P v→TN E ops D C' C1 F tb n rest (fL v) (fC v)):TN E ops D C' C1 F tb m rem L C:=h1 h2
theorem gV {F:List (Nat×Value)→List aq→Prop} {rem':List Nat} {n i:Nat} {L:List (Nat×Value)} {C:List aq} {o:Oper} (ho:ops[i]? =some o)
 (h: ∀ K:Act→World→Prop,(∀ L' C'',(∀ w,St E.S E.w0 C'' w→St E.S E.w0 C' w)→TN E ops D C' C1 F tb n rem' L' C''→KJ E K D L' C'')→RJ E ops (NQ K) [o] D L C) (hm:((i::rem').filter fun k=>(i::rem').all fun j=> !im (pV ops) j k)=[i]:=by kernel_rfl) (hr:(i::rem').filter (· != i)=rem':=by kernel_rfl) (ht:tb.contains i=false:=by rfl):TN E ops D C' C1 F tb (n+1) (i::rem') L C:=
 iJ [i] hm (eE (ia ho hr ht h) kl)
theorem P0 {K0:Act→World→Prop} {n:Nat} {rem:List Nat} {L L2:List (Nat×Value)} {C C2:List aq} (hL: ∀ a,Fr E.n D L a→Fr E.n D L2 a) (hC: ∀ w,St E.S E.w0 C w→St E.S E.w0 C2 w) (h:TN E ops D C' C1 (fun L C=>KJ E K0 D L C) tb n rem L2 C2):TN E ops D C' C1 (fun L C=>KJ E K0 D L C) tb n rem L C:=by
 cases n with
 |zero=>exact zQ hL hC h
 |succ n=>exact fun i hi o ho K hK=>Fp hL hC (h i hi o ho K hK)
theorem jI {V:Type} {P:V→Prop} {fL:V→List (Nat×Value)} {fC:V→List aq} {K0:Act→World→Prop} {n:Nat} {rem rest:List Nat} {L:List (Nat×Value)} {C:List aq} (hJ: ∀ v,P v→TN E ops D C' C1 (fun L C=>KJ E K0 D L C) tb n rest (fL v) (fC v)) (v:V) (hp:P v) (ix:List Nat) (hL:(fL v).map (fun p=>L.lookup p.1)=(fL v).map (fun p=>some p.2)) (hn:decide ix.Nodup=true) (hC:lV C ix=some (fC v)) (hr:rem=rest:=by kernel_rfl):TN E ops D C' C1 (fun L C=>KJ E K0 D L C) tb n rem L C:=hr▸
 P0 (fun a hf=>Bj (vX hL) a hf) (fun w hs=>St.kj _ hn (jB hC) hs) (hJ v hp)
end
theorem J0 {E:eY} {id:Nat} {ops:Array Oper} {Q:cU} {D:List Deferred} {L:List (Nat×Value)} {C:List aq} (hm:E.P.follows .mixedOrders=true) (T i1:List Nat) {C':List aq} {free:List Nat} {Ik:List Bool} (h1:lV C i1=some C') (hf:free=S5 ops.size T) (hfe:Ik=Uo free.length [])
 (h:p7 E ops D C' [] (fun L'=>TN E ops D C' [] (fun L C=>KJ E (Q .normal) D L C) [] T.length T L' C) Ik (eH ops free) L) (hc:FK ops free T Ik []=true:=by kernel_rfl) (n1:decide i1.Nodup=true:=by rfl):WJ E (.region id ops true) Q D L C:=
 pn hm free T Ik [] C' [] hc (MZ i1 h1 n1) (MZ [] rfl rfl) h
section
end
end
section
open Go.RowKit
theorem Qk (h i:Int) (r:bT) (kA:OA) (kC:Nat) (az:List RA) (cA:OA) (cC:Nat) (bA:OA) (bC:Nat) (slA:OA) (slC:Nat) (drA:OA) (drC:Nat) (ha:List cO) (heA:OA) (heC:Nat) (hin:e7 r az ha):
 dT Tryz.prog 14 [(vA (cx.cells (oI r kA kC cA cC bA bC slA slC drA drC heA heC))),(vI h),(vI i)] [(rd eW 3 2 dZ),(rd kA r.ao.aP.length 9 (r.ao.aP.map al.cells)),(rd cA r.ao.ak.length 2 (List.zipWith ar.cells r.ao.ak az)),(eX (aV ar.g0 r.ao.ak az)),(rd bA r.ao.ae.length 4 (r.ao.ae.map bD.cells)),(rd slA r.aQ.length 1 (r.aQ.map iC)),(rd drA r.bQ.length 1 (r.bQ.map iC)),(rd heA r.ay.length 1 (List.zipWith cP r.ay ha)),(eX (aV ir r.ay ha))] (vT [(vA (aa.cells (ig r h i))),(vI (mO r h i))]):=by
 have AO:=hin.line
 have A5:=hin.iO
 have A6:=hin.has
 have A2:=hin.iN
 have A0:=hin.draw
 have F:=dy (r:=r)
 refine bx kr Tryz.func14 U U fun w0 Q hQ hN=>?_
 try dsimp only
 refine WS fun _ u=>fM U fun b2=>AL U de fun b3=>bf 1 U<|RK u<|WS fun _ X=>rP 1 [] (mc 1 U mn) ?_
 refine cX (nZ r kA kC az cA cC bA bC slA slC drA drC ha heA heC hin) (bj [2,3,4,5,6,7,8,9,10]) U fun y5 c=>?_
 obtain ⟨f,A4,o,m,g,j,AT⟩:=y5
 cases f
 ·obtain ⟨Y,he⟩:=c.2 rfl
  try dsimp only at Y he
  subst Y
  try dsimp only [cond_true,cond_false,List.cons_append,List.nil_append]
  refine bf 5 U<|RK X<|ah fun _ Al=>av<|WS fun _ N=>rP 3 [] mn ?_
  refine RK N<|bK U (bq fun M=>?_) (bp fun M=>?_)
  ·exact absurd M he
  refine WS fun _ O=>rS (SX (bh (xs:=[]) (cs:=(aa.cells (aa.mk 0 0))) U U (bg gf U)) U U)<|bf 1 U<|fP U cm U<|rP 1 [] mn ?_
  refine RK O<|an<|lp hQ [0] (mc 0 U mn) U ?_
  first|(have e:=o1 (h:=h) (i:=i) he; have B:ig r h i=dx:=if_neg (fun q=>by rw [e] at q; exact he q); rw [e,B]; rfl)|(have e:=o6 (h:=h) (i:=i) he I; have B:ig r h i=dx:=if_neg (fun q=>by rw [e] at q; cases q); rw [e,B]; rfl)|(have e:=nI he I A hd C; have B:ig r h i=dx:=if_neg (fun q=>by rw [e] at q; cases q); rw [e,B]; rfl)|(have e:=qe he I A hd C; rw [e.1,e.2,H]; done)
 obtain ⟨he,J⟩:=c.1 rfl
 try dsimp only [cond_true,cond_false,List.cons_append,List.nil_append]
 try dsimp only at J
 have a:=(iI he).2
 refine bf 5 U<|RK X<|ah fun _ P=>av<|WS fun _ R=>bf 1 U<|rS (SX (bU (r:= .bool false) U U U mA) U U)<|bf 1 U<|RK R<|aW U<|WS fun _ K=>rP 5 [] (mc 5 U mn) ?_
 refine cY (xs:=[.tmp 25]) (cs:=[(vI h)]) U cp jf U U U U (by simp [Value.cells]) U U fun k=>?_
 refine rS (CL (dT.eq (j9 0 ((r.ay.length:Int)-1) ([h]) (some ⟨k,0,none⟩) 1 sd) cS) (aw (aZ 0 U U (by simp [bB]) U)<|aI) U) ?_
 refine rP 2 [] mn ?_
 refine cQ (t:=29) U (bp fun s=>?_) (bq fun s=>?_)
 ·refine bf 7 U<|RK K<|aO U<|WS fun _ S=>rS (SX (bh (xs:=[]) (cs:=(aa.cells (aa.mk 0 0))) U U (bg gf U)) U U)<|Ii U cm U<|rP 1 [] mn ?_
  refine RK S<|an<|lp hQ [0] (mc 5 U mn) U ?_
  first|(have e:=o1 (h:=h) (i:=i) he; have B:ig r h i=dx:=if_neg (fun q=>by rw [e] at q; exact he q); rw [e,B]; rfl)|(have e:=o6 (h:=h) (i:=i) he I; have B:ig r h i=dx:=if_neg (fun q=>by rw [e] at q; cases q); rw [e,B]; rfl)|(have e:=nI he I A hd C; have B:ig r h i=dx:=if_neg (fun q=>by rw [e] at q; cases q); rw [e,B]; rfl)|(have e:=qe he I A hd C; rw [e.1,e.2,H]; done)
 refine rP 2 [] mn ?_
 refine cY (xs:=[.tmp 31]) (cs:=[(vI i)]) U cp jf U U U U (by simp [Value.cells]) U U fun l=>?_
 refine rS (CL (dT.eq (z6 r kA kC az cA cC bA bC slA slC drA drC ha heA heC AT g j (Value.map (some m)) o ([i]) (some ⟨l,0,none⟩) 1 hin sd) cS) (lB [9,10,11,12,13,14,15,16]<|aw (ai (n:=(cN r).length) 3 U (mS (by rw [F]; exact J)))<|aw (cL 4 U tT)<|fD 2 U U<|aw (aZ 0 U U (by simp [bB]) U)<|aI) U) ?_
 refine rP 3 [] mn ?_
 refine RK K<|cy U (bp fun p=>?_) (bq fun p=>?_)
 ·refine WS fun _ T=>rS (SX (bh (xs:=[]) (cs:=(aa.cells (aa.mk 0 0))) U U (bg gf U)) U U)<|O6 U cm U<|rP 1 [] mn ?_
  refine RK T<|an<|lp hQ [0] (mc 6 U mn) U ?_
  first|(have e:=o1 (h:=h) (i:=i) he; have B:ig r h i=dx:=if_neg (fun q=>by rw [e] at q; exact he q); rw [e,B]; rfl)|(have e:=o6 (h:=h) (i:=i) he I; have B:ig r h i=dx:=if_neg (fun q=>by rw [e] at q; cases q); rw [e,B]; rfl)|(have e:=nI he I A hd C; have B:ig r h i=dx:=if_neg (fun q=>by rw [e] at q; cases q); rw [e,B]; rfl)|(have e:=qe he I A hd C; rw [e.1,e.2,H]; done)
 refine WS fun _ AA=>rP 3 [] (mc 7 U mn) ?_
 obtain ⟨ht,A⟩:=aJ r.ay ((h).toNat) I
 obtain ⟨D,E⟩:=aJ ha ((h).toNat) I
 have Z:(List.zipWith cP r.ay ha)[(h).toNat]? =some (cP ht D):=dA A E
 refine rS (IA ((h).toNat) U (aD 15 U) ry dc I I) ?_
 have z:=hin.oM _ _ _ A E
 have A1:=z.oF
 have AC:=(a.oM ht (aR A)).1
 refine rS (fV ((h).toNat) 0 (vS D.1.1 ht.length D.1.2) U bX (aD 15 U) Z U dc U)<|rP 1 [] mn ?_
 obtain ⟨d,hd⟩:=aJ ht ((i).toNat) I
 obtain ⟨da,v⟩:=aJ D.2 ((i).toNat) I
 have y:(List.zipWith ax.cells ht D.2)[(i).toNat]? =some (ax.cells d da):=dA hd v
 refine rS (IA ((i).toNat) U (show il _ (rd D.1.1 ht.length 7 (List.zipWith ax.cells ht D.2)).holds from (du 16 U (bM A E cb))) xM dc I I)<|rS (nS (((i).toNat)*7) U (show il _ (rd D.1.1 ht.length 7 (List.zipWith ax.cells ht D.2)).holds from (du 16 U (bM A E cb))) (Nat.mul_pos I dc) fu U)<|rS (fV ((i).toNat) 0 (vB d.Out) U bX (show il _ (rd D.1.1 ht.length 7 (List.zipWith ax.cells ht D.2)).holds from (du 16 U (bM A E cb))) y U dc U)<|rP 1 [] mn ?_
 refine RK AA<|cy U (fun C=>?_) (fun C=>?_)
 ·refine WS fun _ V=>rS (SX (bh (xs:=[]) (cs:=(aa.cells (aa.mk 0 0))) U U (bg gf U)) U U)<|O6 U cm U<|rP 1 [] mn ?_
  refine RK V<|an<|lp hQ [0] (mc 6 U mn) U ?_
  first|(have e:=o1 (h:=h) (i:=i) he; have B:ig r h i=dx:=if_neg (fun q=>by rw [e] at q; exact he q); rw [e,B]; rfl)|(have e:=o6 (h:=h) (i:=i) he I; have B:ig r h i=dx:=if_neg (fun q=>by rw [e] at q; cases q); rw [e,B]; rfl)|(have e:=nI he I A hd C; have B:ig r h i=dx:=if_neg (fun q=>by rw [e] at q; cases q); rw [e,B]; rfl)|(have e:=qe he I A hd C; rw [e.1,e.2,H]; done)
 refine bZ<|aG<|KK P<|WS fun _ W=>bf 1 U<|rS (SX (bI U U) U U)<|rP 3 [] (mc 2 U mn) ?_
 obtain ⟨tr,AB⟩:=aJ (cN r) ((h).toNat) I
 obtain ⟨tra,G⟩:=aJ AT ((h).toNat) I
 have b:(List.zipWith El (cN r) AT)[(h).toNat]? =some (El tr tra):=dA AB G
 refine rS (IA ((h).toNat) U (ai (n:=(cN r).length) 3 U (mS (by rw [F]; exact J))) OM dc I I) ?_
 have L:=zI A AB
 have A3:tr.length=r.aQ.length:=by rw [L,List.length_map]; exact AC
 refine rS (fV ((h).toNat) 0 (vS tra.1 tr.length tra.2) U bX (ai (n:=(cN r).length) 3 U (mS (by rw [F]; exact J))) b U dc U) ?_
 refine rP 1 [] mn ?_
 obtain ⟨x,hx⟩:=aJ tr ((i).toNat) I
 have Ah:=bG aa.cells hx
 refine rS (IA ((i).toNat) U (show il _ (rd tra.1 tr.length 2 (tr.map aa.cells)).holds from (fun w hw=>(cL 4 U tT) w hw _ (bM AB G (by simp [MA])))) jQ dc I I) ?_
 have H:=Iq L hx hd
 refine rS (oH ((i).toNat) 0 (aa.cells x) U bX (show il _ (rd tra.1 tr.length 2 (tr.map aa.cells)).holds from (fun w hw=>(cL 4 U tT) w hw _ (bM AB G (by simp [MA])))) Ah U dc U U)<|O6 U cm U<|rP 1 [] mn ?_
 refine RK W<|an<|lp hQ [0] (mc 6 U mn) U ?_
 first|(have e:=o1 (h:=h) (i:=i) he; have B:ig r h i=dx:=if_neg (fun q=>by rw [e] at q; exact he q); rw [e,B]; rfl)|(have e:=o6 (h:=h) (i:=i) he I; have B:ig r h i=dx:=if_neg (fun q=>by rw [e] at q; cases q); rw [e,B]; rfl)|(have e:=nI he I A hd C; have B:ig r h i=dx:=if_neg (fun q=>by rw [e] at q; cases q); rw [e,B]; rfl)|(have e:=qe he I A hd C; rw [e.1,e.2,H]; done)
end
section
open Go.RowKit
theorem o8 (n lo hi:Int):
 dT Tryz.prog 137 [(vI n),(vI lo),(vI hi)] [] (vB (decide (lo≤n∧n≤hi))):=by
 refine bx kr Tryz.func137 U U fun D Q hQ hN=>?_
 try dsimp only
 refine WS fun _ B=>bf 1 U<|RK B<|WS fun _ A=>rP 4 [] mn ?_
 refine cQ (t:=10) U (aL fun C=>?_) (aM fun C=>?_)
 ·refine rP 5 [] mn ?_
  refine RK A<|an<|Q1 hQ U U U ?_
  exact cB (decide_eq_decide.2 I)
 refine rP 5 [] mn ?_
 refine RK A<|an<|Q1 hQ U U U ?_
 exact cB (cf I).symm
theorem Gu (r:cv) (sgA:OA) (sgC:Nat):
 dT Tryz.prog 157 [(vA (eB.cells (mF r sgA sgC)))] [(rd sgA r.ag.length 2 (r.ag.map aK.cells))] (vB (decide (my r))):=by
 refine bx kr Tryz.func157 U U fun F Q hQ hN=>?_
 try dsimp only
 refine WS fun _ B=>fM U fun E=>bf 1 U<|RK B<|WS fun _ A=>rP 4 [] (mc 0 U mn) ?_
 refine b_ (t:=6) U (aM fun C=>?_) (aL fun C=>?_)
 ·refine rP 11 [] mn ?_
  refine RK A<|an<|Q1 hQ U U U ?_
  simp only [my]
  exact cB (cf I).symm
 refine rP 5 [] (mc 0 U mn) ?_
 refine b_ (t:=11) U (aM fun D=>?_) (aL fun D=>?_)
 ·refine rP 6 [] mn ?_
  refine RK A<|an<|Q1 hQ U U U ?_
  simp only [my]
  exact cB (cf I).symm
 refine rP 6 [] (mc 0 U mn) ?_
 refine RK A<|an<|Q1 hQ U U U ?_
 simp only [my]
 exact cB (decide_eq_decide.2 I)
theorem Ni (s:aa):
 dT Tryz.prog 25 [(vA (aa.cells s))] [] (vB (decide (iL s))):=by
 refine bx kr Tryz.func25 U U fun F Q hQ hN=>?_
 try dsimp only
 refine WS fun _ B=>fM U fun E=>bf 1 U<|RK B<|WS fun _ A=>rP 4 [] (mc 0 U mn) ?_
 refine b_ (t:=6) U (aM fun C=>?_) (aL fun C=>?_)
 ·refine rP 12 [] mn ?_
  refine RK A<|an<|Q1 hQ U U U ?_
  simp only [iL]
  exact cB (cf I).symm
 refine rP 7 [] (mc 0 U mn) ?_
 refine b_ (t:=13) U (aM fun D=>?_) (aL fun D=>?_)
 ·refine rP 5 [] mn ?_
  refine RK A<|an<|Q1 hQ U U U ?_
  simp only [iL]
  exact cB (cf I).symm
 refine rP 5 [] (mc 0 U mn) ?_
 refine RK A<|an<|Q1 hQ U U U ?_
 simp only [iL]
 exact cB (decide_eq_decide.2 I)
theorem n8 (la:List Int) (laA:OA) (laC:Nat) (lb:List Int) (lbA:OA) (lbC:Nat) (h1:la.length≤1000000) (h2:lb.length≤1000000):
 dT Tryz.prog 29 [(vS laA la.length laC),(vS lbA lb.length lbC)] [(rd laA la.length 1 (la.map iC)),(rd lbA lb.length 1 (lb.map iC))] (vB (decide (la=lb))):=by
 refine bx kr Tryz.func29 U U fun V Q hQ hN=>?_
 try dsimp only
 refine WS fun _ J=>bf 1 U<|RK J<|ah fun _ K=>WS fun _ L=>rP 5 [] mn ?_
 refine RK L<|cy U (bp fun hl=>?_) (bq fun hl=>?_)
 ·refine WS fun _ M=>rP 1 [] mn ?_
  refine RK M<|an<|Q1 hQ U U U ?_
  exact cB (cf (fun e=>by subst e; omega)).symm
 refine WK K<|ah fun _ N=>WS fun _ O=>rP 1 [] mn ?_
 refine RK O<|av ?_
 have A:(0≤la.length)∧(la.take 0=lb.take 0):=by simp
 refine bH (ι:={z:Nat // (z≤la.length)∧(la.take z=lb.take z)}) [0,1] [0,1] U U (fun z=>[(5,(vI (z.1:Int)))]) (fun z=>[]) (fun _=>rfl) (fun _=>rfl) (fun z=>la.length-z.1) ⟨0,A⟩ (aT U) (aH [0,1]) ?_
 clear A
 rintro ⟨i,⟨S,B⟩⟩ J7 AB
 try dsimp only
 refine ah fun _ P=>WS fun _ R=>rP 4 [] mn ?_
 refine RK R<|bK U (aM fun H=>?_) (aL fun H=>?_)
 ·refine bu<|ab<|ab<|au<|KK N<|WS fun _ F=>rP 1 [] mn ?_
  refine RK F<|an<|Q1 hQ U U U ?_
  exact cB (fI (nF I B I)).symm
 refine WK P<|ah fun _ C=>av<|ah fun _ D=>dB cu 9 kr<|dP 2 [] mn ?_
 obtain ⟨x,hx⟩:=aJ la i I
 have T:=bG iC hx
 refine dS (IA i U (aD 0 U) cp dc I I)<|dS (fV i 0 (vI x) U bX (aD 0 U) T U dc U)<|dP 2 [] mn ?_
 obtain ⟨y,hy⟩:=aJ lb i I
 have AA:=bG iC hy
 refine dS (IA i U (aD 1 U) cp dc I I)<|dS (fV i 0 (vI y) U bX (aD 1 U) AA U dc U)<|dP 1 [] mn ?_
 refine cM<|RK D<|cy U (bp fun h=>?_) (bq fun h=>?_)
 ·refine WS fun _ E=>rP 1 [] mn ?_
  refine RK E<|an<|Q1 hQ U U U ?_
  exact cB (cf (nQ hx hy h)).symm
 refine bZ<|aG<|KK C<|aj<|rP 3 [] mn ?_
 refine aC ?_
 have G:(vI (((i+1):Nat):Int))=(vI ((i:Int)+1)):=by exact cI I
 refine aS (AB ⟨(i+1),⟨I,ug B hx hy h⟩⟩ _ _ _ U os (dh.cons U<|dh.cons U<|aX U G<|dh.nil _) (aH [0,1]))
end
section
structure E6 (w w':bO):Prop where
 start:w'.Start=w.Start
 now:w.fZ≤w'.fZ
 n:w'.n=w.n
 least: ∀ b,bR w' b≤bR w b
 times:w'.vm=w.vm
 PC:w.cW≤w'.cW
 Tm:w.eV≤w'.eV
 sigs:w'.Qx=w.Qx
variable {w w':bO}
theorem E6.opt (h:E6 w w') {b:Nat} {o:Int×aa} (ho:o∈iq w b): ∃ o'∈iq w' b,o'.1=o.1∧o'.2.Lo≤o.2.Lo∧o.2.Hi≤o'.2.Hi:=by
 unfold iq at ho
 rcases List.mem_cons.1 ho with rfl|ho
 ·exact ⟨(-1,⟨w'.Start,w'.fZ⟩),cb ..,U,by simp only [h.start]; omega,h.now⟩
 ·refine ⟨o,cR _ ?_,U,Int.le_refl _,Int.le_refl _⟩
  unfold tR at ho ⊢; rw [h.times]; exact ho
theorem E6.may (h:E6 w w') {t:aB} (ht:kq w t=true):kq w' t=true:=by
 unfold kq at ht ⊢
 have:=of_decide_eq_true ht
 have A:=h.PC
 have B:=h.Tm
 have C:=h.sigs
 exact fI I
theorem E6.fwd (h:E6 w w'): ∀ (b:Nat) (p:aB×Int),p∈fwd w b→ ∃ p'∈Go.Proofs.YtadjgjnicdcjbaaGreatDoor.fwd w' b,p'.1=p.1∧p'.2≤p.2:=by
 intro b
 induction b with
 |zero=>
  intro p hp
  simp only [Go.Proofs.YtadjgjnicdcjbaaGreatDoor.fwd,bS] at hp ⊢
  subst hp
  exact ⟨_,U,U,by simp only [h.start]; omega⟩
 |succ b ih=>
  intro q hq
  obtain ⟨p,hp,o,ho,e⟩:=fG.1 hq
  obtain ⟨p',hp',A,D⟩:=ih p hp
  obtain ⟨o',ho',B,E,F⟩:=h.opt ho
  have hl:=h.least b
  have hn:=h.now
  unfold kH at e
  split at e
  ·rename_i C
   simp only [Option.some.injEq] at e
   subst e
   refine ⟨(di p'.1 (fc o'.1),max (p'.2+bR w' b) o'.2.Lo),fG.2 ⟨p',hp',o',ho',by unfold kH; rw [if_pos I]⟩,by simp only [A,B],by simp only; omega⟩
  ·cases e
theorem E6.bwd (h:E6 w w'): ∀ (k:Nat) (p:aB×Int),p∈bwd w k→ ∃ p'∈Go.Proofs.YtadjgjnicdcjbaaGreatDoor.bwd w' k,p'.1=p.1∧p.2≤p'.2:=by
 intro k
 induction k with
 |zero=>
  intro p hp
  simp only [Go.Proofs.YtadjgjnicdcjbaaGreatDoor.bwd,bS] at hp ⊢
  subst hp
  exact ⟨_,U,U,h.now⟩
 |succ k ih=>
  intro q hq
  simp only [Go.Proofs.YtadjgjnicdcjbaaGreatDoor.bwd,d_,List.mem_flatMap,List.mem_filterMap] at hq ⊢
  rcases hq with rfl|⟨p,hp,o,ho,e⟩
  ·exact ⟨_,.inl U,U,h.now⟩
  ·obtain ⟨p',hp',A,D⟩:=ih p hp
   obtain ⟨o',ho',B,E,F⟩:=h.opt ho
   have hl:=h.least (w.n-(k+1))
   rw [h.n]
   unfold nV at e
   split at e
   ·rename_i C
    simp only [Option.some.injEq] at e
    subst e
    exact ⟨(di p'.1 (fc o'.1),min p'.2 o'.2.Hi-bR w' (w.n-(k+1))),.inr ⟨p',hp',o',ho',by unfold nV; rw [if_pos I]⟩,by simp only [A,B],by simp only; omega⟩
   ·cases e
theorem E6.back (h:E6 w w') {b:Nat} {p:aB×Int} (hp:p∈back w b): ∃ p'∈Go.Proofs.YtadjgjnicdcjbaaGreatDoor.back w' b,p'.1=p.1∧p.2≤p'.2:=by
 unfold Go.Proofs.YtadjgjnicdcjbaaGreatDoor.back at hp ⊢
 rw [h.n]
 exact h.bwd _ p hp
theorem E6.pass (h:E6 w w') {b:Nat} {q:Int×aa} (hq:q∈l8 w b): ∃ q'∈l8 w' b,q'.1=q.1∧q'.2.Lo≤q.2.Lo∧q.2.Hi≤q'.2.Hi:=by
 obtain ⟨o,ho,p,hp,u,hu,e⟩:=g_.1 hq
 obtain ⟨D,E,rfl⟩:=jo.1 e
 obtain ⟨o',ho',A,F,G⟩:=h.opt ho
 obtain ⟨p',hp',B,H⟩:=h.fwd _ p hp
 obtain ⟨u',hu',C,AA⟩:=h.back hu
 have hl:=h.least b
 simp only [jr] at D
 refine ⟨(o'.1,jr w' b p' u' o'),g_.2 ⟨o',ho',p',hp',u',hu',jo.2 ⟨?_,?_,U⟩⟩,A,?_,?_⟩
 ·simp only [jr]; omega
 ·have:=h.may E
  unfold xG at this ⊢
  rw [A,B,C]; exact this
 ·simp only [jr]; omega
 ·simp only [jr]; omega
theorem oL {k:Int}:k∈jC w↔ ∃ i:Nat,k=(i:Int)∧i≤w.n∧ji w (fwd w i)=true:=by
 unfold jC kf
 simp only [ua,List.mem_filter,List.mem_range]
 constructor
 ·rintro ⟨i,⟨B,A⟩,rfl⟩; exact ⟨i,rfl,I,A⟩
 ·rintro ⟨i,rfl,B,A⟩; exact ⟨i,⟨I,A⟩,rfl⟩
theorem E6.G2 (h:E6 w w') {k:Int} (hk:k∈jC w):k∈jC w':=by
 obtain ⟨i,rfl,C,A⟩:=oL.1 hk
 refine oL.2 ⟨i,U,by rw [h.n]; exact C,?_⟩
 unfold ji at A ⊢
 obtain ⟨p,hp,D⟩:=List.any_eq_true.1 A
 obtain ⟨p',hp',B,_⟩:=h.fwd _ p hp
 exact List.any_eq_true.2 ⟨p',hp',by rw [B]; exact h.may D⟩
/-- two rides, of two lines, of which one allows more -/
structure TU (l:a_) (r:cv) (l':a_) (r':cv):Prop where
 line:dq l=0
 line':dq l'=0
 yp:e9 l r
 ride':e9 l' r'
 w:E6 (cj l r) (cj l' r')
 Pu:l'.ae.length=l.ae.length
variable {l l':a_} {r r':cv}
theorem TU.ok (h:TU l r l' r') (he:eu l r 0=0):eu l' r' 0=0:=by
 refine lS h.line' h.ride' U fun e=>?_
 obtain ⟨k,hk⟩:=List.exists_mem_of_ne_nil _ (jY he).2.2.2
 have:=h.w.G2 hk
 rw [e] at this; cases this
theorem TU.z3 (h:TU l r l' r') {k:Int} (hk:k∈kU l r):k∈kU l' r':=by
 by_cases he:eu l r 0=0
 ·rw [lT he] at hk
  rw [lT (h.ok he)]
  exact h.w.G2 hk
 ·rw [uh he] at hk; cases hk
theorem GR {b:Nat} (hb:b<l.ae.length):eu l r (jA l b)=eu l r 0:=by rw [wx I]
theorem zA {b:Nat}:bR (cj l r) b=if b<l.ae.length then dN l b else 0:=by
 unfold bR cj cJ
 split
 ·rename_i h
  simp [h]
 ·rename_i h
  simp [h]
theorem GD {sg:List aK} {i:Nat} (h:i=0):mN sg i=⟨-1,0⟩:=by subst h; rfl
theorem rp {sg:List aK} {i:Nat} {y:aK} (h:0<i) (hy:sg[i-1]? =some y):mN sg i=y:=by unfold mN; rw [if_neg I,hy]; rfl
def QR (l:a_):Prop:= ¬ mK l∧dq l=0
noncomputable instance (l:a_):Decidable (QR l):=Classical.propDecidable _
end
section
/-- where a sled may be after k beams more -/
def fO (w:bO):Nat→Nat→aB×Int→List (aB×Int)
 |0,_,p=>[p]
 |k+1,b,p=>(iq w b).flatMap fun o=>match kH w b p o with
  |some q=>fO w k (b+1) q
  |none=>[]
variable {w:bO}
theorem hO {k b:Nat} {p q:aB×Int}:q∈fO w (k+1) b p↔ ∃ o∈iq w b,∃ p',kH w b p o=some p'∧q∈fO w k (b+1) p':=by
 simp only [fO,List.mem_flatMap]
 constructor
 ·rintro ⟨o,ho,h⟩
  cases e:kH w b p o with
  |none=>rw [e] at h; cases h
  |some p'=>rw [e] at h; exact ⟨o,ho,p',e,h⟩
 ·rintro ⟨o,ho,p',e,h⟩
  exact ⟨o,ho,by rw [e]; exact h⟩
theorem q6: ∀ (k b:Nat) (q:aB×Int),q∈fwd w (b+k)↔ ∃ p∈fwd w b,q∈fO w k b p:=by
 intro k
 induction k with
 |zero=>
  intro b q
  simp only [Nat.add_zero,fO,bS]
  exact ⟨fun h=>⟨q,h,rfl⟩,fun ⟨p,hp,e⟩=>e▸hp⟩
 |succ k ih=>
  intro b q
  rw [show b+(k+1)=(b+1)+k by omega,ih]
  constructor
  ·rintro ⟨p',hp',h⟩
   obtain ⟨p,hp,o,ho,e⟩:=fG.1 hp'
   exact ⟨p,hp,hO.2 ⟨o,ho,p',e,h⟩⟩
  ·rintro ⟨p,hp,h⟩
   obtain ⟨o,ho,p',e,h'⟩:=hO.1 h
   exact ⟨p',fG.2 ⟨p,hp,o,ho,e⟩,h'⟩
theorem gE {b:Nat} {p q:aB×Int} {o:Int×aa}:kH w b p o=some q↔max (p.2+bR w b) o.2.Lo≤min o.2.Hi w.fZ∧q=(di p.1 (fc o.1),max (p.2+bR w b) o.2.Lo):=by
 unfold kH
 split
 ·rename_i h
  constructor
  ·intro e; cases e; exact ⟨h,rfl⟩
  ·rintro ⟨_,rfl⟩; rfl
 ·rename_i h
  constructor
  ·intro e; cases e
  ·rintro ⟨h',_⟩; exact absurd h' h
theorem uz {b:Nat} {p q:aB×Int} {o:Int×aa}:nV w b p o=some q↔o.2.Lo≤min p.2 o.2.Hi∧q=(di p.1 (fc o.1),min p.2 o.2.Hi-bR w b):=by
 unfold nV
 split
 ·rename_i h
  constructor
  ·intro e; cases e; exact ⟨h,rfl⟩
  ·rintro ⟨_,rfl⟩; rfl
 ·rename_i h
  constructor
  ·intro e; cases e
  ·rintro ⟨h',_⟩; exact absurd h' h
theorem Hf {b:Nat} (hb:b≤w.n):((⟨0,0⟩:aB),w.fZ)∈back w b:=by
 rcases Nat.lt_or_ge b w.n with h|h
 ·exact (o0 h).2 (.inl U)
 ·rw [uW h]; simp
theorem m8 (t:aB):di t ⟨0,0⟩=t:=by cases t; simp [di]
theorem yw (a o u:aB):di (di a o) u=di a (di u o):=by simp only [di,aB.mk.injEq]; omega
theorem FR (hl: ∀ b,0≤bR w b): ∀ (k:Nat) (u:aB×Int),u∈bwd w k→u.2≤w.fZ:=by
 intro k
 induction k with
 |zero=>intro u hu; simp only [bwd,bS] at hu; subst hu; exact Int.le_refl _
 |succ k ih=>
  intro u hu
  simp only [bwd,d_,List.mem_flatMap,List.mem_filterMap] at hu
  rcases hu with rfl|⟨p,hp,o,ho,e⟩
  ·exact Int.le_refl _
  ·obtain ⟨_,rfl⟩:=uz.1 e
   have:=ih p hp
   have:=hl (w.n-(k+1))
   simp only; omega
/-- what follows a passing is told by the way back -/
theorem M1: ∀ (k b:Nat) (p q:aB×Int),b+k≤w.n→p.2≤w.fZ→q∈fO w k b p→ ∃ u∈back w b,p.2≤u.2∧q.1=di p.1 u.1:=by
 intro k
 induction k with
 |zero=>
  intro b p q hb hp hq
  simp only [fO,bS] at hq
  subst hq
  exact ⟨_,Hf I,hp,(m8 _).symm⟩
 |succ k ih=>
  intro b p q hb hp hq
  obtain ⟨o,ho,p',e,h⟩:=hO.1 hq
  obtain ⟨C,rfl⟩:=gE.1 e
  obtain ⟨u',hu',B,A⟩:=ih (b+1) _ q I (by simp only; omega) h
  simp only at B A
  refine ⟨(di u'.1 (fc o.1),min u'.2 o.2.Hi-bR w b),(o0 I).2 (.inr ⟨u',hu',o,ho,uz.2 ⟨I,U⟩⟩),by simp only; omega,?_⟩
  rw [A,yw]
theorem Kn (hl: ∀ b,0≤bR w b): ∀ (d b:Nat) (p u:aB×Int),w.n=b+d→p.2≤u.2→u∈back w b→ ∃ k,b+k≤w.n∧ ∃ q∈fO w k b p,q.1=di p.1 u.1:=by
 intro d
 induction d with
 |zero=>
  intro b p u hd hp hu
  rw [uW I] at hu
  simp only [bS] at hu
  subst hu
  exact ⟨0,I,p,by simp [fO],(m8 _).symm⟩
 |succ d ih=>
  intro b p u hd hp hu
  rcases (o0 I).1 hu with rfl|⟨u',hu',o,ho,e⟩
  ·exact ⟨0,I,p,by simp [fO],(m8 _).symm⟩
  ·obtain ⟨B,rfl⟩:=uz.1 e
   have hn:u'.2≤w.fZ:=FR hl _ _ hu'
   simp only at hp
   obtain ⟨k,hk,q,hq,A⟩:=ih (b+1) (di p.1 (fc o.1),max (p.2+bR w b) o.2.Lo) u' I (by simp only; omega) hu'
   refine ⟨k+1,I,q,hO.2 ⟨o,ho,_,gE.2 ⟨I,U⟩,hq⟩,?_⟩
   rw [A]; simp only; rw [yw]
end
section
section
variable {l:a_} {r:cv} {one at_:Int} {d:Nat} {f g m:Int} {rec:Int→Int→Int→Bool} {i:Int}
end
theorem qk {l:a_} {r:cv} {d:Nat} (hd:d<l.ae.length) {o:Int×aa}:o∈iq (cj l r) d↔o=(-1,⟨r.Start,r.fZ⟩)∨ ∃ k,k<r.ag.length∧ ∃ s,r.ag[k]? =some s∧(s.gd=(d:Int)∧(cz l s).Lo≤(cz l s).Hi)∧o=((k:Int),cz l s):=by
 unfold iq tR
 show o∈(-1,(⟨r.Start,r.fZ⟩:aa))::((dQ l r.ag r.ag.length)[d]?).getD []↔_
 rw [o5 hd,Option.getD_some,d_,rR]
theorem pw {l:a_} {r:cv} {d:Nat} (hd:d<l.ae.length):bR (cj l r) d=dN l d:=by rw [zA,if_pos hd]
theorem uV {l:a_} {n d:Nat} {y:Int} (h:(cJ l n)[d]? =some y):y=dN l d:=by
 unfold cJ at h
 rw [fq] at h
 have hd:d<n:=by
  rcases Nat.lt_or_ge d n with q|q
  ·exact q
  ·rw [List.getElem?_eq_none (by simpa using q)] at h; cases h
 rw [List.getElem?_range hd] at h
 exact (Option.some.inj h).symm
end
section
def P4 (w:bO) (b:Nat) (i:Int):Prop:= ∃ b',b'<b∧ ∃ q∈l8 w b',q.1=i
noncomputable instance (w:bO) (b:Nat) (i:Int):Decidable (P4 w b i):=Classical.propDecidable _
def vW (w:bO) (b:Nat):Bool:=(l8 w b).any fun q=>decide (0≤q.1)
def An (w:bO) (k:Nat):List Int:=((List.range k).filter fun b=> !vW w b).map fun (b:Nat)=>(b:Int)
noncomputable def v8 (l:a_) (r:cv):List Int:=if eu l r 0=0 then An (cj l r) (wR (kU l r)).toNat else []
theorem xx {l:a_} {r:cv} (h:eu l r 0=0):v8 l r=An (cj l r) (wR (kU l r)).toNat:=if_pos h
theorem wG {l:a_} {r:cv} (h: ¬ eu l r 0=0):v8 l r=[]:=if_neg h
theorem RE {l:a_} {r:cv} (h:eu l r 0=0):0≤wR (kU l r)∧wR (kU l r)≤(l.ae.length:Int):=by
 have A:=(Gw (uN h)).1
 rw [lT h] at A ⊢
 obtain ⟨i,e,hi,_⟩:=oL.1 A
 have hn:(cj l r).n=l.ae.length:=dV
 omega
end
section
/-- a truth goes on from here -/
def sh (w:bO) (b:Nat) (p:aB×Int):Prop:= ∃ k,b+k≤w.n∧ ∃ q∈fO w k b p,kq w q.1=true
/-- a truth may have come here, or earlier -/
def Dn (w:bO) (b:Nat) (p:aB×Int):Prop:= ∃ v,(p.1,v)∈fwd w b∧v≤p.2
def Kl (n:Int) (p:aB×Int):aB×Int:=(p.1,p.2+n)
section
variable {w:bO}
theorem H6: ∀ (k j b:Nat) (p q z:aB×Int),q∈fO w k b p→z∈fO w j (b+k) q→z∈fO w (k+j) b p:=by
 intro k
 induction k with
 |zero=>
  intro j b p q z A B
  simp only [fO,bS] at A
  subst A
  rw [Nat.zero_add]; exact B
 |succ k ih=>
  intro j b p q z A B
  obtain ⟨o,ho,p',e,h⟩:=hO.1 A
  rw [show k+1+j=(k+j)+1 by omega]
  exact hO.2 ⟨o,ho,p',e,ih j (b+1) p' q z h (by rw [show b+1+k=b+(k+1) by omega]; exact B)⟩
theorem BP: ∀ (k b:Nat) (t:aB) (x y:Int) (q:aB×Int),y≤x→q∈fO w k b (t,x)→ ∃ q'∈fO w k b (t,y),q'.1=q.1∧q'.2≤q.2:=by
 intro k
 induction k with
 |zero=>
  intro b t x y q A hq
  simp only [fO,bS] at hq ⊢
  subst hq
  exact ⟨_,U,U,A⟩
 |succ k ih=>
  intro b t x y q A hq
  obtain ⟨o,ho,p',e,h⟩:=hO.1 hq
  obtain ⟨B,rfl⟩:=gE.1 e
  simp only at B h
  obtain ⟨q',hq',C,D⟩:=ih (b+1) _ _ (max (y+bR w b) o.2.Lo) q I h
  exact ⟨q',hO.2 ⟨o,ho,_,gE.2 ⟨by simp only; omega,U⟩,hq'⟩,C,D⟩
theorem w9 {b:Nat} {t:aB} {x y:Int} (h:sh w b (t,x)) (hy:y≤x):sh w b (t,y):=by
 obtain ⟨k,hk,q,hq,hm⟩:=h
 obtain ⟨q',hq',e,_⟩:=BP k b t x y q hy hq
 exact ⟨k,hk,q',hq',by rw [e]; exact hm⟩
theorem uB {k b:Nat} {p q:aB×Int} (h:q∈fO w k b p) (hv:sh w (b+k) q):sh w b p:=by
 obtain ⟨j,hj,z,hz,hm⟩:=hv
 exact ⟨k+j,I,z,H6 k j b p q z h hz,hm⟩
theorem GC {b:Nat} {p q:aB×Int} {o:Int×aa} (h:Dn w b p) (ho:o∈iq w b) (e:kH w b p o=some q):Dn w (b+1) q:=by
 obtain ⟨v,hv,A⟩:=h
 obtain ⟨B,rfl⟩:=gE.1 e
 exact ⟨max (v+bR w b) o.2.Lo,fG.2 ⟨_,hv,o,ho,gE.2 ⟨by simp only; omega,U⟩⟩,by simp only; omega⟩
theorem BJ {b:Nat} {p:aB×Int} (h:p∈fwd w b):Dn w b p:=⟨p.2,h,Int.le_refl _⟩
theorem zj (hl: ∀ b,0≤bR w b): ∀ (b:Nat) (p:aB×Int),p∈fwd w b→w.Start≤p.2:=by
 intro b
 induction b with
 |zero=>intro p hp; simp only [fwd,bS] at hp; subst hp; exact Int.le_refl _
 |succ b ih=>
  intro q hq
  obtain ⟨p,hp,o,ho,e⟩:=fG.1 hq
  obtain ⟨_,rfl⟩:=gE.1 e
  have:=ih p hp
  have:=hl b
  simp only; omega
/-- a beam is passed at a time, by a signal -/
def yf (w:bO) (b:Nat) (s t:Int):Prop:= ∃ p∈fwd w b,∃ o∈iq w b,o.1=s∧(max (p.2+bR w b) o.2.Lo≤t∧t≤min o.2.Hi w.fZ)∧sh w (b+1) (di p.1 (fc o.1),t)
theorem Ap (hl: ∀ b,0≤bR w b) {b:Nat} (hb:b<w.n) {s t:Int}:(∃ q∈l8 w b,q.1=s∧q.2.Lo≤t∧t≤q.2.Hi)↔yf w b s t:=by
 constructor
 ·rintro ⟨q,hq,hs,C,D⟩
  obtain ⟨o,ho,p,hp,u,hu,e⟩:=g_.1 hq
  obtain ⟨B,A,rfl⟩:=jo.1 e
  simp only [jr] at C D B
  have hn:u.2≤w.fZ:=FR hl _ _ hu
  obtain ⟨k,hk,q,hq',E⟩:=Kn hl (w.n-(b+1)) (b+1) (di p.1 (fc o.1),t) u I (by simp only; omega) hu
  refine ⟨p,hp,o,ho,hs,⟨I,I⟩,k,hk,q,hq',?_⟩
  rw [E]
  unfold xG at A
  rw [show di (di p.1 (fc o.1)) u.1=di (di p.1 u.1) (fc o.1) by simp only [di,aB.mk.injEq]; omega]
  exact A
 ·rintro ⟨p,hp,o,ho,hs,⟨C,D⟩,k,hk,q,hq,hm⟩
  obtain ⟨u,hu,B,A⟩:=M1 k (b+1) _ q hk (by simp only; omega) hq
  simp only at B A
  refine ⟨(o.1,jr w b p u o),g_.2 ⟨o,ho,p,hp,u,hu,jo.2 ⟨by simp only [jr]; omega,?_,U⟩⟩,hs,by simp only [jr]; omega,by simp only [jr]; omega⟩
  unfold xG
  rw [A] at hm
  rw [show di (di p.1 u.1) (fc o.1)=di (di p.1 (fc o.1)) u.1 by simp only [di,aB.mk.injEq]; omega]
  exact hm
end
structure yi (w w':bO) (n:Int) (f:Int→Int):Prop where
 start:w'.Start=w.Start+n
 now:w'.fZ=w.fZ+n
 wn:w'.n=w.n
 low: ∀ b,0≤bR w b
 least: ∀ b,bR w' b=bR w b
 may: ∀ t,kq w t=true→kq w' t=true
 Uv: ∀ s,0≤f s↔0≤s
 opt: ∀ (b:Nat) (p:aB×Int) (o:Int×aa),b<w.n→w.Start≤p.2→Dn w b p→o∈iq w b→max (p.2+bR w b) o.2.Lo≤min o.2.Hi w.fZ→sh w (b+1) (di p.1 (fc o.1),max (p.2+bR w b) o.2.Lo)→
  ∃ o'∈iq w' b,o'.1=f o.1∧ ∀ t,w.Start≤t→t≤w.fZ→((o.2.Lo≤t∧t≤o.2.Hi)↔(o'.2.Lo≤t+n∧t+n≤o'.2.Hi))
section
variable {w w':bO} {n:Int} {f g:Int→Int}
theorem yi.one (h:yi w w' n f) (s:Int):fc (f s)=fc s:=by
 unfold fc
 have:=h.Uv s
 by_cases q:s<0
 ·rw [if_pos q,if_pos I]
 ·rw [if_neg q,if_neg I]
theorem yi.step (h:yi w w' n f) {b:Nat} {p q:aB×Int} {o:Int×aa} (hb:b<w.n) (hs:w.Start≤p.2) (hl:Dn w b p) (ho:o∈iq w b) (e:kH w b p o=some q) (hv:sh w (b+1) q):
 ∃ o'∈iq w' b,kH w' b (Kl n p) o'=some (Kl n q):=by
 obtain ⟨E,rfl⟩:=gE.1 e
 obtain ⟨o',ho',D,A⟩:=h.opt b p o hb hs hl ho E hv
 have F:=h.low b
 have B:=A (max (p.2+bR w b) o.2.Lo) I I
 have C:=A (max (p.2+n+bR w b) o'.2.Lo-n) I
 refine ⟨o',ho',gE.2 ?_⟩
 simp only [Kl,h.least,h.now]
 rw [D,h.one]
 have G:=B.1 I
 have H:=(C I).2 I
 refine ⟨I,?_⟩
 simp only [Prod.mk.injEq,true_and]
 omega
theorem yi.reach (h:yi w w' n f): ∀ (k b:Nat) (p q:aB×Int),b+k≤w.n→w.Start≤p.2→Dn w b p→q∈fO w k b p→sh w (b+k) q→Kl n q∈fO w' k b (Kl n p):=by
 intro k
 induction k with
 |zero=>
  intro b p q _ _ _ hq _
  simp only [fO,bS] at hq ⊢
  rw [hq]
 |succ k ih=>
  intro b p q hb hs hl hq hv
  obtain ⟨o,ho,p',e,hq'⟩:=hO.1 hq
  have hv':sh w (b+1) p':=uB hq' (by rw [show b+1+k=b+(k+1) by omega]; exact hv)
  obtain ⟨o',ho',e'⟩:=h.step I hs hl ho e hv'
  have A:=gE.1 e
  have B:=h.low b
  exact hO.2 ⟨o',ho',_,e',ih (b+1) p' q I (by rw [A.2]; simp only; omega) (GC hl ho e) hq' (by rw [show b+1+k=b+(k+1) by omega]; exact hv)⟩
theorem yi.Qf (h:yi w w' n f) {b:Nat} {p:aB×Int} (hs:w.Start≤p.2) (hl:Dn w b p) (hv:sh w b p):sh w' b (Kl n p):=by
 obtain ⟨k,hk,q,hq,hm⟩:=hv
 exact ⟨k,by rw [h.wn]; exact hk,_,h.reach k b p q hk hs hl hq ⟨0,I,q,by simp [fO],hm⟩,h.may _ hm⟩
theorem yi.fwd (h:yi w w' n f) {b:Nat} {q:aB×Int} (hb:b≤w.n) (hq:q∈fwd w b) (hv:sh w b q):Kl n q∈Go.Proofs.YtadjgjnicdcjbaaGreatDoor.fwd w' b:=by
 obtain ⟨p,hp,hr⟩:=(q6 b 0 q).1 (by rw [Nat.zero_add]; exact hq)
 have hr':=h.reach b 0 p q I (zj h.low 0 p hp) (BJ hp) hr (by rw [Nat.zero_add]; exact hv)
 have:Kl n p∈Go.Proofs.YtadjgjnicdcjbaaGreatDoor.fwd w' 0:=by
  simp only [Go.Proofs.YtadjgjnicdcjbaaGreatDoor.fwd,bS] at hp ⊢
  subst hp
  rw [h.start]; rfl
 have A:=(q6 b 0 (Kl n q)).2 ⟨_,this,hr'⟩
 rwa [Nat.zero_add] at A
theorem yi.any (h:yi w w' n f) {b:Nat} (hb:b≤w.n) (hm:ji w (Go.Proofs.YtadjgjnicdcjbaaGreatDoor.fwd w b)=true):ji w' (Go.Proofs.YtadjgjnicdcjbaaGreatDoor.fwd w' b)=true:=by
 unfold ji at hm ⊢
 obtain ⟨p,hp,A⟩:=List.any_eq_true.1 hm
 exact List.any_eq_true.2 ⟨_,h.fwd hb hp ⟨0,I,p,by simp [fO],A⟩,h.may _ A⟩
theorem yi.pass (h:yi w w' n f) {b:Nat} (hb:b<w.n) {s t:Int} (hp:yf w b s t):yf w' b (f s) (t+n):=by
 obtain ⟨p,hp,o,ho,rfl,⟨D,G⟩,hv⟩:=hp
 have hs:=zj h.low b p hp
 have hl:=h.low b
 have A:sh w (b+1) (di p.1 (fc o.1),max (p.2+bR w b) o.2.Lo):=w9 hv D
 have e:kH w b p o=some (di p.1 (fc o.1),max (p.2+bR w b) o.2.Lo):=gE.2 ⟨I,rfl⟩
 have B:sh w b p:=uB (k:=1) (hO.2 ⟨o,ho,_,e,by simp [fO]⟩) A
 obtain ⟨o',ho',C,E⟩:=h.opt b p o hb hs (BJ hp) ho I A
 have c:=(E t I I).1 I
 refine ⟨Kl n p,h.fwd I hp B,o',ho',C,?_,?_⟩
 ·simp only [Kl,h.least,h.now]; omega
 ·have F:=h.Qf (b:=b+1) (p:=(di p.1 (fc o.1),t)) (by simp only; omega) ⟨_,fG.2 ⟨p,hp,o,ho,e⟩,D⟩ hv
  rw [C,h.one]; exact F
theorem J_ (h:yi w w' n f) (h':yi w' w (-n) g):jC w'=jC w:=by
 unfold jC
 rw [h.wn]
 unfold kf
 congr 1
 refine List.filter_congr fun b hb=>?_
 have hb:=List.mem_range.1 hb
 rw [Bool.eq_iff_iff]
 exact ⟨h'.any (by rw [h.wn]; omega),h.any I⟩
theorem Bo (h:yi w w' n f) (hl': ∀ b,0≤bR w' b) {b:Nat} (hb:b<w.n) {s:Int} (hq: ∃ q∈l8 w b,q.1=s): ∃ q∈l8 w' b,q.1=f s:=by
 obtain ⟨q,hq,e⟩:=hq
 have A:q.2.Lo≤q.2.Hi:=mY hq
 obtain ⟨q',hq',e',_⟩:=(Ap hl' (by rw [h.wn]; exact hb)).2 (h.pass hb ((Ap h.low hb).1 ⟨q,hq,e,Int.le_refl _,A⟩))
 exact ⟨q',hq',e'⟩
theorem GN (h:yi w w' n f) (h':yi w' w (-n) g) {b:Nat} (hb:b<w.n):vW w' b=vW w b:=by
 rw [Bool.eq_iff_iff]
 unfold vW
 simp only [List.any_eq_true,decide_eq_true_eq]
 constructor
 ·rintro ⟨q,hq,A⟩
  obtain ⟨q',hq',e⟩:=Bo h' h.low (by rw [h.wn]; exact hb) ⟨q,hq,rfl⟩
  exact ⟨q',hq',by rw [e]; exact (h'.Uv _).2 A⟩
 ·rintro ⟨q,hq,A⟩
  obtain ⟨q',hq',e⟩:=Bo h h'.low hb ⟨q,hq,rfl⟩
  exact ⟨q',hq',by rw [e]; exact (h.Uv _).2 A⟩
end
section
variable {l l':a_} {r r':cv} {n:Int} {f g:Int→Int}
structure vO (l:a_) (r:cv) (l':a_) (r':cv) (n:Int) (f g:Int→Int):Prop where
 line:dq l=0
 line':dq l'=0
 yp:e9 l r
 ride':e9 l' r'
 Pu:l'.ae.length=l.ae.length
 to:yi (cj l r) (cj l' r') n f
 Vw:yi (cj l' r') (cj l r) (-n) g
theorem vO.G2 (h:vO l r l' r' n f g):jC (cj l' r')=jC (cj l r):=J_ h.to h.Vw
theorem vO.e (h:vO l r l' r' n f g) {me:Int}:eu l' r' me=eu l r me:=by
 by_cases hm:me=0
 ·by_cases q:jC (cj l r)=[]
  ·rw [pf h.line h.yp hm q,pf h.line' h.ride' hm (h.G2.trans q)]
  ·rw [lS h.line h.yp hm q,lS h.line' h.ride' hm (by rw [h.G2]; exact q)]
 ·rw [qJ h.line h.yp hm,qJ h.line' h.ride' hm]
theorem vO.z3 (h:vO l r l' r' n f g):kU l' r'=kU l r:=by
 by_cases q:eu l r 0=0
 ·rw [lT q,lT (h.e.trans q),h.G2]
 ·rw [uh q,uh (by rw [h.e]; exact q)]
theorem vO.vG (h:vO l r l' r' n f g) {b:Int}:jA l' b=jA l b:=by unfold jA; rw [h.Pu]
theorem vO.bn (h:vO l r l' r' n f g):(cj l r).n=l.ae.length:=dV
theorem vO.eL (h:vO l r l' r' n f g):v8 l' r'=v8 l r:=by
 by_cases q:eu l r 0=0
 ·rw [xx q,xx (h.e.trans q),h.z3]
  have hb:=RE q
  unfold An
  congr 1
  refine List.filter_congr fun b A=>?_
  have A:=List.mem_range.1 A
  rw [GN h.to h.Vw (by rw [h.bn]; omega)]
 ·rw [wG q,wG (by rw [h.e]; exact q)]
end
end
section
theorem m7 {l:a_} (ht:cT l.aP=true) (h:k9 l) {i:Nat} (hi:i<l.ae.length):1≤dN l i∧dN l i≤500000000:=by
 have A:=h.Rc i hi
 have B:=Gn ht h.vG i
 have hf:=h.head.1
 unfold dN pa
 refine ⟨(Int.le_ediv_iff_mul_le I).2 I,?_⟩
 have:(1000*lW l i+l.g9-1)/l.g9≤1000*lW l i+l.g9-1:=Int.ediv_le_self _ I
 omega
end
section
def cV (good:List Int):aB:=good.foldl (fun t g=>di t (fc g)) ⟨0,0⟩
theorem jT {l:List Int} {g:Int}:cV (l++[g])=di (cV l) (fc g):=by unfold cV; rw [List.foldl_append]; rfl
def tG (r:cv) (times:List Int) (b:Nat):Int:=if b=0 then r.Start else (times[b-1]?).getD 0
theorem pE {r:cv} {times:List Int} {b:Nat} {t:Int} (h:times[b]? =some t):tG r times (b+1)=t:=by unfold tG; rw [if_neg I,Nat.add_sub_cancel,h]; rfl
structure iv (l:a_) (r:cv) (times good:List Int):Prop where
 yp:e9 l r
 len:good.length=times.length
 le:times.length≤l.ae.length
 step: ∀ (b:Nat) t,times[b]? =some t→tG r times b+dN l b≤t∧t≤r.fZ
 sig: ∀ (b:Nat) t g,times[b]? =some t→good[b]? =some g→g= -1∨ ∃ (k:Nat) (s:aK),g=(k:Int)∧r.ag[k]? =some s∧s.gd=(b:Int)∧(cz l s).Lo≤t∧t≤(cz l s).Hi
 Jm:(cV good).eL≤l.cW
 TC:(r.ag.length:Int)-(cV good).right≤l.eV
section
variable {l:a_} {r:cv} {times good:List Int}
theorem iv.low (h:iv l r times good) (hl:dq l=0): ∀ b,0≤bR (cj l r) b:=fun b=>by
 obtain ⟨ht,A⟩:=gF hl
 exact ((o4 ht A h.yp).bR b).1
theorem iv.least (h:iv l r times good) {b:Nat} (hb:b<times.length):bR (cj l r) b=dN l b:=by
 have:=h.le
 rw [zA,if_pos I]
theorem iv.from_ (h:iv l r times good) (hl:dq l=0): ∀ b:Nat,b≤times.length→r.Start≤tG r times b∧tG r times b≤r.fZ:=by
 intro b
 induction b with
 |zero=>intro _; have:=h.yp.time; unfold tG; rw [if_pos rfl]; omega
 |succ b ih=>
  intro hb
  have ht:times[b]? =some (times[b]'I):=eC _
  have B:=ih I
  have C:=h.step b _ ht
  have A:=h.low hl b
  rw [h.least I] at A
  rw [pE ht]
  omega
/-- what comes next, in the truth -/
theorem iv.opt (h:iv l r times good) (hl:dq l=0) {b:Nat} {t g:Int} (ht:times[b]? =some t) (hg:good[b]? =some g): ∃ o∈iq (cj l r) b,o.1=g∧o.2.Lo≤t∧t≤o.2.Hi:=by
 have hb:=(List.getElem?_eq_some_iff.1 ht).1
 have E:=h.le
 have F:=h.step b t ht
 have G:=h.from_ hl b I
 have B:=h.low hl b
 rw [h.least hb] at B
 rcases h.sig b t g ht hg with rfl|⟨k,s,rfl,hs,A,C,D⟩
 ·exact ⟨(-1,⟨r.Start,r.fZ⟩),(qk I).2 (.inl U),U,by simp only; omega,by simp only; omega⟩
 ·exact ⟨((k:Int),cz l s),(qk I).2 (.inr ⟨k,(List.getElem?_eq_some_iff.1 hs).1,s,hs,⟨A,I⟩,U⟩),U,C,D⟩
theorem lQ {α:Type} {l:List α} {b:Nat} {x:α} (h:l[b]? =some x):l.take (b+1)=l.take b++[x]:=by rw [List.take_add_one,h]; rfl
theorem iv.live (h:iv l r times good) (hl:dq l=0): ∀ b:Nat,b≤times.length→Dn (cj l r) b (cV (good.take b),tG r times b):=by
 intro b
 induction b with
 |zero=>intro _; exact ⟨r.Start,by simp [fwd,cV]; rfl,by unfold tG; rw [if_pos rfl]; exact Int.le_refl _⟩
 |succ b ih=>
  intro hb
  have B:=h.len
  have ht:times[b]? =some (times[b]'I):=eC _
  have hg:good[b]? =some (good[b]'I):=eC _
  obtain ⟨v,hv,A⟩:=ih I
  obtain ⟨o,ho,e,C,D⟩:=h.opt hl ht hg
  have E:=h.step b _ ht
  have F:=h.least (b:=b) I
  simp only at A hv
  rw [pE ht,lQ hg,jT,← e]
  refine ⟨max (v+bR (cj l r) b) o.2.Lo,fG.2 ⟨_,hv,o,ho,gE.2 ⟨?_,U⟩⟩,?_⟩
  ·have G:(cj l r).fZ=r.fZ:=rfl
   simp only; omega
  ·simp only; omega
theorem iv.Qf (h:iv l r times good) (hl:dq l=0): ∀ (d b:Nat),b+d=times.length→sh (cj l r) b (cV (good.take b),tG r times b):=by
 intro d
 induction d with
 |zero=>
  intro b hb
  have hn:(cj l r).n=l.ae.length:=dV
  have C:=h.len
  have D:=h.le
  refine ⟨0,I,_,by simp [fO]; rfl,?_⟩
  rw [List.take_of_length_le I]
  unfold kq
  have A:=h.Jm
  have B:=h.TC
  exact fI ⟨A,B⟩
 |succ d ih=>
  intro b hb
  have C:=h.len
  have ht:times[b]? =some (times[b]'I):=eC _
  have hg:good[b]? =some (good[b]'I):=eC _
  obtain ⟨o,ho,e,D,A⟩:=h.opt hl ht hg
  have B:=h.step b _ ht
  have E:=h.least (b:=b) I
  have F:(cj l r).fZ=r.fZ:=rfl
  have hv:=ih (b+1) I
  rw [pE ht,lQ hg,jT,← e] at hv
  exact uB (k:=1) (hO.2 ⟨o,ho,_,gE.2 ⟨by first|omega|(simp only; omega),U⟩,by simp [fO]; rfl⟩) (w9 hv (by first|omega|(simp only; omega)))
theorem iv.pass (h:iv l r times good) (hl:dq l=0) {b:Nat} {t g:Int} (ht:times[b]? =some t) (hg:good[b]? =some g):yf (cj l r) b g t:=by
 have hb:=(List.getElem?_eq_some_iff.1 ht).1
 obtain ⟨v,hv,A⟩:=h.live hl b I
 obtain ⟨o,ho,e,B,C⟩:=h.opt hl ht hg
 have D:=h.step b _ ht
 have E:=h.least (b:=b) hb
 have F:(cj l r).fZ=r.fZ:=rfl
 have hw:=h.Qf hl (times.length-(b+1)) (b+1) I
 rw [pE ht,lQ hg,jT,← e] at hw
 simp only at A
 exact ⟨_,hv,o,ho,e,⟨by simp only; omega,I⟩,hw⟩
theorem iv.num (h:iv l r times good) (hl:dq l=0):(times.length:Int)∈jC (cj l r):=by
 obtain ⟨v,hv,_⟩:=h.live hl times.length (Nat.le_refl _)
 have hn:(cj l r).n=l.ae.length:=dV
 have B:=h.le
 refine oL.2 ⟨times.length,U,I,?_⟩
 unfold ji
 refine List.any_eq_true.2 ⟨_,hv,?_⟩
 have A:=h.len
 rw [List.take_of_length_le I]
 unfold kq
 exact fI ⟨h.Jm,h.TC⟩
theorem iv.e (h:iv l r times good) (hl:dq l=0):eu l r 0=0:=lS hl h.yp rfl fun e=>by have:=h.num hl; rw [e] at this; cases this
theorem iv.z3 (h:iv l r times good) (hl:dq l=0):(times.length:Int)∈kU l r:=by rw [lT (h.e hl)]; exact h.num hl
theorem iv.clear (h:iv l r times good) (hl:dq l=0):(EL l r=2→l.cH<(times.length:Int))∧(EL l r=0→(times.length:Int)≤l.cH):=by
 have hm:=h.z3 hl
 have A:=(Gw (uN (h.e hl))).2 _ hm
 have B:=(OO (uN (h.e hl))).2 _ hm
 unfold EL
 rw [if_pos (h.e hl)]
 constructor
 ·intro q
  split at q
  ·omega
  ·split at q<;>omega
 ·intro q
  split at q
  ·omega
  ·split at q<;>omega
end
end
section
def gv (hi:Int→Int) (least:Nat→Int) (now:Int):Nat→List Int→List Int×Int
 |_,[]=>([],now)
 |b,x::xs=>((if 0≤x then min (gv hi least now (b+1) xs).2 (hi x) else (gv hi least now (b+1) xs).2)::(gv hi least now (b+1) xs).1,(if 0≤x then min (gv hi least now (b+1) xs).2 (hi x) else (gv hi least now (b+1) xs).2)-least b)
def fU (t:Int):List Int→Int
 |[]=>t
 |x::xs=>fU x xs
def j2 (w:bO):Nat→Int→List Int→List Int→Prop
 |_,_,[],[]=>True
 |b,t,x::rs,y::fs=>(∃ o∈iq w b,o.1=x∧max (t+bR w b) o.2.Lo≤min o.2.Hi w.fZ∧y=max (t+bR w b) o.2.Lo)∧j2 w (b+1) y rs fs
 |_,_,_,_=>False
section
variable {w:bO} {hi:Int→Int} {least:Nat→Int} {now:Int}
theorem qQ: ∀ (b:Nat) (rs:List Int),(gv hi least now b rs).1.length=rs.length
 |_,[]=>rfl
 |b,x::xs=>by simp only [gv,List.length_cons]; rw [qQ]
theorem mZ: ∀ (t:Int) (fs:List Int) (y:Int),fU t (fs++[y])=y
 |_,[],_=>rfl
 |t,x::fs,y=>mZ x fs y
theorem BU: ∀ (t:Int) (fs:List Int) (y:Int),fs[fs.length-1]? =some y→fU t fs=y
 |t,[],y,h=>by simp at h
 |t,[x],y,h=>by simpa [fU] using h
 |t,x::x2::fs,y,h=>by
  show fU x (x2::fs)=y
  exact BU x (x2::fs) y (by simpa using h)
theorem tQ: ∀ (b:Nat) (rs:List Int) (x:Int) (ss:List Int),(gv hi least now b (rs++x::ss)).1[rs.length]? =some (if 0≤x then min (gv hi least now (b+rs.length+1) ss).2 (hi x) else (gv hi least now (b+rs.length+1) ss).2)
 |b,[],x,ss=>by simp [gv]
 |b,z::rs,x,ss=>by
  have:=tQ (b+1) rs x ss
  simp only [List.cons_append,gv,List.length_cons,List.getElem?_cons_succ]
  rw [this,show b+1+rs.length+1=b+(rs.length+1)+1 by omega]
theorem j5: ∀ (b:Nat) (t:Int) (rs fs:List Int),j2 w b t rs fs→fs.length=rs.length
 |_,_,[],[],_=>rfl
 |b,t,x::rs,y::fs,h=>by simp [j5 _ _ rs fs h.2]
 |_,_,[],_::_,h=>h.elim
 |_,_,_::_,[],h=>h.elim
theorem qS: ∀ (b:Nat) (t:Int) (rs fs ss gs:List Int),fs.length=rs.length→(j2 w b t (rs++ss) (fs++gs)↔j2 w b t rs fs∧j2 w (b+rs.length) (fU t fs) ss gs)
 |b,t,[],[],ss,gs,_=>by simp [j2,fU]
 |b,t,x::rs,y::fs,ss,gs,h=>by
  have ih:=qS (b+1) y rs fs ss gs (by simpa using h)
  simp only [List.cons_append,j2,List.length_cons,fU]
  rw [ih,show b+1+rs.length=b+(rs.length+1) by omega,and_assoc]
 |_,_,[],_::_,_,_,h=>by simp at h
 |_,_,_::_,[],_,_,h=>by simp at h
theorem EH (b:List Int): ∀ t:aB,b.foldl (fun t g=>di t (fc g)) t=di t (cV b):=by
 induction b with
 |nil=>intro t; exact (m8 t).symm
 |cons x b ih=>
  intro t
  show b.foldl (fun t g=>di t (fc g)) (di t (fc x))=di t (b.foldl (fun t g=>di t (fc g)) (di ⟨0,0⟩ (fc x)))
  rw [ih,ih]; simp only [di,aB.mk.injEq]; omega
theorem qX (a b:List Int):cV (a++b)=di (cV a) (cV b):=by
 show (a++b).foldl _ _=_
 rw [List.foldl_append,EH]; rfl
theorem re:cV []=(⟨0,0⟩:aB):=rfl
theorem pM (l:List Int):di (⟨0,0⟩:aB) (cV l)=cV l:=by simp [di]
theorem r9 (x:Int) (l:List Int):cV (x::l)=di (fc x) (cV l):=by
 rw [show x::l=[x]++l from rfl,qX,show cV [x]=fc x from (jT (l:=[])).trans (by rw [re]; simp [di])]
theorem tP: ∀ l:List Int,0≤(cV l).right∧0≤(cV l).eL∧(cV l).right+(cV l).eL=(l.length:Int)
 |[]=>by rw [re]; simp
 |x::l=>by
  rw [r9]
  have:=uv x
  have:=tP l
  simp only [di,List.length_cons]
  omega
/-- chains are what the watch goes through -/
theorem jM: ∀ (k b:Nat) (p q:aB×Int),q∈fO w k b p↔ ∃ rs fs,rs.length=k∧j2 w b p.2 rs fs∧q=(di p.1 (cV rs),fU p.2 fs):=by
 intro k
 induction k with
 |zero=>
  intro b p q
  simp only [fO,bS]
  constructor
  ·rintro rfl; exact ⟨[],[],rfl,trivial,by rw [re,m8]; rfl⟩
  ·rintro ⟨rs,fs,A,B,rfl⟩
   have A:=jD A
   subst A
   have:=jD (j5 _ _ _ _ B)
   subst this
   rw [re,m8]; rfl
 |succ k ih=>
  intro b p q
  rw [hO]
  constructor
  ·rintro ⟨o,ho,p',e,h⟩
   obtain ⟨A,rfl⟩:=gE.1 e
   obtain ⟨rs,fs,B,C,rfl⟩:=(ih _ _ _).1 h
   refine ⟨o.1::rs,max (p.2+bR w b) o.2.Lo::fs,by simp [B],⟨⟨o,ho,U,A,U⟩,C⟩,?_⟩
   rw [r9]
   simp only [fU,di,Prod.mk.injEq,aB.mk.injEq,and_true]; omega
  ·rintro ⟨rs,fs,A,B,rfl⟩
   cases rs with
   |nil=>simp at A
   |cons x rs=>
    cases fs with
    |nil=>exact B.elim
    |cons y fs=>
     obtain ⟨⟨o,ho,rfl,C,rfl⟩,D⟩:=B
     refine ⟨o,ho,_,gE.2 ⟨C,U⟩,(ih _ _ _).2 ⟨rs,fs,by simpa using A,D,?_⟩⟩
     rw [r9]
     simp only [fU,di,Prod.mk.injEq,aB.mk.injEq,and_true]; omega
/-- what the reference's rows of last times know -/
structure KX (w:bO) (hi:Int→Int) (least:Nat→Int) (now:Int):Prop where
 low: ∀ b,0≤bR w b
 least: ∀ b,b<w.n→least b=bR w b
 now:now=w.fZ
 hi: ∀ b o,b<w.n→o∈iq w b→0≤o.1→o.2.Hi=hi o.1
 none_: ∀ b o,b<w.n→o∈iq w b→ ¬ 0≤o.1→o.2.Hi=w.fZ
theorem wS (h:KX w hi least now): ∀ (b:Nat) (rs:List Int),b+rs.length≤w.n→(gv hi least now b rs).2≤w.fZ
 |_,[],_=>by simp only [gv]; exact Int.le_of_eq h.now
 |b,x::xs,hb=>by
  simp only [List.length_cons] at hb
  have B:=wS h (b+1) xs I
  have A:=h.low b
  rw [← h.least b I] at A
  simp only [gv]
  split<;>omega
theorem qW (h:KX w hi least now): ∀ (b:Nat) (t:Int) (rs fs:List Int),b+rs.length≤w.n→t≤w.fZ→j2 w b t rs fs→t≤(gv hi least now b rs).2
 |_,t,[],[],_,ht,_=>by simp only [gv]; rw [h.now]; exact ht
 |b,t,x::rs,y::fs,hb,ht,hc=>by
  simp only [List.length_cons] at hb
  obtain ⟨⟨o,ho,rfl,D,rfl⟩,A⟩:=hc
  have B:=qW h (b+1) _ rs fs I I A
  have C:=h.least b I
  simp only [gv]
  split
  ·rename_i q
   have:=h.hi b o I ho q
   omega
  ·omega
 |_,_,[],_::_,_,_,hc=>hc.elim
 |_,_,_::_,[],_,_,hc=>hc.elim
theorem xK (h:KX w hi least now): ∀ (b:Nat) (t t':Int) (rs fs:List Int),b+rs.length≤w.n→t≤t'→t'≤(gv hi least now b rs).2→j2 w b t rs fs→ ∃ gs,j2 w b t' rs gs
 |_,t,_,[],[],_,_,_,_=>⟨[],trivial⟩
 |b,t,t',x::rs,y::fs,hb,ht,he,hc=>by
  simp only [List.length_cons] at hb
  obtain ⟨⟨o,ho,rfl,E,rfl⟩,A⟩:=hc
  have C:=qW h (b+1) _ rs fs I I A
  have D:=h.least b I
  have F:=wS h (b+1) rs I
  simp only [gv] at he
  have B:max (t'+bR w b) o.2.Lo≤min o.2.Hi w.fZ∧max (t'+bR w b) o.2.Lo≤(gv hi least now (b+1) rs).2:=by
   split at he
   ·rename_i q
    have:=h.hi b o I ho q
    omega
   ·rename_i q
    have:=h.none_ b o I ho q
    omega
  obtain ⟨gs,hg⟩:=xK h (b+1) _ (max (t'+bR w b) o.2.Lo) rs fs I I B.2 A
  exact ⟨_::gs,⟨o,ho,U,B.1,U⟩,hg⟩
 |_,_,_,[],_::_,_,_,_,hc=>hc.elim
 |_,_,_,_::_,[],_,_,_,hc=>hc.elim
theorem BK (b:Nat) (t t':Int) (rs fs:List Int) (ht:t'≤t) (hc:j2 w b t rs fs): ∃ gs,j2 w b t' rs gs:=by
 have A:(di ⟨0,0⟩ (cV rs),fU t fs)∈fO w rs.length b (⟨0,0⟩,t):=(jM _ _ _ _).2 ⟨rs,fs,rfl,hc,rfl⟩
 clear A
 induction rs generalizing b t t' fs with
 |nil=>exact ⟨[],trivial⟩
 |cons x rs ih=>
  cases fs with
  |nil=>exact hc.elim
  |cons y fs=>
   obtain ⟨⟨o,ho,rfl,C,rfl⟩,B⟩:=hc
   obtain ⟨gs,hg⟩:=ih (b+1) _ (max (t'+bR w b) o.2.Lo) fs I B
   exact ⟨_::gs,⟨o,ho,U,I,U⟩,hg⟩
/-- a way, as it is asked for -/
structure Px (w:bO) (hi:Int→Int) (least:Nat→Int) (now:Int) (y:cZ):Prop where
 chain:j2 w 0 w.Start y.gp y.iD
 len:y.gp.length≤w.n
 last:y.lE=(gv hi least now 0 y.gp).1
 may:kq w (cV y.gp)=true
theorem BV {k:Nat}:ji w (fwd w k)=true↔ ∃ rs fs,rs.length=k∧j2 w 0 w.Start rs fs∧kq w (cV rs)=true:=by
 unfold ji
 rw [List.any_eq_true]
 have e:=fun q=>(q6 (w:=w) k 0 q)
 rw [Nat.zero_add] at e
 constructor
 ·rintro ⟨q,hq,hm⟩
  obtain ⟨p,hp,h⟩:=(e q).1 hq
  simp only [fwd,bS] at hp
  subst hp
  obtain ⟨rs,fs,A,B,rfl⟩:=(jM _ _ _ _).1 h
  refine ⟨rs,fs,A,B,?_⟩
  rwa [pM] at hm
 ·rintro ⟨rs,fs,A,B,C⟩
  refine ⟨_,(e _).2 ⟨((⟨0,0⟩:aB),w.Start),List.mem_singleton.2 U,(jM _ _ _ _).2 ⟨rs,fs,A,B,U⟩⟩,?_⟩
  simp only [pM]; exact C
theorem LV (h:KX w hi least now) (hs:w.Start≤w.fZ) {b:Nat} (hb:b<w.n) {s t:Int}:yf w b s t↔ ∃ y,Px w hi least now y∧ ∃ f e,y.gp[b]? =some s∧y.iD[b]? =some f∧y.lE[b]? =some e∧f≤t∧t≤e:=by
 have ef:=fun q=>(q6 (w:=w) b 0 q)
 rw [Nat.zero_add] at ef
 constructor
 ·rintro ⟨p,hp,o,ho,rfl,⟨C,L⟩,k,hk,q,hq,hm⟩
  obtain ⟨Y,AB,hp⟩:=(ef p).1 hp
  simp only [fwd,bS] at AB
  subst AB
  obtain ⟨rs,fs,K,D,rfl⟩:=(jM _ _ _ _).1 hp
  obtain ⟨ss,gs,AA,E,rfl⟩:=(jM _ _ _ _).1 hq
  simp only at C L D E hm
  obtain ⟨gs',J⟩:=BK (b+1) t (max (fU w.Start fs+bR w b) o.2.Lo) ss gs C E
  have H:=j5 _ _ _ _ D
  have T:=j5 _ _ _ _ J
  have hc:j2 w 0 w.Start (rs++o.1::ss) (fs++max (fU w.Start fs+bR w b) o.2.Lo::gs'):=(qS _ _ _ _ _ _ H).2 ⟨D,by rw [Nat.zero_add,K]; exact ⟨⟨o,ho,rfl,I,rfl⟩,J⟩⟩
  have he:=qW h (b+1) t ss gs I I E
  have A:=tQ (hi:=hi) (least:=least) (now:=now) 0 rs o.1 ss
  rw [Nat.zero_add,K] at A
  refine ⟨⟨rs++o.1::ss,fs++max (fU w.Start fs+bR w b) o.2.Lo::gs',(gv hi least now 0 (rs++o.1::ss)).1⟩,⟨hc,by simp; omega,U,?_⟩,max (fU w.Start fs+bR w b) o.2.Lo,_,?_,?_,A,C,?_⟩
  ·show kq w (cV (rs++o.1::ss))=true
   rw [show rs++o.1::ss=(rs++[o.1])++ss by simp,qX,jT]
   rwa [pM] at hm
  ·show (rs++o.1::ss)[b]? =some o.1
   rw [List.getElem?_append_right I,K,Nat.sub_self]; rfl
  ·show (fs++_::gs')[b]? =_
   rw [List.getElem?_append_right I,H,K,Nat.sub_self]; rfl
  ·split
   ·rename_i q
    have:=h.hi b o hb ho q
    omega
   ·exact he
 ·rintro ⟨y,hy,f,e,C,L,P,Q,V⟩
  obtain ⟨R,F,La⟩:=y
  obtain ⟨hc,hn,A,hm⟩:=hy
  simp only at C L P hc hn A hm
  have N:=(List.getElem?_eq_some_iff.1 C).1
  have S:=j5 _ _ _ _ hc
  have eR:R=R.take b++s::R.drop (b+1):=by rw [← (List.getElem?_eq_some_iff.1 C).2]; exact (List.take_append_drop b R).symm.trans (by rw [List.drop_eq_getElem_cons N])
  have M:b<F.length:=by omega
  have eF:F=F.take b++f::F.drop (b+1):=by rw [← (List.getElem?_eq_some_iff.1 L).2]; exact (List.take_append_drop b F).symm.trans (by rw [List.drop_eq_getElem_cons M])
  rw [eR,eF,qS _ _ _ _ _ _ (by simp only [List.length_take]; omega)] at hc
  have O:(R.take b).length=b:=by rw [List.length_take]; omega
  rw [O,Nat.zero_add] at hc
  obtain ⟨D,⟨o,ho,rfl,W,rfl⟩,E⟩:=hc
  have B:=tQ (hi:=hi) (least:=least) (now:=now) 0 (R.take b) o.1 (R.drop (b+1))
  rw [← eR,O,Nat.zero_add,← A,P] at B
  have B:=Option.some.inj B
  have G:t≤(gv hi least now (b+1) (R.drop (b+1))).2∧t≤min o.2.Hi w.fZ:=by
   have X:=wS h (b+1) (R.drop (b+1)) (by rw [List.length_drop]; omega)
   split at B
   ·rename_i q
    have:=h.hi b o hb ho q
    omega
   ·rename_i q
    have:=h.none_ b o hb ho q
    omega
  obtain ⟨gs,J⟩:=xK h (b+1) _ t (R.drop (b+1)) (F.drop (b+1)) (by rw [List.length_drop]; omega) Q G.1 E
  refine ⟨(di ⟨0,0⟩ (cV (R.take b)),fU w.Start (F.take b)),(ef _).2 ⟨((⟨0,0⟩:aB),w.Start),List.mem_singleton.2 U,(jM _ _ _ _).2 ⟨_,_,O,D,U⟩⟩,o,ho,U,⟨Q,G.2⟩,(R.drop (b+1)).length,by rw [List.length_drop]; omega,_,(jM _ _ _ _).2 ⟨_,gs,U,J,U⟩,?_⟩
  show kq w (di (di (di ⟨0,0⟩ (cV (R.take b))) (fc o.1)) (cV (R.drop (b+1))))=true
  rw [pM,← jT,← qX,show R.take b++[o.1]++R.drop (b+1)=R from by rw [List.append_assoc]; exact eR.symm]
  exact hm
end
noncomputable def MB (l:a_) (r:cv) (x:Int):Int:=match r.ag[x.toNat]? with
 |some s=>(cz l s).Hi
 |none=>0
theorem ER {l:a_} {r:cv} {x:Int} {s:aK} (h:r.ag[x.toNat]? =some s):MB l r x=(cz l s).Hi:=by unfold MB; rw [h]
noncomputable def jh (l:a_) (r:cv) (rs:List Int):List Int:=(gv (MB l r) (dN l) r.fZ 0 rs).1
noncomputable def oT (l:a_) (r:cv) (n:Nat) (t i:Int):Option Int:=
 if i<0 then (if t≤r.fZ then some t else none) else match r.ag[i.toNat]? with
  |some s=>if (s.gd=(n:Int)∧(cz l s).Lo≤(cz l s).Hi)∧max t (cz l s).Lo≤min r.fZ (cz l s).Hi then some (max t (cz l s).Lo) else none
  |none=>none
noncomputable def gL (l:a_) (r:cv) (rs fs:List Int):List cZ:=if (r.ag.length:Int)-(cV rs).right≤l.eV then [⟨rs,fs,jh l r rs⟩] else []
noncomputable def g8 (l:a_) (r:cv):Nat→List Int→List Int→List cZ
 |0,rs,fs=>if l.cW<(cV rs).eL then [] else gL l r rs fs
 |k+1,rs,fs=>if l.cW<(cV rs).eL then [] else gL l r rs fs++(List.range (r.ag.length+1)).flatMap fun (j:Nat)=>match oT l r rs.length (fU r.Start fs+dN l rs.length) ((j:Int)-1) with
  |some t=>g8 l r k (rs++[(j:Int)-1]) (fs++[t])
  |none=>[]
noncomputable def EE (l:a_) (r:cv) (k:Nat) (rs fs:List Int) (j:Nat):List cZ:=gL l r rs fs++(List.range j).flatMap fun (j:Nat)=>match oT l r rs.length (fU r.Start fs+dN l rs.length) ((j:Int)-1) with
 |some t=>g8 l r k (rs++[(j:Int)-1]) (fs++[t])
 |none=>[]
noncomputable def hZ (l:a_) (r:cv) (k:Nat) (rs fs:List Int) (j:Nat):List cZ:=(List.range j).flatMap fun (j:Nat)=>match oT l r rs.length (fU r.Start fs+dN l rs.length) ((j:Int)-1) with
 |some t=>g8 l r k (rs++[(j:Int)-1]) (fs++[t])
 |none=>[]
section
variable {l:a_} {r:cv} {k j:Nat} {rs fs:List Int} {t:Int}
theorem q8:EE l r k rs fs j=gL l r rs fs++hZ l r k rs fs j:=rfl
theorem m_ (h:oT l r rs.length (fU r.Start fs+dN l rs.length) ((j:Int)-1)=some t):hZ l r k rs fs (j+1)=hZ l r k rs fs j++g8 l r k (rs++[(j:Int)-1]) (fs++[t]):=by
 unfold hZ; rw [List.range_succ,List.flatMap_append]; simp [h]
theorem qw (h:oT l r rs.length (fU r.Start fs+dN l rs.length) ((j:Int)-1)=none):hZ l r k rs fs (j+1)=hZ l r k rs fs j:=by
 unfold hZ; rw [List.range_succ,List.flatMap_append]; simp [h]
theorem nG (h:l.cW<(cV rs).eL):g8 l r k rs fs=[]:=by cases k<;>exact if_pos h
theorem nk (h: ¬ l.cW<(cV rs).eL):g8 l r 0 rs fs=gL l r rs fs:=if_neg h
theorem nD (h: ¬ l.cW<(cV rs).eL):g8 l r (k+1) rs fs=EE l r k rs fs (r.ag.length+1):=if_neg h
theorem BA {n:Nat} (hn:n<l.ae.length) (hl:0≤dN l n) (ht:r.Start≤t) {i y:Int} (hi: -1≤i):oT l r n (t+dN l n) i=some y↔ ∃ o∈iq (cj l r) n,o.1=i∧max (t+bR (cj l r) n) o.2.Lo≤min o.2.Hi (cj l r).fZ∧y=max (t+bR (cj l r) n) o.2.Lo:=by
 rw [pw hn]
 have hw:(cj l r).fZ=r.fZ:=rfl
 unfold oT
 constructor
 ·intro h
  split at h
  ·rename_i B
   split at h
   ·cases h
    exact ⟨(-1,⟨r.Start,r.fZ⟩),(qk hn).2 (.inl U),by simp only; omega,by simp only; omega,by simp only; omega⟩
   ·cases h
  ·rename_i B
   split at h
   ·rename_i s hs
    split at h
    ·rename_i q
     cases h
     exact ⟨((i.toNat:Nat),cz l s),(qk hn).2 (.inr ⟨i.toNat,(List.getElem?_eq_some_iff.1 hs).1,s,hs,q.1,U⟩),by simp only; omega,by simp only; omega,U⟩
    ·cases h
   ·cases h
 ·rintro ⟨o,ho,rfl,A,rfl⟩
  rcases (qk hn).1 ho with rfl|⟨k,hk,s,hs,q,rfl⟩
  ·simp only at A ⊢
   rw [if_pos I,if_pos I]
   congr 1; omega
  ·simp only at A ⊢
   rw [if_neg I,Int.toNat_natCast,hs]
   simp only
   rw [if_pos ⟨q,I⟩]
theorem Jh (hl: ∀ n,n<l.ae.length→0≤dN l n): ∀ (k:Nat) (rs fs:List Int) (y:cZ),rs.length+k=l.ae.length→fs.length=rs.length→r.Start≤fU r.Start fs→
 (y∈g8 l r k rs fs↔ ∃ ss gs,j2 (cj l r) rs.length (fU r.Start fs) ss gs∧ss.length≤k∧y=⟨rs++ss,fs++gs,jh l r (rs++ss)⟩∧kq (cj l r) (cV (rs++ss))=true):=by
 have D: ∀ (rs fs:List Int) (y:cZ),¬ l.cW<(cV rs).eL→(y∈gL l r rs fs↔y=⟨rs++[],fs++[],jh l r (rs++[])⟩∧kq (cj l r) (cV (rs++[]))=true):=by
  intro rs fs y hm
  unfold gL
  rw [List.append_nil,List.append_nil]
  have e:kq (cj l r) (cV rs)=true↔(r.ag.length:Int)-(cV rs).right≤l.eV:=by
   unfold kq
   rw [decide_eq_true_eq]
   exact ⟨fun q=>q.2,fun q=>⟨by have:(cj l r).cW=l.cW:=rfl; omega,q⟩⟩
  split
  ·rename_i q
   rw [bS]
   exact ⟨fun h=>⟨h,e.2 q⟩,fun h=>h.1⟩
  ·rename_i q
   exact ⟨fun h=>(by cases h),fun h=>absurd (e.1 h.2) q⟩
 have Jm: ∀ (rs ss:List Int),l.cW<(cV rs).eL→ ¬ kq (cj l r) (cV (rs++ss))=true:=by
  intro rs ss h q
  unfold kq at q
  have:=(of_decide_eq_true q).1
  rw [qX] at this
  have C:=tP ss
  simp only [di] at this
  have:(cj l r).cW=l.cW:=rfl
  omega
 intro k
 induction k with
 |zero=>
  intro rs fs y hn hf hs
  by_cases hm:l.cW<(cV rs).eL
  ·rw [nG hm]
   exact ⟨fun h=>(by cases h),fun ⟨ss,gs,_,_,_,q⟩=>absurd q (Jm rs ss hm)⟩
  ·rw [nk hm,D _ _ _ hm]
   constructor
   ·rintro ⟨B,C⟩; exact ⟨[],[],trivial,sm,B,C⟩
   ·rintro ⟨ss,gs,B,C,E,F⟩
    have e:=jD (Nat.le_zero.1 C)
    subst e
    have e:=jD (j5 _ _ _ _ B)
    subst e
    exact ⟨E,F⟩
 |succ k ih=>
  intro rs fs y hn hf hs
  by_cases hm:l.cW<(cV rs).eL
  ·rw [nG hm]
   exact ⟨fun h=>(by cases h),fun ⟨ss,gs,_,_,_,q⟩=>absurd q (Jm rs ss hm)⟩
  ·rw [nD hm]
   unfold EE
   rw [kF,D _ _ _ hm,List.mem_flatMap]
   have A: ∀ (x y:Int),(rs++[x]).length+k=l.ae.length∧(fs++[y]).length=(rs++[x]).length:=fun x y=>by simp; omega
   constructor
   ·rintro (⟨B,C⟩|⟨j,hj,h⟩)
    ·exact ⟨[],[],trivial,sm,B,C⟩
    ·cases e:oT l r rs.length (fU r.Start fs+dN l rs.length) ((j:Int)-1) with
     |none=>rw [e] at h; cases h
     |some t=>
      rw [e] at h
      simp only at h
      obtain ⟨o,ho,B,C,E⟩:=(BA I (hl _ I) hs I).1 e
      have G:r.Start≤t:=by
       have:=hl rs.length I
       rw [pw I] at E
       omega
      obtain ⟨ss,gs,F,J,H,AA⟩:=(ih _ _ y (A _ t).1 (A _ t).2 (by rw [mZ]; exact G)).1 h
      rw [mZ,List.length_append] at F
      refine ⟨((j:Int)-1)::ss,t::gs,⟨⟨o,ho,B,C,E⟩,F⟩,by simp; omega,by simpa using H,by simpa using AA⟩
   ·rintro ⟨ss,gs,B,C,E,F⟩
    cases ss with
    |nil=>
     have e:=jD (j5 _ _ _ _ B)
     subst e
     exact .inl ⟨E,F⟩
    |cons x ss=>
     cases gs with
     |nil=>exact B.elim
     |cons t gs=>
      obtain ⟨⟨o,ho,rfl,J,H⟩,AA⟩:=B
      right
      have hx: -1≤o.1∧o.1<(r.ag.length:Int):=by
       rcases (qk I).1 ho with rfl|⟨k,hk,s,hs,q,rfl⟩
       ·simp only; omega
       ·simp only; omega
      have G:r.Start≤t:=by
       have:=hl rs.length I
       rw [pw I] at H
       omega
      have K:((o.1+1).toNat:Int)-1=o.1:=by omega
      refine ⟨(o.1+1).toNat,List.mem_range.2 I,?_⟩
      rw [K,(BA I (hl _ I) hs I).2 ⟨o,ho,rfl,J,H⟩]
      simp only
      refine (ih _ _ y (A _ t).1 (A _ t).2 (by rw [mZ]; exact G)).2 ⟨ss,gs,?_,?_,?_,?_⟩
      ·rw [mZ,List.length_append]; exact AA
      ·simp only [List.length_cons] at C; omega
      ·simpa using E
      ·simpa using F
end
theorem zg {l:a_} {r:cv} {rs fs:List Int} (h:(r.ag.length:Int)-(cV rs).right≤l.eV):gL l r rs fs=[⟨rs,fs,jh l r rs⟩]:=if_pos h
theorem xD {l:a_} {r:cv} {rs fs:List Int} (h: ¬ (r.ag.length:Int)-(cV rs).right≤l.eV):gL l r rs fs=[]:=if_neg h
noncomputable def eM (l:a_) (r:cv) (i:Nat):List aa:=(r.ag.take i).map (cz l)
noncomputable def e8 (l:a_) (r:cv) (i:Nat):List Bool:=(r.ag.take i).map fun s=>decide ((cz l s).Lo≤(cz l s).Hi)
section
variable {l:a_} {r:cv} {i n:Nat} {s:aK} {rs:List Int}
theorem E3 (h:r.ag[i]? =some s):eM l r (i+1)=eM l r i++[cz l s]:=by unfold eM; rw [List.take_add_one,h,List.map_append]; rfl
theorem DX (h:r.ag[i]? =some s):e8 l r (i+1)=e8 l r i++[decide ((cz l s).Lo≤(cz l s).Hi)]:=by unfold e8; rw [List.take_add_one,h,List.map_append]; rfl
theorem q9 (h:i≤r.ag.length):(eM l r i).length=i:=by unfold eM; rw [List.length_map,List.length_take]; omega
theorem uy (h:i≤r.ag.length):(e8 l r i).length=i:=by unfold e8; rw [List.length_map,List.length_take]; omega
theorem Kq {k:Nat} {z:aa} (hs:r.ag[k]? =some s) (hz:(eM l r r.ag.length)[k]? =some z):z=cz l s:=by
 unfold eM at hz
 rw [List.take_length,fq,hs] at hz
 exact (Option.some.inj hz).symm
theorem Mc {k:Nat} {z:aa} (hz:(eM l r r.ag.length)[k]? =some z): ∃ s,r.ag[k]? =some s∧z=cz l s:=by
 unfold eM at hz
 rw [List.take_length,fq] at hz
 cases h:r.ag[k]? with
 |none=>rw [h] at hz; cases hz
 |some s=>rw [h] at hz; exact ⟨s,rfl,(Option.some.inj hz).symm⟩
theorem Bv {k:Nat} {z:Bool} (hs:r.ag[k]? =some s) (hz:(e8 l r r.ag.length)[k]? =some z):z=true↔(cz l s).Lo≤(cz l s).Hi:=by
 unfold e8 at hz
 rw [List.take_length,fq,hs] at hz
 rw [← Option.some.inj hz]
 exact decide_eq_true_iff
theorem wv (l:a_) (s:aK):(0≤(cz l s).Lo∧(cz l s).Lo≤86400001)∧ -1≤(cz l s).Hi∧(cz l s).Hi≤86400000:=by
 have A:=ij (p:=fY (pN l s) s.Read) (n:=86400001)
 have B:=ij (p:=fW (pN l s) s.Read) (n:=86400001)
 unfold cz qh
 simp only
 omega
/-- the last times from a beam on -/
noncomputable def jy (l:a_) (r:cv) (rs:List Int) (j:Nat):List Int×Int:=gv (MB l r) (dN l) r.fZ j (rs.drop j)
noncomputable def jz (l:a_) (r:cv) (rs:List Int) (j:Nat):List Int:=List.replicate j 0++(jy l r rs j).1
noncomputable def tO (l:a_) (r:cv) (rs:List Int) (j:Nat) (x:Int):Int:=if 0≤x then min (jy l r rs j).2 (MB l r x) else (jy l r rs j).2
theorem ui:jy l r rs rs.length=([],r.fZ):=by unfold jy; rw [List.drop_length]; rfl
theorem H9:jz l r rs rs.length=List.replicate rs.length 0:=by unfold jz; rw [ui]; simp
theorem DD:jz l r rs 0=jh l r rs:=by unfold jz jy jh; simp
theorem pD {j:Nat} {x:Int} (hj:0<j) (hx:rs[j-1]? =some x):jy l r rs (j-1)=(tO l r rs j x::(jy l r rs j).1,tO l r rs j x-dN l (j-1)):=by
 unfold jy tO
 have hb:=(List.getElem?_eq_some_iff.1 hx).1
 rw [List.drop_eq_getElem_cons hb,(List.getElem?_eq_some_iff.1 hx).2,show j-1+1=j by omega]
 simp only [gv]
 rw [show j-1+1=j by omega]
 rfl
theorem GI {j:Nat} (h:j≤rs.length):(jz l r rs j).length=rs.length:=by unfold jz jy; rw [List.length_append,List.length_replicate,qQ,List.length_drop]; omega
theorem yB {j:Nat} {x:Int} (hj:0<j) (hx:rs[j-1]? =some x):(jz l r rs j).set (j-1) (tO l r rs j x)=jz l r rs (j-1):=by
 unfold jz
 rw [pD hj hx]
 simp only
 obtain ⟨k,rfl⟩: ∃ k,j=k+1:=⟨j-1,I⟩
 rw [Nat.add_sub_cancel,List.replicate_succ',List.append_assoc,List.set_append_right _ _ sm,List.length_replicate,Nat.sub_self]
 rfl
theorem Gp (hr:0≤r.fZ∧r.fZ≤86400000) (hl: ∀ b,b<rs.length→0≤dN l b∧dN l b≤500000000) (hrs: ∀ x∈rs,0≤x→x<(r.ag.length:Int)): ∀ (d j:Nat),j+d=rs.length→(-1-500000000*(d:Int))≤(jy l r rs j).2∧(jy l r rs j).2≤86400000
 |0,j,h=>by
  obtain rfl:j=rs.length:=by omega
  rw [ui]; simp only; omega
 |d+1,j,h=>by
  have ih:=Gp hr hl hrs d (j+1) I
  have hx:rs[j+1-1]? =some (rs[j]'I):=by rw [Nat.add_sub_cancel]; exact eC _
  have e:=pD (l:=l) (r:=r) (j:=j+1) I hx
  rw [Nat.add_sub_cancel] at e
  rw [e]
  simp only
  have A:=hl j I
  unfold tO
  split
  ·rename_i q
   have B:=hrs _ (List.getElem_mem (by omega:j<rs.length)) q
   obtain ⟨s,hs⟩: ∃ s,r.ag[(rs[j]'I).toNat]? =some s:=⟨r.ag[(rs[j]'I).toNat]'I,eC _⟩
   rw [ER hs]
   have C:=wv l s
   omega
  ·omega
theorem Lp {t i:Int} (hi:i<0):(t≤r.fZ→oT l r n t i=some t)∧(¬ t≤r.fZ→oT l r n t i=none):=by
 unfold oT; rw [if_pos hi]; exact ⟨fun h=>if_pos h,fun h=>if_neg h⟩
theorem JU {t i:Int} (hi: ¬ i<0) (hs:r.ag[i.toNat]? =some s) (hb:s.gd=(n:Int)) (hw:(cz l s).Lo≤(cz l s).Hi):(max t (cz l s).Lo≤min r.fZ (cz l s).Hi→oT l r n t i=some (max t (cz l s).Lo))∧(¬ max t (cz l s).Lo≤min r.fZ (cz l s).Hi→oT l r n t i=none):=by
 unfold oT; rw [if_neg hi,hs]
 exact ⟨fun h=>if_pos ⟨⟨hb,hw⟩,h⟩,fun h=>if_neg fun q=>h q.2⟩
theorem wJ {t i:Int} (hi: ¬ i<0) (hs:r.ag[i.toNat]? =some s) (hb: ¬ (s.gd=(n:Int)∧(cz l s).Lo≤(cz l s).Hi)):oT l r n t i=none:=by
 unfold oT; rw [if_neg hi,hs]
 exact if_neg fun q=>hb q.1
theorem sX {x:Int} (hx:rs[i]? =some x):(cV (rs.take (i+1))).right=(cV (rs.take i)).right+(if 0≤x then 1 else 0):=by
 rw [lQ hx,jT]
 unfold fc
 simp only [di]
 by_cases h:x<0
 ·rw [if_pos h,if_neg I]
 ·rw [if_neg h,if_pos I]
end
theorem w5 {l:a_} {r:cv} {rs fs:List Int}:(gL l r rs fs).length≤1:=by unfold gL; split<;>simp
theorem xy {l:a_} {r:cv} (hr:r.ag.length≤10): ∀ (k:Nat) (rs fs:List Int),(g8 l r k rs fs).length≤12^(k+1)
 |0,rs,fs=>by
  unfold g8
  split
  ·simp
  ·have:=w5 (l:=l) (r:=r) (rs:=rs) (fs:=fs); omega
 |k+1,rs,fs=>by
  unfold g8
  split
  ·simp
  ·rw [List.length_append]
   have B:=w5 (l:=l) (r:=r) (rs:=rs) (fs:=fs)
   have A: ∀ j,(hZ l r k rs fs j).length≤j*12^(k+1):=by
    intro j
    induction j with
    |zero=>simp [hZ]
    |succ j ih=>
     cases e:oT l r rs.length (fU r.Start fs+dN l rs.length) ((j:Int)-1) with
     |none=>rw [qw e,Nat.succ_mul]; exact Nat.le_trans ih (Nat.le_add_right _ _)
     |some t=>rw [m_ e,List.length_append,Nat.succ_mul]; exact Nat.add_le_add ih (xy hr k (rs++[(j:Int)-1]) (fs++[t]))
   have C:=A (r.ag.length+1)
   have D:(r.ag.length+1)*12^(k+1)≤11*12^(k+1):=Nat.mul_le_mul_right _ I
   have E:0<12^(k+1):=Nat.pow_pos dc
   have F:12^(k+1+1)=12*12^(k+1):=by rw [Nat.pow_succ,Nat.mul_comm]
   show (gL l r rs fs).length+(hZ l r k rs fs (r.ag.length+1)).length≤_
   omega
theorem Mi {l:a_} {r:cv} (hr:r.ag.length≤10) {k j:Nat} {rs fs:List Int} (hk:k≤5) (hj:j≤11):(hZ l r k rs fs j).length≤40000000:=by
 have A: ∀ j,(hZ l r k rs fs j).length≤j*12^(k+1):=by
  intro j
  induction j with
  |zero=>simp [hZ]
  |succ j ih=>
   cases e:oT l r rs.length (fU r.Start fs+dN l rs.length) ((j:Int)-1) with
   |none=>rw [qw e,Nat.succ_mul]; exact Nat.le_trans ih (Nat.le_add_right _ _)
   |some t=>rw [m_ e,List.length_append,Nat.succ_mul]; exact Nat.add_le_add ih (xy hr k (rs++[(j:Int)-1]) (fs++[t]))
 have C:=A j
 have B:12^(k+1)≤12^6:=Nat.pow_le_pow_right dc I
 have D:j*12^(k+1)≤11*12^6:=Nat.mul_le_mul hj B
 omega
theorem uS {l:a_} {r:cv} (hr:r.ag.length≤10) {k:Nat} {rs fs:List Int} (hk:k≤6):(g8 l r k rs fs).length≤40000000:=by
 have A:=xy hr k rs fs (l:=l)
 have B:12^(k+1)≤12^7:=Nat.pow_le_pow_right dc I
 omega
noncomputable def p6 (l:a_) (r:cv):List cZ:=g8 l r l.ae.length [] []
section
variable {l:a_} {r:cv}
theorem lX:(cj l r).n=l.ae.length:=dV
theorem Pw (hle:dq l=0) (hr:e9 l r):KX (cj l r) (MB l r) (dN l) r.fZ:=by
 obtain ⟨ht,B⟩:=gF hle
 refine ⟨fun b=>((o4 ht B hr).bR b).1,fun b hb=>(pw (by rw [lX] at hb; exact hb)).symm,U,fun b o hb ho A=>?_,fun b o hb ho A=>?_⟩
 ·rw [lX] at hb
  rcases (qk hb).1 ho with rfl|⟨k,hk,s,hs,q,rfl⟩
  ·simp only at A; omega
  ·exact (ER (by simpa using hs)).symm
 ·rw [lX] at hb
  rcases (qk hb).1 ho with rfl|⟨k,hk,s,hs,q,rfl⟩
  ·rfl
  ·simp only at A; omega
theorem pk (hle:dq l=0) (hr:e9 l r) {y:cZ}:y∈p6 l r↔Px (cj l r) (MB l r) (dN l) r.fZ y:=by
 obtain ⟨ht,D⟩:=gF hle
 have hl: ∀ n,n<l.ae.length→0≤dN l n:=fun n hn=>by have:=m7 ht D (i:=n) hn; omega
 unfold p6
 rw [Jh hl _ _ _ _ sm rfl (Int.le_refl _)]
 constructor
 ·rintro ⟨ss,gs,B,A,rfl,C⟩
  exact ⟨B,by rw [lX]; exact A,U,C⟩
 ·rintro ⟨B,A,E,C⟩
  rw [lX] at A
  exact ⟨y.gp,y.iD,B,A,by rw [List.nil_append,List.nil_append]; unfold jh; rw [← E],C⟩
theorem Lh (hle:dq l=0) (hr:e9 l r) {k:Nat} (hk:k≤l.ae.length):((p6 l r).any fun y=>decide (y.gp.length=k))=ji (cj l r) (fwd (cj l r) k):=by
 rw [Bool.eq_iff_iff,BV,List.any_eq_true]
 constructor
 ·rintro ⟨y,hy,e⟩
  have h:=(pk hle hr).1 hy
  exact ⟨y.gp,y.iD,of_decide_eq_true e,h.chain,h.may⟩
 ·rintro ⟨rs,fs,e,A,B⟩
  exact ⟨⟨rs,fs,(gv (MB l r) (dN l) r.fZ 0 rs).1⟩,(pk hle hr).2 ⟨A,by rw [lX]; simp only; omega,U,B⟩,fI e⟩
theorem fE (hle:dq l=0) (hr:e9 l r):p6 l r=[]↔jC (cj l r)=[]:=by
 constructor
 ·intro h
  apply List.eq_nil_iff_forall_not_mem.2
  intro x hx
  obtain ⟨k,rfl,hk,hm⟩:=oL.1 hx
  rw [lX] at hk
  rw [← Lh hle hr hk,h] at hm
  cases hm
 ·intro h
  apply List.eq_nil_iff_forall_not_mem.2
  intro y hy
  have hw:=(pk hle hr).1 hy
  have:(y.gp.length:Int)∈jC (cj l r):=oL.2 ⟨y.gp.length,rfl,hw.len,BV.2 ⟨_,_,rfl,hw.chain,hw.may⟩⟩
  rw [h] at this; cases this
/-- the times at a beam, by all ways -/
def iM (b:Nat) (ws:List cZ):List (Int×aa):=ws.filterMap fun y=>match y.gp[b]?,y.iD[b]?,y.lE[b]? with
 |some s,some f,some e=>some (s,⟨f,e⟩)
 |_,_,_=>none
theorem nq {b:Nat} {ws:List cZ} {q:Int×aa}:q∈iM b ws↔ ∃ y∈ws,y.gp[b]? =some q.1∧y.iD[b]? =some q.2.Lo∧y.lE[b]? =some q.2.Hi:=by
 unfold iM
 rw [List.mem_filterMap]
 constructor
 ·rintro ⟨y,hy,h⟩
  cases e1:y.gp[b]? with
  |none=>rw [e1] at h; cases h
  |some s=>
   cases e2:y.iD[b]? with
   |none=>rw [e1,e2] at h; cases h
   |some f=>
    cases e3:y.lE[b]? with
    |none=>rw [e1,e2,e3] at h; cases h
    |some e=>
     rw [e1,e2,e3] at h; cases h
     exact ⟨y,hy,e1,e2,e3⟩
 ·rintro ⟨y,hy,A,B,C⟩
  exact ⟨y,hy,by rw [A,B,C]⟩
theorem xA {b:Nat} {ws:List cZ} {y:cZ} (h:y.gp.length≤b):iM b (ws++[y])=iM b ws:=by
 unfold iM; rw [List.filterMap_append]; simp [List.getElem?_eq_none h]
theorem pQ {b:Nat} {ws:List cZ} {y:cZ} {s f e:Int} (h1:y.gp[b]? =some s) (h2:y.iD[b]? =some f) (h3:y.lE[b]? =some e):iM b (ws++[y])=iM b ws++[(s,⟨f,e⟩)]:=by
 unfold iM; rw [List.filterMap_append]; simp [h1,h2,h3]
theorem KH (hle:dq l=0) (hr:e9 l r) {y:cZ} (hy:y∈p6 l r):y.iD.length=y.gp.length∧y.lE.length=y.gp.length∧y.gp.length≤l.ae.length:=by
 have h:=(pk hle hr).1 hy
 exact ⟨j5 _ _ _ _ h.chain,by rw [h.last,qQ],by have:=h.len; rwa [lX] at this⟩
theorem tj (hle:dq l=0) (hr:e9 l r) {b:Nat} (hb:b<l.ae.length) {s t:Int}:(∃ q∈l8 (cj l r) b,q.1=s∧q.2.Lo≤t∧t≤q.2.Hi)↔ ∃ q∈iM b (p6 l r),q.1=s∧q.2.Lo≤t∧t≤q.2.Hi:=by
 have hh:=Pw hle hr
 rw [Ap hh.low (by rw [lX]; exact hb),LV hh hr.time.2.1 (by rw [lX]; exact hb)]
 constructor
 ·rintro ⟨y,hy,f,e,A,B,C,D,E⟩
  exact ⟨(s,⟨f,e⟩),nq.2 ⟨y,(pk hle hr).2 hy,A,B,C⟩,U,D,E⟩
 ·rintro ⟨q,hq,rfl,D,E⟩
  obtain ⟨y,hy,A,B,C⟩:=nq.1 hq
  exact ⟨y,(pk hle hr).1 hy,_,_,A,B,C,D,E⟩
/-- a way's span is none that is empty -/
theorem xR (hle:dq l=0) (hr:e9 l r) {b:Nat} {q:Int×aa} (hq:q∈iM b (p6 l r)):q.2.Lo≤q.2.Hi:=by
 have hh:=Pw hle hr
 obtain ⟨y,hy,C,D,H⟩:=nq.1 hq
 obtain ⟨hc,hn,B,hm⟩:=(pk hle hr).1 hy
 obtain ⟨R,F,La⟩:=y
 simp only at C D H hc hn B
 have G:=(List.getElem?_eq_some_iff.1 C).1
 have E:=(List.getElem?_eq_some_iff.1 D).1
 have L:=j5 _ _ _ _ hc
 have eR:R=R.take b++q.1::R.drop (b+1):=by rw [← (List.getElem?_eq_some_iff.1 C).2]; exact (List.take_append_drop b R).symm.trans (by rw [List.drop_eq_getElem_cons G])
 have eF:F=F.take b++q.2.Lo::F.drop (b+1):=by rw [← (List.getElem?_eq_some_iff.1 D).2]; exact (List.take_append_drop b F).symm.trans (by rw [List.drop_eq_getElem_cons E])
 rw [eR,eF,qS _ _ _ _ _ _ (by simp only [List.length_take]; omega)] at hc
 have AA:(R.take b).length=b:=by rw [List.length_take]; omega
 rw [AA,Nat.zero_add] at hc
 obtain ⟨M,⟨o,ho,K,N,O⟩,J⟩:=hc
 have A:=tQ (hi:=MB l r) (least:=dN l) (now:=r.fZ) 0 (R.take b) q.1 (R.drop (b+1))
 rw [← eR,AA,Nat.zero_add,← B,H] at A
 have A:=Option.some.inj A
 have he:=qW hh (b+1) q.2.Lo (R.drop (b+1)) (F.drop (b+1)) (by rw [List.length_drop]; omega) I J
 rw [← K] at A
 split at A
 ·rename_i z
  have:=hh.hi b o I ho z
  omega
 ·omega
theorem Cw {a b:List (Int×aa)} {h k:aa} (ha:ki a h) (hb:ki b k) (hab: ∀ x∈b,(∃ y∈a,y.2.Lo≤x.2.Lo)∧ ∃ y∈a,x.2.Hi≤y.2.Hi) (hba: ∀ x∈a,(∃ y∈b,y.2.Lo≤x.2.Lo)∧ ∃ y∈b,x.2.Hi≤y.2.Hi):h=k:=by
 rcases ha with ⟨rfl,rfl⟩|ha
 ·rcases hb with ⟨rfl,rfl⟩|hb
  ·rfl
  ·obtain ⟨x,hx,_⟩:=hb.lo
   obtain ⟨⟨y,hy,_⟩,_⟩:=hab x hx
   cases hy
 ·rcases hb with ⟨rfl,rfl⟩|hb
  ·obtain ⟨x,hx,_⟩:=ha.lo
   obtain ⟨⟨y,hy,_⟩,_⟩:=hba x hx
   cases hy
  ·obtain ⟨M,E,AA⟩:=ha.lo
   obtain ⟨N,F,V⟩:=ha.hi
   obtain ⟨O,G,W⟩:=hb.lo
   obtain ⟨P,H,X⟩:=hb.hi
   obtain ⟨⟨AB,A,Y⟩,_⟩:=hba M E
   obtain ⟨_,J,B,Z⟩:=hba N F
   obtain ⟨⟨K,C,c⟩,_⟩:=hab O G
   obtain ⟨_,L,D,d⟩:=hab P H
   have Q:=hb.all AB A
   have R:=hb.all J B
   have S:=ha.all K C
   have T:=ha.all L D
   apply aa.ext
   ·omega
   ·omega
theorem Jx (hle:dq l=0) (hr:e9 l r) {b:Nat} (hb:b<l.ae.length) {h:aa} (hh:ki (iM b (p6 l r)) h):h=mz l r b:=by
 have hk:=uA (l:=l8 (cj l r) b) (fun q hq=>mY hq)
 refine Cw hh hk (fun x hx=>?_) (fun x hx=>?_)
 ·have hle':=mY hx
  obtain ⟨y,hy,_,A,C⟩:=(tj hle hr hb (s:=x.1) (t:=x.2.Lo)).1 ⟨x,hx,rfl,Int.le_refl _,hle'⟩
  obtain ⟨z,hz,_,D,B⟩:=(tj hle hr hb (s:=x.1) (t:=x.2.Hi)).1 ⟨x,hx,rfl,hle',Int.le_refl _⟩
  exact ⟨⟨y,hy,A⟩,z,hz,B⟩
 ·have hle':=xR hle hr hx
  obtain ⟨y,hy,_,A,C⟩:=(tj hle hr hb (s:=x.1) (t:=x.2.Lo)).2 ⟨x,hx,rfl,Int.le_refl _,hle'⟩
  obtain ⟨z,hz,_,D,B⟩:=(tj hle hr hb (s:=x.1) (t:=x.2.Hi)).2 ⟨x,hx,rfl,hle',Int.le_refl _⟩
  exact ⟨⟨y,hy,A⟩,z,hz,B⟩
end
def pH (ws:List cZ) (b:Nat):Int:=if vt (iM b ws)=mE then 6 else 0
def ph (ws:List cZ) (b:Nat):aa:=if vt (iM b ws)=mE then ⟨0,0⟩ else vt (iM b ws)
theorem M4 {l:List (Int×aa)} {h:aa} (hh:ki l h) (hl: ∀ q∈l,q.2.Lo≤q.2.Hi):vt l=h:=
 Cw (uA hl) hh (fun x hx=>⟨⟨x,hx,Int.le_refl _⟩,x,hx,Int.le_refl _⟩) (fun x hx=>⟨⟨x,hx,Int.le_refl _⟩,x,hx,Int.le_refl _⟩)
theorem Ek {ws:List cZ} {b:Nat} (h:iM b ws=[]):pH ws b=6∧ph ws b=⟨0,0⟩:=by
 unfold pH ph; rw [h]; exact ⟨if_pos rfl,if_pos rfl⟩
theorem EY {ws:List cZ} {b:Nat} {o:aa} (hl: ∀ q∈iM b ws,q.2.Lo≤q.2.Hi) (h:ow (iM b ws) o):pH ws b=0∧ph ws b=o:=by
 have e:=M4 (.inr h) hl
 unfold pH ph; rw [e]; exact ⟨if_neg h.ne,if_neg h.ne⟩
/-- what was found until now -/
def nB (b:Nat) (ws:List cZ) (fd:Bool) (o:aa):Prop:=(fd=false∧iM b ws=[])∨(fd=true∧ow (iM b ws) o)
theorem HO {b:Nat} {o:aa}:nB b [] false o:= .inl ⟨rfl,rfl⟩
theorem CG {q:Int×aa} (hq:q.2.Lo≤q.2.Hi):ow [q] q.2:=⟨hq,⟨q,sm,rfl⟩,⟨q,sm,rfl⟩,fun x hx=>by simp at hx; subst hx; exact ⟨Int.le_refl _,Int.le_refl _⟩⟩
theorem AE {l:List (Int×aa)} {h:aa} {q:Int×aa} (hh:ow l h) (hq:q.2.Lo≤q.2.Hi):ow (l++[q]) ⟨min q.2.Lo h.Lo,max q.2.Hi h.Hi⟩:=by
 have:=uK (.inr hh) hq
 unfold mj at this
 rw [if_neg hh.ne] at this
 rcases this with ⟨e,_⟩|this
 ·simp at e
 ·exact this
theorem EO {b:Nat} {ws:List cZ} {fd:Bool} {o:aa} {y:cZ} (h:nB b ws fd o) (hy:y.gp.length≤b):nB b (ws++[y]) fd o:=by
 unfold nB; rw [xA hy]; exact h
theorem Bp {b:Nat} {ws:List cZ} {fd:Bool} {o:aa} {y:cZ} {s f e:Int} (h:nB b ws fd o) (hf:fd=false) (h1:y.gp[b]? =some s) (h2:y.iD[b]? =some f) (h3:y.lE[b]? =some e) (hle:f≤e):nB b (ws++[y]) true ⟨f,e⟩:=by
 rcases h with ⟨_,q⟩|⟨q,_⟩
 ·right
  rw [pQ h1 h2 h3,q]
  exact ⟨U,CG hle⟩
 ·rw [q] at hf; cases hf
theorem DZ {b:Nat} {ws:List cZ} {fd:Bool} {o:aa} {y:cZ} {s f e:Int} (h:nB b ws fd o) (hf:fd=true) (h1:y.gp[b]? =some s) (h2:y.iD[b]? =some f) (h3:y.lE[b]? =some e) (hle:f≤e):nB b (ws++[y]) true ⟨min f o.Lo,max e o.Hi⟩:=by
 rcases h with ⟨q,_⟩|⟨_,q⟩
 ·rw [q] at hf; cases hf
 ·right
  rw [pQ h1 h2 h3]
  exact ⟨U,AE q hle⟩
theorem zn {b:Nat} {ws:List cZ} {fd:Bool} {o:aa} (h:nB b ws fd o) (hl: ∀ q∈iM b ws,q.2.Lo≤q.2.Hi):(fd=false→pH ws b=6∧ph ws b=⟨0,0⟩)∧(fd=true→pH ws b=0∧ph ws b=o):=by
 rcases h with ⟨q,h⟩|⟨q,h⟩
 ·exact ⟨fun _=>Ek h,fun e=>(by rw [q] at e; cases e)⟩
 ·exact ⟨fun e=>(by rw [q] at e; cases e),fun _=>EY hl h⟩
section
variable {l:a_} {r:cv}
theorem IK (he:eu l r 0=0) {b:Nat} (hb:b<l.ae.length):pH (p6 l r) b=eK l r b∧ph (p6 l r) b=eQ l r b:=by
 obtain ⟨A,hr,_,_⟩:=jY he
 have h:=Jx A hr hb (uA fun q hq=>xR A hr hq)
 have ho:eu l r (jA l b)=0:=by rw [GR hb]; exact he
 unfold pH ph
 rw [h]
 by_cases e:mz l r b=mE
 ·rw [if_pos e,if_pos e,(qa ho e).1,(qa ho e).2]; exact ⟨rfl,rfl⟩
 ·rw [if_neg e,if_neg e,(oi ho e).1,(oi ho e).2]; exact ⟨rfl,rfl⟩
theorem QL (hle:dq l=0) (hr:e9 l r) {y:cZ} (hy:y∈p6 l r) {b:Nat} {f e:Int} (hb:b<y.gp.length) (h2:y.iD[b]? =some f) (h3:y.lE[b]? =some e):f≤e:=
 xR hle hr (q:=(y.gp[b],⟨f,e⟩)) (nq.2 ⟨y,hy,eC _,h2,h3⟩)
theorem CM:eu l r (jA l l.cH)=eu l r 0:=by
 by_cases h:dq l=0
 ·obtain ⟨_,A⟩:=gF h
  have hh:=A.head
  unfold gj at hh
  rw [wx I]
 ·rw [od h,od h]
theorem vh (h: ¬ eu l r 0=0):eK l r l.cH=eu l r 0:=by
 have:=(nO (b:=l.cH) (by rw [CM]; exact h)).1
 rw [this,CM]
/-- rows of times that are those of ways -/
structure Ow (ws:List cZ):Prop where
 lens: ∀ y∈ws,y.iD.length=y.gp.length∧y.lE.length=y.gp.length∧y.gp.length≤6
 le: ∀ y∈ws,∀ (b:Nat) f e,b<y.gp.length→y.iD[b]? =some f→y.lE[b]? =some e→f≤e
 num:ws.length≤40000000
theorem Ow.Gr {ws:List cZ} (h:Ow ws) {b:Nat}: ∀ q∈iM b ws,q.2.Lo≤q.2.Hi:=fun q hq=>by
 obtain ⟨y,hy,A,B,C⟩:=nq.1 hq
 exact h.le y hy b _ _ (List.getElem?_eq_some_iff.1 A).1 B C
theorem PD (hle:dq l=0) (hr:e9 l r):Ow (p6 l r):=by
 obtain ⟨ht,B⟩:=gF hle
 have hh:=B.head
 unfold gj at hh
 refine ⟨fun y hy=>?_,fun y hy b f e hb A C=>QL hle hr hy hb A C,uS hr.len I⟩
 obtain ⟨D,A,C⟩:=KH hle hr hy
 exact ⟨D,A,I⟩
end
end
section
open Go.RowKit
theorem BD (l:List cZ) (az:List kB): ∀ v∈(List.zipWith cZ.cells l az).flatten,v.oneCell'=true:=by
 induction l generalizing az with
 |nil=>intro v hv; simp at hv
 |cons x l ih=>
  cases az with
  |nil=>intro v hv; simp at hv
  |cons a az=>
   intro v hv
   simp only [List.zipWith_cons_cons,List.flatten_cons,kF] at hv
   rcases hv with hv|hv
   ·simp only [cZ.cells,xO.cells,d_,List.not_mem_nil,or_false] at hv
    rcases hv with rfl|rfl|rfl<;>rfl
   ·exact ih az v hv
theorem MK: ∀ (m:cZ) (a:kB) (w:World),(∀ X∈cZ.owns m a,X.holds w)→ ∀ X∈cZ.g0 m a,X.holds w:=fun m a w h X hX=>by
 simp only [cZ.g0,d_,List.not_mem_nil,or_false] at hX
 have A:=nN (h (own a.1.1 a.1.2 lF 1 (m.gp.map iC)) (by simp [cZ.owns]))
 have B:=nN (h (own a.2.1.1 a.2.1.2 lF 1 (m.iD.map iC)) (by simp [cZ.owns]))
 have C:=nN (h (own a.2.2.1 a.2.2.2 lF 1 (m.lE.map iC)) (by simp [cZ.owns]))
 rcases hX with rfl|rfl|rfl
 ·simpa using A
 ·simpa using B
 ·simpa using C
theorem pL: ∀ (l:List cZ) (az:List kB),(aV cZ.owns l az).all (·.wr)=true
 |[],_=>rfl
 |_::_,[]=>rfl
 |x::l,a::az=>by
  simp only [aV,List.all_append,cG]
  exact ⟨U,pL l az⟩
theorem Ma (l:List cZ) (az:List kB):(bw (aV cZ.owns l az)).wr=true:=pL l az
theorem JG {l m:List cZ} {az bz:List kB} (h:az.length=l.length):List.zipWith cZ.cells (l++m) (az++bz)=List.zipWith cZ.cells l az++List.zipWith cZ.cells m bz:=List.zipWith_append h.symm
theorem tM {l:List cZ} {az:List kB} (h:az.length=l.length):(List.zipWith cZ.cells l az).length=l.length:=by rw [List.length_zipWith]; omega
/-- what is read of a thing that is tied, and frozen -/
theorem pC {C L:List aq} {a:OA} {c e sz n:Nat} {es:List (List Value)} (i:Nat) (hC:C[i]? =some (bw L).ro) (hm:own a c e sz es∈L) (hn:es.length=n):il C (rd a n sz es).holds:=fun w hw=>by
 subst hn
 exact nN ((show (bw L).holds w from (hw _ (aR hC):(bw L).ro.holds w)).1 _ hm)
section
variable {E:eY} {ops:Array Oper} {Q:cU} {rest:List Oper} {D:List Deferred} {L:List (Nat×Value)} {C C1:List aq}
theorem St.QI {S:BS} {w0 w:World} {X C:List aq} {A:aq} (h:St S w0 (bw (X++[A])::C) w):St S w0 (A::bw X::C) w:=by
 have B:=h.ib
 have D:St S w0 (X++(A::C)) w:=by simpa using B
 exact D.tied.perm (List.Perm.swap _ _ _)
theorem St.merge {S:BS} {w0 w:World} {X Y C:List aq} (h:St S w0 (bw X::bw Y::C) w):St S w0 (bw (X++Y)::C) w:=by
 have A:St S w0 (bw Y::(X++C)) w:=(h.ib).perm (List.perm_middle (a:=bw Y) (l₁:=X) (l₂:=C))
 have B:St S w0 (Y++(X++C)) w:=A.ib
 have D:St S w0 ((X++Y)++C) w:=B.perm (by rw [← List.append_assoc]; exact List.perm_append_comm.append_right _)
 exact D.tied
end
section
variable {E:eY} {ops:Array Oper} {Q:cU} {rest:List Oper} {D:List Deferred} {L:List (Nat×Value)} {C:List aq}
theorem Ak {A:aq} {X X':List aq} (e:X++[A]=X') (h:RJ E ops Q rest D L (bw X'::C)):RJ E ops Q rest D L (A::bw X::C):=fun a w hf hs=>h a w hf (hs.tie e)
theorem zN {X:List aq} {A:aq} (h:RJ E ops Q rest D L (A::bw X::C)):RJ E ops Q rest D L (bw (X++[A])::C):=fun a w hf hs=>h a w hf hs.QI
theorem K_ {K:Act→World→Prop} {ms ns:List cZ} {az bz:List kB} (hl:az.length=ms.length) (h:KJ E K D L (bw (aV cZ.owns (ms++ns) (az++bz))::C)):KJ E K D L (bw (aV cZ.owns ms az)::bw (aV cZ.owns ns bz)::C):=fun a w hf hs=>h a w hf (by rw [jN hl.symm]; exact hs.merge)
end
/-- the head of the ways: the way that ends here, if it may -/
def yd (l:a_) (r:cv) (rs fs:List Int) (ra fa:RA) (hz:List kB) (LA:List aq):Prop:=
 ((r.ag.length:Int)-(cV rs).right≤l.eV∧ ∃ la:RA,hz=[(ra,fa,la)]∧LA=[own la.1 la.2 lF 1 ((jh l r rs).map iC)])∨(¬ (r.ag.length:Int)-(cV rs).right≤l.eV∧hz=[]∧LA=[])
theorem yd.len {l:a_} {r:cv} {rs fs:List Int} {ra fa:RA} {hz:List kB} {LA:List aq} (h:yd l r rs fs ra fa hz LA):hz.length=(gL l r rs fs).length:=by
 unfold gL
 rcases h with ⟨q,la,rfl,rfl⟩|⟨q,rfl,rfl⟩
 ·rw [if_pos q]; rfl
 ·rw [if_neg q]; rfl
theorem yd.wr {l:a_} {r:cv} {rs fs:List Int} {ra fa:RA} {hz:List kB} {LA:List aq} (h:yd l r rs fs ra fa hz LA):LA.all (·.wr)=true:=by
 rcases h with ⟨q,la,rfl,rfl⟩|⟨q,rfl,rfl⟩<;>rfl
theorem Mf {S:BS} {w0 w:World} {l:a_} {r:cv} {rs fs:List Int} {ra fa:RA} {hz az:List kB} {LA:List aq} {R:List cZ} {A:aq} (hh:yd l r rs fs ra fa hz LA)
 (h:St S w0 [bw [own ra.1 ra.2 lF 1 (rs.map iC),own fa.1 fa.2 lF 1 (fs.map iC)],A,bw LA,bw (aV cZ.owns R az)] w):St S w0 [bw (aV cZ.owns (gL l r rs fs++R) (hz++az)++[A])] w:=by
 rw [jN hh.len.symm]
 have D:St S w0 [own ra.1 ra.2 lF 1 (rs.map iC),own fa.1 fa.2 lF 1 (fs.map iC),A,bw LA,bw (aV cZ.owns R az)] w:=h.ib
 rcases hh with ⟨q,la,rfl,rfl⟩|⟨q,rfl,rfl⟩
 ·unfold gL
  rw [if_pos q]
  have B:=(St.kj [3,0,1,2,4] rfl rfl D).ib
  have E:=(St.kj [4,1,2,0,3] rfl rfl B).ib
  have C:St S w0 (((aV cZ.owns [(⟨rs,fs,jh l r rs⟩:cZ)] [(ra,fa,la)]++aV cZ.owns R az)++[A])++[]) w:=by
   rw [List.append_nil]
   refine E.perm ?_
   show (aV cZ.owns R az++(aV cZ.owns [(⟨rs,fs,jh l r rs⟩:cZ)] [(ra,fa,la)]++[A])).Perm _
   rw [← List.append_assoc]
   exact List.perm_append_comm.append_right _
  exact C.tied
 ·unfold gL
  rw [if_neg q]
  have B:=(St.kj [4,2] rfl rfl D).ib
  have C:St S w0 (((aV cZ.owns [] []++aV cZ.owns R az)++[A])++[]) w:=by
   rw [List.append_nil]; exact B
  exact C.tied
theorem Ky {E:eY} {K:Act→World→Prop} {D:List Deferred} {L:List (Nat×Value)} {l:a_} {r:cv} {rs fs:List Int} {ra fa:RA} {hz az z:List kB} {LA:List aq} {R W:List cZ} {A A':aq} (hh:yd l r rs fs ra fa hz LA) (hW:gL l r rs fs++R=W) (hz':hz++az=z) (hA:A=A')
 (h:KJ E K D L [bw (aV cZ.owns W z++[A'])]):KJ E K D L [bw [own ra.1 ra.2 lF 1 (rs.map iC),own fa.1 fa.2 lF 1 (fs.map iC)],A,bw LA,bw (aV cZ.owns R az)]:=fun a w hf hs=>h a w hf (by subst hW hz' hA; exact Mf hh hs)
theorem QQ {E:eY} {K:Act→World→Prop} {D:List Deferred} {L:List (Nat×Value)} {X A:aq} {W:List cZ} (h:KJ E K D L [bw (aV cZ.owns W []++[A])]):KJ E K D L [X,A]:=fun a w hf hs=>h a w hf (by
 have B:St E.S E.w0 [A] w:=St.kj [1] rfl rfl hs
 have C:St E.S E.w0 (([]++[A])++[]) w:=B
 have e:aV cZ.owns W []=[]:=by cases W<;>rfl
 rw [e]
 exact C.tied)
theorem H4 {E:eY} {K:Act→World→Prop} {D:List Deferred} {L:List (Nat×Value)} {C:List aq} (e sz:Nat) (k:KJ E K D L (own none 0 e sz []::C)):KJ E K D L C:=fun a w hf hs=>k a w hf (hs.qU e sz)
end
section
open Go.RowKit
theorem iA (n lo hi:Int):
 dT Tryz.prog 153 [(vI n),(vI lo),(vI hi)] [] (vB (decide (lo≤n∧n≤hi))):=by
 refine bx kr Tryz.func153 U U fun D Q hQ hN=>?_
 try dsimp only
 refine WS fun _ B=>bf 1 U<|RK B<|WS fun _ A=>rP 4 [] mn ?_
 refine cQ (t:=10) U (aL fun C=>?_) (aM fun C=>?_)
 ·refine rP 5 [] mn ?_
  refine RK A<|an<|Q1 hQ U U U ?_
  exact cB (decide_eq_decide.2 I)
 refine rP 5 [] mn ?_
 refine RK A<|an<|Q1 hQ U U U ?_
 exact cB (cf I).symm
theorem Cq (ts:List al) (tsA:OA) (tsC:Nat) (hst: ∀ x∈ts,bJ x) (hlen:ts.length≤12):
 lv Tryz.prog 170 [(vA (bE.cells (bE.mk (br.mk tsA ts.length tsC))))] [(rd tsA ts.length 9 (ts.map al.cells))] (fun (x:(OA)×Nat)=>(vS x.1 ((g6 ts (ts.length+1)).length) x.2)) (fun (x:(OA)×Nat)=>True) (fun (x:(OA)×Nat)=>[(own x.1 x.2 40 2 ((g6 ts (ts.length+1)).map aa.cells))]):=by
 refine dj kr Tryz.func170 U U fun V Q hQ hN=>?_
 try dsimp only
 refine WS fun _ J=>fM U fun AA=>bf 1 U<|RK J<|WS fun _ K=>bf 1 U<|RK K<|ah fun _ L=>WS fun _ M=>rP 1 [] mn ?_
 refine RK M<|av<|fQ 40 2 ?_
 have A:(0≤ts.length+1):=by exact Nat.zero_le _
 refine bH (ι:={z:Nat×(OA)×Nat // (z.1≤ts.length+1)}) [1] [1,2] U U (fun z=>[(3,(vS z.1.2.1 ((g6 ts z.1.1).length) z.1.2.2)),(4,(vI (z.1.1:Int)))]) (fun z=>[(own z.1.2.1 z.1.2.2 40 2 ((g6 ts z.1.1).map aa.cells))]) (fun _=>rfl) (fun _=>rfl) (fun z=>ts.length+1-z.1.1) ⟨(0,none,0),A⟩ (aT U) (aH [1,2,0]) ?_
 clear A
 rintro ⟨⟨i,a,c⟩,B⟩ J6 AB
 try dsimp only at B
 try dsimp only
 refine ah fun _ N=>WS fun _ O=>rP 5 [] (mc 0 U mn) ?_
 refine RK O<|bK U (aM fun T=>?_) (aL fun T=>?_)
 ·refine bu<|ab<|ab<|au<|KK L<|WS fun _ E=>?_
  obtain rfl:i=ts.length+1:=by omega
  refine rP 2 [] mn ?_
  refine RK E<|an<|LX hQ (a,c) [2] [] mn U U U U ?_
  trivial
 refine WK N<|ah fun _ C=>av<|WS fun _ D=>fw 2 [] (mc 0 U mn) U<|rS (CL (Au ts tsA tsC 0 (i:Int) hst hlen I) (bj [1]) U)<|bf 3 U<|AL U de fun P=>AL U de fun R=>ub U cm U<|fP U cm U<|RK D<|aj<|rP 2 [] (mc 1 U mn) ?_
 refine cY (xs:=[.tmp 21]) (cs:=(aa.cells (eA ts (0:Int).toNat ((i:Int)-0).toNat))) U jQ de U U U U (by simp [Value.cells,aa.aU]) U U fun S=>?_
 refine db (es2:=(List.map aa.cells (g6 ts (i+1)))) (m':=(g6 ts (i+1)).length) 5 U U U EN U U sm (aZ (es:=List.map aa.cells [(eA ts (0:Int).toNat ((i:Int)-0).toNat)]) 0 U U (by simp [aa.aU]) U) (gT _) (by simp only [ox]; omega) (by simp only [maxLen,ox]; omega) (by rw [Cy]; simp) sm U fun G H=>?_
 try dsimp only
 refine bf 1 U<|aC<|aG<|KK C<|aj<|rP 3 [] mn ?_
 refine aC ?_
 have F:(vI (((i+1):Nat):Int))=(vI ((i:Int)+1)):=by exact cI I
 refine aS (AB ⟨((i+1),G,H),(by first|omega|(simp only []; omega))⟩ _ _ _ U os (dh.cons U<|dh.cons U<|aX U F<|dh.nil _) (aH [3,4,5]))
theorem Sv (ts:List al) (tsA:OA) (tsC:Nat) (s:cD) (hlen:ts.length≤1000000) (hside: ∀ x∈ts,0≤x.i_∧x.i_≤255):
 dT Tryz.prog 165 [(vA (bE.cells (bE.mk (br.mk tsA ts.length tsC)))),(vA (cD.cells s))] [(rd tsA ts.length 9 (ts.map al.cells))] (vT [(vA (aa.cells (QV ts s))),(vI (Gq ts s))]):=by
 refine bx kr Tryz.func165 U U fun r Q hQ hN=>?_
 try dsimp only
 refine WS fun _ R=>fM U fun i=>fM U fun k=>AL U de fun l=>bf 1 U<|RK R<|ah fun _ S=>WS fun _ T=>fw 1 [] (mc 2 U mn) U<|rS (CL (vZ ts tsA tsC hlen) (bj [3]) U)<|rP 1 [] mn ?_
 refine RK T<|cy U (fun AB=>?_) (fun AB=>?_)
 ·rw [Bool.not_eq_true'] at AB
  refine WS fun _ AA=>rS (SX (bh (xs:=[]) (cs:=(aa.cells (aa.mk 0 0))) U U (bg gf U)) U U)<|fP U cm U<|rP 1 [] mn ?_
  refine RK AA<|an<|lp hQ [0] (mc 0 U mn) U ?_
  (have e:=KE (s:=s) (by simpa using AB); rw [e.1,e.2]<;>rfl)
 rw [Bool.not_eq_false'] at AB
 refine WK S<|ah fun _ V=>WS fun _ W=>?_
 have M:=jU AB
 have Z:=kM AB
 refine fw 2 [0,1] (mc 2 U (mc 1 U mn)) U<|rS (CL (qY ts tsA tsC s asm asm) (bj [3]) U)<|rP 1 [] mn ?_
 refine RK W<|cy U (bp fun D=>?_) (bq fun D=>?_)
 ·refine WS fun _ O=>rS (SX (bh (xs:=[]) (cs:=(aa.cells (aa.mk 0 0))) U U (bg gf U)) U U)<|fP U cm U<|rP 1 [] mn ?_
  refine RK O<|an<|lp hQ [0] (mc 0 U mn) U ?_
  (have e:=Mh AB D; rw [e.1,e.2]<;>rfl)
 refine WK V<|ah fun _ H=>pn cu [0,2,3] [1,4,5,6,7] [false,false,false] [] [(bV l 40 (aa.cells (aa.mk 0 0))),(bV k 111 (cD.cells s)),(bV i 27 (bE.cells (bE.mk (br.mk tsA ts.length tsC)))),(rd tsA ts.length 9 (ts.map al.cells)).ro] [] kr (aH [0,1,2,3]) (aH []) ?_
 have q:=D.1
 have N:=qd M D
 have p:(g6 ts (ts.length+1)).length=ts.length+1:=ox
 refine eS U (LW 2 U bX U U)<|eS U (FA 0 U fu U)<|eS U (L1 (vI s.aY) 1 U bX U U)<|eU U<|iJ [1,6] kr (eE ?_<|eE ?_<|kl)
 rotate_left 1
 ·refine NO U U [1,4,5,7] fun T12 J=>AL U de fun f=>RD J 1 U<|N1 1<|NO U U [4,5,7] fun T14 P=>cX (Cq ts tsA tsC asm asm) (bj [4]) U fun Y b=>?_
  obtain ⟨d,o⟩:=Y
  try dsimp only
  refine RD P 2 U<|N1 4<|NO U U [5,7] fun T19 E=>?_
  obtain ⟨z,hz⟩:=aJ (g6 ts (ts.length+1)) ((s.aY).toNat) I
  have A:=bG aa.cells hz
  refine rS (IA ((s.aY).toNat) U (ai (n:=(g6 ts (ts.length+1)).length) 0 U sm) jQ dc I I)<|RD E 2 U<|N1 5<|NO U U [7] fun T20 F=>rS (oH ((s.aY).toNat) 0 (aa.cells z) U bX (ai (n:=(g6 ts (ts.length+1)).length) 0 U sm) A U dc U U)<|RD F 2 U<|N1 7<|NO U U [] fun T21 C=>ub U cm U<|RD C 2 U<|pR<|KK H<|WS fun _ B=>rP 1 [] mn ?_
  have A:=pG hz
  have G:=l6 M 0 s.aY.toNat
  unfold lj at N
  rw [← A] at G
  refine fw 11 [0,1,0,1] (mc 1 U (mc 3 U mn)) U<|rS (SX (bh (xs:=[(0,.tmp 27),(1,.tmp 33)]) (cs:=(aa.cells (aa.mk (z.Lo+s.mG.Lo) (z.Hi+s.mG.Hi)))) U U (bg gf U)) U U)<|HT U cm U<|rP 1 [] mn ?_
  refine RK B<|an<|lp hQ [0] (mc 2 U mn) U ?_
  (have e:=xe AB D; subst A; rw [e.1,e.2]<;>rfl)
 refine NO U U [4,5,6,7] fun T12 J=>cX (Cq ts tsA tsC asm asm) (bj [3]) U fun X a=>?_
 obtain ⟨c,m⟩:=X
 try dsimp only
 refine RD J 1 U<|iJ [4,6] kr (eE ?_<|eE ?_<|kl)
 rotate_left 1
 ·refine NO U U [4,5,7] fun T17 K=>AL U de fun g=>RD K 2 U<|N1 4<|NO U U [5,7] fun T19 E=>?_
  obtain ⟨z,hz⟩:=aJ (g6 ts (ts.length+1)) ((s.aY).toNat) I
  have A:=bG aa.cells hz
  refine rS (IA ((s.aY).toNat) U (ai (n:=(g6 ts (ts.length+1)).length) 1 U sm) jQ dc I I)<|RD E 2 U<|N1 5<|NO U U [7] fun T20 F=>rS (oH ((s.aY).toNat) 0 (aa.cells z) U bX (ai (n:=(g6 ts (ts.length+1)).length) 1 U sm) A U dc U U)<|RD F 2 U<|N1 7<|NO U U [] fun T21 C=>fP U cm U<|RD C 2 U<|pR<|KK H<|WS fun _ B=>rP 1 [] mn ?_
  have A:=pG hz
  have G:=l6 M 0 s.aY.toNat
  unfold lj at N
  rw [← A] at G
  refine fw 11 [0,1,0,1] (mc 0 U (mc 3 U mn)) U<|rS (SX (bh (xs:=[(0,.tmp 27),(1,.tmp 33)]) (cs:=(aa.cells (aa.mk (z.Lo+s.mG.Lo) (z.Hi+s.mG.Hi)))) U U (bg gf U)) U U)<|HT U cm U<|rP 1 [] mn ?_
  refine RK B<|an<|lp hQ [0] (mc 2 U mn) U ?_
  (have e:=xe AB D; subst A; rw [e.1,e.2]<;>rfl)
 refine NO U U [5,6,7] fun T17 K=>?_
 obtain ⟨z,hz⟩:=aJ (g6 ts (ts.length+1)) ((s.aY).toNat) I
 have A:=bG aa.cells hz
 refine rS (IA ((s.aY).toNat) U (ai (n:=(g6 ts (ts.length+1)).length) 0 U sm) jQ dc I I)<|RD K 1 U<|iJ [5,6] kr (eE ?_<|eE ?_<|kl)
 rotate_left 1
 ·refine NO U U [5,7] fun T18 L=>AL U de fun h=>RD L 2 U<|N1 5<|NO U U [7] fun T20 F=>rS (oH ((s.aY).toNat) 0 (aa.cells z) U bX (ai (n:=(g6 ts (ts.length+1)).length) 1 U sm) A U dc U U)<|RD F 2 U<|N1 7<|NO U U [] fun T21 C=>fP U cm U<|RD C 2 U<|pR<|KK H<|WS fun _ B=>rP 1 [] mn ?_
  have A:=pG hz
  have G:=l6 M 0 s.aY.toNat
  unfold lj at N
  rw [← A] at G
  refine fw 11 [0,1,0,1] (mc 0 U (mc 3 U mn)) U<|rS (SX (bh (xs:=[(0,.tmp 27),(1,.tmp 33)]) (cs:=(aa.cells (aa.mk (z.Lo+s.mG.Lo) (z.Hi+s.mG.Hi)))) U U (bg gf U)) U U)<|HT U cm U<|rP 1 [] mn ?_
  refine RK B<|an<|lp hQ [0] (mc 2 U mn) U ?_
  (have e:=xe AB D; subst A; rw [e.1,e.2]<;>rfl)
 refine NO U U [6,7] fun T18 L=>rS (oH ((s.aY).toNat) 0 (aa.cells z) U bX (ai (n:=(g6 ts (ts.length+1)).length) 0 U sm) A U dc U U)<|RD L 1 U<|N1 6<|NO U U [7] fun T19 E=>AL U de fun j=>RD E 2 U<|N1 7<|NO U U [] fun T21 C=>fP U cm U<|RD C 2 U<|pR<|KK H<|WS fun _ B=>rP 1 [] mn ?_
 have A:=pG hz
 have G:=l6 M 0 s.aY.toNat
 unfold lj at N
 rw [← A] at G
 refine fw 11 [0,1,0,1] (mc 0 U (mc 3 U mn)) U<|rS (SX (bh (xs:=[(0,.tmp 27),(1,.tmp 33)]) (cs:=(aa.cells (aa.mk (z.Lo+s.mG.Lo) (z.Hi+s.mG.Hi)))) U U (bg gf U)) U U)<|HT U cm U<|rP 1 [] mn ?_
 refine RK B<|an<|lp hQ [0] (mc 2 U mn) U ?_
 (have e:=xe AB D; subst A; rw [e.1,e.2]<;>rfl)
theorem Hx (ts:List al) (tsA:OA) (tsC:Nat) (p:cD) (q:cD) (hlen:ts.length≤1000000) (hside: ∀ x∈ts,0≤x.i_∧x.i_≤255) (hord: ¬ q.aY<p.aY):
 dT Tryz.prog 166 [(vA (bE.cells (bE.mk (br.mk tsA ts.length tsC)))),(vA (cD.cells p)),(vA (cD.cells q))] [(rd tsA ts.length 9 (ts.map al.cells))] (vT [(vA (aa.cells (kK ts p q))),(vI (lJ ts p q))]):=by
 refine bx kr Tryz.func166 U U fun k Q hQ hN=>?_
 try dsimp only
 refine WS fun _ N=>fM U fun f=>fM U fun g=>fM U fun i=>AL U de fun j=>bf 1 U<|RK N<|ah fun _ O=>WS fun _ P=>fw 1 [] (mc 3 U mn) U<|rS (CL (vZ ts tsA tsC hlen) (bj [4]) U)<|rP 1 [] mn ?_
 refine RK P<|cy U (fun A=>?_) (fun A=>?_)
 ·rw [Bool.not_eq_true'] at A
  refine WS fun _ R=>rS (SX (bh (xs:=[]) (cs:=(aa.cells (aa.mk 0 0))) U U (bg gf U)) U U)<|fP U cm U<|rP 1 [] mn ?_
  refine RK R<|an<|lp hQ [0] (mc 0 U mn) U ?_
  (have e:=uC (a:=p) (b:=q) (by simpa using A); rw [e.1,e.2]<;>rfl)
 rw [Bool.not_eq_false'] at A
 refine WK O<|ah fun _ S=>WS fun _ E=>?_
 have D:=jU A
 have M:=kM A
 refine fw 2 [0,1] (mc 3 U (mc 2 U mn)) U<|rS (CL (qY ts tsA tsC p asm asm) (bj [4]) U)<|rP 2 [] mn ?_
 refine cQ (t:=20) U (bp fun B=>?_) (bq fun B=>?_)
 ·refine bf 5 U<|RK E<|aO U<|WS fun _ G=>rS (SX (bh (xs:=[]) (cs:=(aa.cells (aa.mk 0 0))) U U (bg gf U)) U U)<|fP U cm U<|rP 1 [] mn ?_
  refine RK G<|an<|lp hQ [0] (mc 0 U mn) U ?_
  (have e:=oW (a:=p) (b:=q) A (fun h=>by first|exact B h.1|exact C h.2); rw [e.1,e.2]<;>rfl)
 refine fw 2 [0,1] (mc 3 U (mc 1 U mn)) U<|rS (CL (qY ts tsA tsC q asm asm) (bj [4]) U)<|rP 2 [] mn ?_
 refine RK E<|cy U (bp fun C=>?_) (bq fun C=>?_)
 ·refine WS fun _ H=>rS (SX (bh (xs:=[]) (cs:=(aa.cells (aa.mk 0 0))) U U (bg gf U)) U U)<|fP U cm U<|rP 1 [] mn ?_
  refine RK H<|an<|lp hQ [0] (mc 0 U mn) U ?_
  (have e:=oW (a:=p) (b:=q) A (fun h=>by first|exact B h.1|exact C h.2); rw [e.1,e.2]<;>rfl)
 refine WK S<|ah fun _ AB=>WS fun _ J=>?_
 have AA:fj ts p∧fj ts q:=⟨B,C⟩
 have T:=qd D B
 have V:=qd D C
 have c:=B.1
 have d:=C.1
 have Y:=xP D M C B
 unfold lj at T V
 refine rP 5 [0,1] (mc 1 U (mc 2 U mn)) ?_
 refine RK J<|cy U (aL fun F=>?_) (aM fun F=>?_)
 ·exfalso; omega
 refine WK AB<|WS fun _ K=>rP 2 [] (mc 3 U mn) ?_
 have Z:=l6 D p.aY.toNat (q.aY-p.aY).toNat
 refine fw 3 [0,1] (mc 2 U (mc 1 U mn)) U<|rS (CL (Au ts tsA tsC p.aY q.aY asm asm I) (bj [4]) U)<|bf 3 U<|AL U de fun W=>AL U de fun X=>ub U cm U<|fP U cm U<|RK K<|WS fun _ L=>fw 20 [0,1,2,0,1,2] (mc 1 U (mc 3 U (mc 4 U mn))) U<|rS (SX (bh (xs:=[(0,.tmp 64),(1,.tmp 74)]) (cs:=(aa.cells (aa.mk ((((eA ts p.aY.toNat (q.aY-p.aY).toNat).Lo)+q.mG.Lo)-p.mG.Hi) ((((eA ts p.aY.toNat (q.aY-p.aY).toNat).Hi)+q.mG.Hi)-p.mG.Lo)))) U U (bg gf U)) U U)<|HT U cm U<|rP 1 [] mn ?_
 refine RK L<|an<|lp hQ [0] (mc 2 U mn) U ?_
 (have e:=k7 A AA; rw [e.1,e.2,qB F]<;>rfl)
theorem Kv (ts:List al) (tsA:OA) (tsC:Nat) (p:cD) (q:cD) (hlen:ts.length≤1000000) (hside: ∀ x∈ts,0≤x.i_∧x.i_≤255):
 dT Tryz.prog 166 [(vA (bE.cells (bE.mk (br.mk tsA ts.length tsC)))),(vA (cD.cells p)),(vA (cD.cells q))] [(rd tsA ts.length 9 (ts.map al.cells))] (vT [(vA (aa.cells (kK ts p q))),(vI (lJ ts p q))]):=by
 refine bx kr Tryz.func166 U U fun u Q hQ hN=>?_
 try dsimp only
 refine WS fun _ S=>fM U fun n=>fM U fun o=>fM U fun r=>AL U de fun s=>bf 1 U<|RK S<|ah fun _ T=>WS fun _ AA=>fw 1 [] (mc 3 U mn) U<|rS (CL (vZ ts tsA tsC hlen) (bj [4]) U)<|rP 1 [] mn ?_
 refine RK AA<|cy U (fun A=>?_) (fun A=>?_)
 ·rw [Bool.not_eq_true'] at A
  refine WS fun _ V=>rS (SX (bh (xs:=[]) (cs:=(aa.cells (aa.mk 0 0))) U U (bg gf U)) U U)<|fP U cm U<|rP 1 [] mn ?_
  refine RK V<|an<|lp hQ [0] (mc 0 U mn) U ?_
  (have e:=uC (a:=p) (b:=q) (by simpa using A); rw [e.1,e.2]<;>rfl)
 rw [Bool.not_eq_false'] at A
 refine WK T<|ah fun _ W=>WS fun _ E=>?_
 have D:=jU A
 have P:=kM A
 refine fw 2 [0,1] (mc 3 U (mc 2 U mn)) U<|rS (CL (qY ts tsA tsC p asm asm) (bj [4]) U)<|rP 2 [] mn ?_
 refine cQ (t:=20) U (bp fun B=>?_) (bq fun B=>?_)
 ·refine bf 5 U<|RK E<|aO U<|WS fun _ G=>rS (SX (bh (xs:=[]) (cs:=(aa.cells (aa.mk 0 0))) U U (bg gf U)) U U)<|fP U cm U<|rP 1 [] mn ?_
  refine RK G<|an<|lp hQ [0] (mc 0 U mn) U ?_
  (have e:=oW (a:=p) (b:=q) A (fun h=>by first|exact B h.1|exact C h.2); rw [e.1,e.2]<;>rfl)
 refine fw 2 [0,1] (mc 3 U (mc 1 U mn)) U<|rS (CL (qY ts tsA tsC q asm asm) (bj [4]) U)<|rP 2 [] mn ?_
 refine RK E<|cy U (bp fun C=>?_) (bq fun C=>?_)
 ·refine WS fun _ H=>rS (SX (bh (xs:=[]) (cs:=(aa.cells (aa.mk 0 0))) U U (bg gf U)) U U)<|fP U cm U<|rP 1 [] mn ?_
  refine RK H<|an<|lp hQ [0] (mc 0 U mn) U ?_
  (have e:=oW (a:=p) (b:=q) A (fun h=>by first|exact B h.1|exact C h.2); rw [e.1,e.2]<;>rfl)
 refine WK W<|ah fun _ AB=>WS fun _ J=>?_
 have R:fj ts p∧fj ts q:=⟨B,C⟩
 have X:=qd D B
 have Y:=qd D C
 have l:=B.1
 have m:=C.1
 have j:=xP D P C B
 unfold lj at X Y
 refine rP 5 [0,1] (mc 1 U (mc 2 U mn)) ?_
 refine RK J<|cy U (aL fun F=>?_) (aM fun F=>?_)
 ·refine WS fun _ K=>fw 3 [0,1,2] (mc 3 U (mc 1 U (mc 2 U mn))) U<|rS (CL (Hx ts tsA tsC q p hlen hside I) (bj [4]) U)<|bf 3 U<|AL U de fun d=>fP U cm U<|bf 1 U<|RK K<|WS fun _ L=>rP 2 [] (mc 0 U mn) ?_
  have O:kK ts q p=jP ts q p:=(k7 A ⟨C,B⟩).2
  have Z: -400000≤(kK ts q p).Lo∧(kK ts q p).Hi≤400000:=by rw [O]; omega
  have c:(kK ts q p).Lo≤(kK ts q p).Hi:=by rw [O]; omega
  refine rS (NG U ⟨I,I⟩)<|fw 2 [] (mc 0 U mn) U<|rS (NG U ⟨I,I⟩)<|rS (SX (bh (xs:=[(0,.tmp 41),(1,.tmp 44)]) (cs:=(aa.cells (aa.mk (-((kK ts q p).Hi)) (-((kK ts q p).Lo))))) U U (bg gf U)) U U)<|ub U cm U<|rP 1 [] mn ?_
  refine RK L<|an<|lp hQ [0] (mc 1 U mn) U ?_
  (have e:=k7 A R; have i:=k7 A ⟨C,B⟩; rw [e.1,e.2,i.2,ET F]<;>rfl)
 refine WK AB<|WS fun _ M=>rP 2 [] (mc 3 U mn) ?_
 have k:=l6 D p.aY.toNat (q.aY-p.aY).toNat
 refine fw 3 [0,1] (mc 2 U (mc 1 U mn)) U<|rS (CL (Au ts tsA tsC p.aY q.aY asm asm I) (bj [4]) U)<|bf 3 U<|AL U de fun f=>AL U de fun g=>ub U cm U<|fP U cm U<|RK M<|WS fun _ N=>fw 20 [0,1,2,0,1,2] (mc 1 U (mc 3 U (mc 4 U mn))) U<|rS (SX (bh (xs:=[(0,.tmp 64),(1,.tmp 74)]) (cs:=(aa.cells (aa.mk ((((eA ts p.aY.toNat (q.aY-p.aY).toNat).Lo)+q.mG.Lo)-p.mG.Hi) ((((eA ts p.aY.toNat (q.aY-p.aY).toNat).Hi)+q.mG.Hi)-p.mG.Lo)))) U U (bg gf U)) U U)<|HT U cm U<|rP 1 [] mn ?_
 refine RK N<|an<|lp hQ [0] (mc 2 U mn) U ?_
 (have e:=k7 A R; rw [e.1,e.2,qB F]<;>rfl)
end
section
open Go.RowKit
theorem Ka (l:a_) (kA:OA) (kC:Nat) (az:List RA) (cA:OA) (cC:Nat) (bA:OA) (bC:Nat) (hraw:ti l az):
 dT Tryz.prog 76 [(vA (ck.cells (lk l kA kC cA cC bA bC)))] [(rd kA l.aP.length 9 (l.aP.map al.cells)),(rd cA l.ak.length 2 (List.zipWith ar.cells l.ak az)),(eX (aV ar.g0 l.ak az)),(rd bA l.ae.length 4 (l.ae.map bD.cells))] (vB (decide (mK l))):=by
 have e:=hraw.sJ
 have d:=hraw.sI
 have a:=hraw.oF
 have b:=hraw.sE
 refine bx kr Tryz.func76 U U fun g Q hQ hN=>?_
 try dsimp only
 refine WS fun _ O=>fM U fun f=>bf 1 U<|RK O<|ah fun _ P=>WS fun _ D=>bf 1 U<|rS (LP (bE.cells (bE.mk (br.mk kA l.aP.length kC))) 0 U bX U U U)<|rS (CL (M6 l.aP kA kC) (bj [1]) U)<|rP 1 [] mn ?_
 refine cQ (t:=7) U (aL fun Z=>?_) (aM fun Z=>?_)
 ·refine bf 11 U<|RK D<|aO U<|WS fun _ R=>rP 1 [] mn ?_
  refine RK R<|an<|Q1 hQ U U U ?_
  exact cB (fI (.inl I)).symm
 refine rP 6 [] (mc 0 U mn) ?_
 refine cQ (t:=13) U (aL fun C=>?_) (aM fun C=>?_)
 ·refine bf 5 U<|RK D<|aO U<|WS fun _ S=>rP 1 [] mn ?_
  refine RK S<|an<|Q1 hQ U U U ?_
  exact cB (fI (.inl I)).symm
 refine rP 5 [] (mc 0 U mn) ?_
 refine RK D<|cy U (aL fun N=>?_) (aM fun N=>?_)
 ·refine WS fun _ T=>rP 1 [] mn ?_
  refine RK T<|an<|Q1 hQ U U U ?_
  exact cB (fI (.inl I)).symm
 refine WK P<|ah fun _ AB=>WS fun _ V=>rP 1 [] mn ?_
 refine RK V<|av ?_
 have A:(0≤l.ak.length)∧(AQ l 0):=by exact ⟨Nat.zero_le _,fun j c hj=>absurd hj (Nat.not_lt_zero _)⟩
 refine bH (ι:={z:Nat // (z≤l.ak.length)∧(AQ l z)}) [1] [0,1,2,3,4] U U (fun z=>[(3,(vI (z.1:Int)))]) (fun z=>[]) (fun _=>rfl) (fun _=>rfl) (fun z=>l.ak.length-z.1) ⟨0,A⟩ (aT U) (aH [0,1,2,3,4]) ?_
 clear A
 rintro ⟨i,⟨W,B⟩⟩ J10 F
 try dsimp only
 refine ah fun _ G=>WS fun _ H=>rP 5 [] (mc 0 U mn) ?_
 refine RK H<|bK U (aM fun C=>?_) (aL fun C=>?_)
 ·refine bu<|ab<|ab<|au<|KK AB<|WS fun _ L=>rP 1 [] mn ?_
  refine RK L<|an<|Q1 hQ U U U ?_
  exact cB (cf (Jb I I B)).symm
 refine WK G<|ah fun _ AC=>av<|WS fun _ J=>rP 3 [] (mc 0 U mn) ?_
 obtain ⟨x,hx⟩:=aJ l.ak i I
 obtain ⟨xa,X⟩:=aJ az i I
 have Y:(List.zipWith ar.cells l.ak az)[i]? =some (ar.cells x xa):=dA hx X
 refine rS (IA i U (aD 2 U) AA dc I I)<|rS (nS ((i*2)+1) U (aD 2 U) (Nat.mul_pos I dc) fu U)<|rS (fV i 1 (vS xa.1 x.bo.length xa.2) U bX (aD 2 U) Y U dc U)<|rP 2 [] mn ?_
 refine RK J<|cy U (aL fun E=>?_) (aM fun E=>?_)
 ·refine WS fun _ K=>rP 1 [] mn ?_
  refine RK K<|an<|Q1 hQ U U U ?_
  exact cB (fI (Kc hx E)).symm
 refine bZ<|aG<|KK AC<|aj<|rP 3 [] mn ?_
 refine aC ?_
 have M:(vI (((i+1):Nat):Int))=(vI ((i:Int)+1)):=by exact cI I
 refine aS (F ⟨(i+1),⟨I,lI B hx I⟩⟩ _ _ _ U os (dh.cons U<|aX U M<|dh.nil _) (aH [0,1,2,3,4]))
theorem wm (d m:Int) (hd:0≤d∧d≤1000) (hm:0≤m∧m≤90000000):
 dT Tryz.prog 164 [(vI d),(vI m)] [] (vI (pa (d*m) 1000000)):=by
 have J:=Qw (a:=d) (b:=m) (A:=1000) (B:=90000000) hd.1 hd.2 hm.1 hm.2
 refine bx kr Tryz.func164 U U fun K Q hQ hN=>?_
 try dsimp only
 refine WS fun _ C=>bf 1 U<|RK C<|WS fun _ D=>bf 2 U<|rS (BI U (Ff ⟨I,I⟩))<|bf 1 U<|RK D<|ah fun _ E=>WS fun _ F=>bf 1 U<|rS (BI U (Rx I I))<|rP 1 [] mn ?_
 refine RK F<|cy U (aL fun AA=>?_) (aM fun AA=>?_)
 ·refine WS fun _ G=>bf 1 U<|rS (BI U (tn I I I))<|rP 2 [] mn ?_
  refine RK G<|an<|Q1 hQ U U U ?_
  exact cI (by unfold pa; omega)
 refine WK E<|WS fun _ H=>bf 1 U<|rS (BI U (tn I I I))<|rP 1 [] mn ?_
 refine RK H<|an<|Q1 hQ U U U ?_
 exact cI (by unfold pa; omega)
theorem KC (c:ar) (sA:OA) (sC:Nat) (hlen:c.bo.length≤1000000):
 dT Tryz.prog 154 [(vA (dp.cells (dp.mk c.dg (br.mk sA c.bo.length sC))))] [(rd sA c.bo.length 3 (c.bo.map cw.cells))] (vB (decide (eT c))):=by
 refine bx kr Tryz.func154 U U fun w0 Q hQ hN=>?_
 try dsimp only
 refine WS fun _ Do=>fM U fun b2=>bf 1 U<|RK Do<|ah fun _ Dt=>WS fun _ A6=>fw 2 [] (mc 0 U mn) U<|rS (CL (iA c.dg 0 1000) (aI) U)<|rP 2 [] mn ?_
 refine cQ (t:=14) U (bp fun Ck=>?_) (bq fun Ck=>?_)
 ·refine bf 6 U<|RK A6<|aO U<|WS fun _ EQ=>rP 1 [] mn ?_
  refine RK EQ<|an<|Q1 hQ U U U ?_
  exact cB (cf fun h=>by have q1:=h.rH; have q2:=h.len; omega).symm
 refine fw 3 [] (mc 0 U mn) U<|rS (CL (iA (c.bo.length:Int) 1 5) (aI) U)<|rP 2 [] mn ?_
 refine RK A6<|cy U (bp fun Cp=>?_) (bq fun Cp=>?_)
 ·refine WS fun _ Eq=>rP 1 [] mn ?_
  refine RK Eq<|an<|Q1 hQ U U U ?_
  exact cB (cf fun h=>by have q1:=h.rH; have q2:=h.len; omega).symm
 refine WK Dt<|ah fun _ FS=>WS fun _ Fd=>rP 1 [] mn ?_
 refine RK Fd<|av ?_
 have A:(0≤c.bo.length)∧(∀ (j:Nat) y,j<0→c.bo[j]? =some y→ff c j y):=by exact ⟨Nat.zero_le _,fun j y hj=>absurd hj (Nat.not_lt_zero _)⟩
 refine bH (ι:={z:Nat // (z≤c.bo.length)∧(∀ (j:Nat) y,j<z→c.bo[j]? =some y→ff c j y)}) [1] [0,1] U U (fun z=>[(3,(vI (z.1:Int)))]) (fun z=>[]) (fun _=>rfl) (fun _=>rfl) (fun z=>c.bo.length-z.1) ⟨0,A⟩ (aT U) (aH [0,1]) ?_
 clear A
 rintro ⟨i,⟨a,C⟩⟩ J9 f
 try dsimp only
 have Gr:=Ju a C
 refine ah fun _ g=>WS fun _ l=>rP 5 [] (mc 0 U mn) ?_
 refine RK l<|cy U (aL fun Cx=>?_) (aM fun Cx=>?_)
 ·refine WK g<|ah fun _ AA=>av<|WS fun _ n=>rP 3 [] (mc 0 U mn) ?_
  obtain ⟨x,hx⟩:=aJ c.bo i I
  have b:=bG cw.cells hx
  refine rS (IA i U (aD 1 U) qi dc I I)<|rS (oH i 0 (cw.cells x) U bX (aD 1 U) b U dc U U)<|AL U rG fun Gf=>fP U tY U<|RK n<|ah fun _ B=>dB cu 41 kr<|mP 2 [] (mc 0 U mn) U<|dS (CL (iA x.At 0 86400000) (aI) U)<|dP 2 [] mn ?_
  refine iX (t:=37) U (bp fun C0=>?_) (bq fun C0=>?_)
  ·refine lH 36 U<|cM<|RK B<|aO U<|WS fun _ p=>rP 1 [] mn ?_
   refine RK p<|an<|Q1 hQ U U U ?_
   exact cB (cf fun h=>by have q:=h.sync i x hx; unfold ff at q; (rw [gr I] at q; omega)).symm
  refine dP 3 [] mn ?_
  refine jk (t:=40) U (aM fun C1=>?_) (aL fun C1=>?_)
  ·refine dP 19 [] (mc 0 U mn) ?_
   refine iX (t:=59) U (aL fun X=>?_) (aM fun X=>?_)
   ·refine lH 14 U<|cM<|RK B<|aO U<|WS fun _ w=>rP 1 [] mn ?_
    refine RK w<|an<|Q1 hQ U U U ?_
    exact cB (cf fun h=>by have q:=h.sync i x hx; unfold ff at q; (rw [gr I] at q; omega)).symm
   refine dP 9 [] (mc 0 U mn) ?_
   refine iX (t:=68) U (aL fun Y=>?_) (aM fun Y=>?_)
   ·refine lH 5 U<|cM<|RK B<|aO U<|WS fun _ AC=>rP 1 [] mn ?_
    refine RK AC<|an<|Q1 hQ U U U ?_
    exact cB (cf fun h=>by have q:=h.sync i x hx; unfold ff at q; (rw [gr I] at q; omega)).symm
   refine dP 5 [] (mc 0 U mn) ?_
   refine cM<|RK B<|bK U (aM fun Z=>?_) (aL fun Z=>?_)
   ·refine bZ<|aG<|KK AA<|aj<|rP 3 [] mn ?_
    refine aC ?_
    have A9:(vI (((i+1):Nat):Int))=(vI ((i:Int)+1)):=by exact cI I
    refine aS (f ⟨(i+1),⟨I,lI C hx (by unfold ff; (rw [gr I]; omega))⟩⟩ _ _ _ U os (dh.cons U<|aX U A9<|dh.nil _) (aH [1,2]))
   refine WS fun _ AO=>rP 1 [] mn ?_
   refine RK AO<|an<|Q1 hQ U U U ?_
   exact cB (cf fun h=>by have q:=h.sync i x hx; unfold ff at q; (rw [gr I] at q; omega)).symm
  refine dP 6 [0,1] (mc 0 U (mc 1 U mn)) ?_
  obtain ⟨y,hy⟩:=aJ c.bo (i-1) I
  have d:=bG cw.cells hy
  refine dS (IA (i-1) U (aD 2 U) qi dc I I)<|dS (nS ((i-1)*3) U (aD 2 U) (Nat.mul_pos I dc) fu U)<|dS (fV (i-1) 0 (vI y.At) U bX (aD 2 U) d U dc U)<|dP 4 [] mn ?_
  refine iX (t:=53) U (aL fun C2=>?_) (aM fun C2=>?_)
  ·refine lH 20 U<|cM<|RK B<|aO U<|WS fun _ r=>rP 1 [] mn ?_
   refine RK r<|an<|Q1 hQ U U U ?_
   exact cB (cf fun h=>by have q:=h.sync i x hx; unfold ff at q; (rw [xV I hy] at q; omega)).symm
  refine dP 6 [] (mc 0 U mn) ?_
  refine iX (t:=59) U (aL fun X=>?_) (aM fun X=>?_)
  ·refine lH 14 U<|cM<|RK B<|aO U<|WS fun _ s=>rP 1 [] mn ?_
   refine RK s<|an<|Q1 hQ U U U ?_
   exact cB (cf fun h=>by have q:=h.sync i x hx; unfold ff at q; (rw [gr I] at q; omega)).symm
  refine dP 9 [] (mc 0 U mn) ?_
  refine iX (t:=68) U (aL fun Y=>?_) (aM fun Y=>?_)
  ·refine lH 5 U<|cM<|RK B<|aO U<|WS fun _ u=>rP 1 [] mn ?_
   refine RK u<|an<|Q1 hQ U U U ?_
   exact cB (cf fun h=>by have q:=h.sync i x hx; unfold ff at q; (rw [gr I] at q; omega)).symm
  refine dP 5 [] (mc 0 U mn) ?_
  refine cM<|RK B<|bK U (aM fun Z=>?_) (aL fun Z=>?_)
  ·refine bZ<|aG<|KK AA<|aj<|rP 3 [] mn ?_
   refine aC ?_
   have A8:(vI (((i+1):Nat):Int))=(vI ((i:Int)+1)):=by exact cI I
   refine aS (f ⟨(i+1),⟨I,lI C hx (by unfold ff; (rw [xV I hy]; omega))⟩⟩ _ _ _ U os (dh.cons U<|aX U A8<|dh.nil _) (aH [1,2]))
  refine WS fun _ v=>rP 1 [] mn ?_
  refine RK v<|an<|Q1 hQ U U U ?_
  exact cB (cf fun h=>by have q:=h.sync i x hx; unfold ff at q; (rw [gr I] at q; omega)).symm
 refine bu<|ab<|ab<|au<|KK FS<|ah fun _ Ah=>WS fun _ Al=>rP 1 [] mn ?_
 refine RK Al<|av ?_
 have A:(0≤c.bo.length)∧(td c 0):=by exact ⟨Nat.zero_le _,fun j y hj=>absurd hj (Nat.not_lt_zero _)⟩
 refine bH (ι:={z:Nat // (z≤c.bo.length)∧(td c z)}) [1] [0,1] U U (fun z=>[(5,(vI (z.1:Int)))]) (fun z=>[]) (fun _=>rfl) (fun _=>rfl) (fun z=>c.bo.length-z.1) ⟨0,A⟩ (aT U) (aH [0,1]) ?_
 clear A
 rintro ⟨m,⟨B3,G⟩⟩ J28 e
 try dsimp only
 have F:=xh (P:=ff c) I C
 refine ah fun _ A0=>WS fun _ A1=>rP 5 [] (mc 0 U mn) ?_
 refine RK A1<|bK U (aM fun C3=>?_) (aL fun C3=>?_)
 ·refine bu<|ab<|ab<|au<|KK Ah<|WS fun _ A7=>rP 1 [] mn ?_
  refine RK A7<|an<|Q1 hQ U U U ?_
  exact cB (fI (K7 I I (xh I C) I G)).symm
 refine WK A0<|ah fun _ A2=>av<|WS fun _ A3=>rP 1 [] mn ?_
 refine RK A3<|av ?_
 have A:(0≤m)∧(∀ y,c.bo[m]? =some y→Gm c y 0):=by exact ⟨Nat.zero_le _,fun y _ j o hj=>absurd hj (Nat.not_lt_zero _)⟩
 refine bH (ι:={z:Nat // (z≤m)∧(∀ y,c.bo[m]? =some y→Gm c y z)}) [1,5] [0,1] U U (fun z=>[(6,(vI (z.1:Int)))]) (fun z=>[]) (fun _=>rfl) (fun _=>rfl) (fun z=>m-z.1) ⟨0,A⟩ (aT U) (aH [0,1]) ?_
 clear A
 rintro ⟨k,⟨B7,D⟩⟩ J33 T
 try dsimp only
 refine ah fun _ A4=>WS fun _ A5=>rP 3 [] mn ?_
 refine RK A5<|bK U (aM fun Di=>?_) (aL fun Di=>?_)
 ·refine bu<|ab<|ab<|au<|aG<|KK A2<|aj<|rP 3 [] mn ?_
  refine aC ?_
  have Bi:(vI (((m+1):Nat):Int))=(vI ((m:Int)+1)):=by exact cI I
  refine aS (e ⟨(m+1),⟨I,Ep G D I⟩⟩ _ _ _ U os (dh.cons U<|aX U Bi<|dh.nil _) (aH [0,1]))
 refine WK A4<|ah fun _ V=>av<|ah fun _ W=>pn cu [0,1,2,3,4,5,6,7,8,9] [10,11,12,13] [false,false,false,false,false,false,false,false,false,false] [] [(bV b2 119 (dp.cells (dp.mk c.dg (br.mk sA c.bo.length sC)))),(rd sA c.bo.length 3 (c.bo.map cw.cells)).ro] [] kr (aH [0,1]) (aH [])<|eS U (FA 1 U fu U)<|eS U (L1 (vS sA c.bo.length sC) 0 U bX U U)<|eS U (MV U) ?_
 obtain ⟨x,hx⟩:=aJ c.bo k I
 have b:=bG cw.cells hx
 refine eS U (IA k U (aD 1 U) qi dc I I)<|eS U (oH k 0 (cw.cells x) U bX (aD 1 U) b U dc U U)<|eS U (FA 1 U fu U)<|eS U (L1 (vS sA c.bo.length sC) 0 U bX U U)<|eS U (MV U) ?_
 obtain ⟨y,hy⟩:=aJ c.bo m I
 have d:=bG cw.cells hy
 refine eS U (IA m U (aD 1 U) qi dc I I)<|eS U (oH m 0 (cw.cells y) U bX (aD 1 U) d U dc U U)<|eU U<|iJ [10,11] kr (eE ?_<|eE ?_<|kl)
 rotate_left 1
 ·refine NO U U [10,12,13] fun T38 M=>AL U rG fun B9=>RD M 1 U<|N1 10<|NO U U [12,13] fun T40 N=>AL U rG fun Ci=>RD N 2 U<|N1 12<|NO U U [13] fun T42 O=>fP U tY U<|RD O 2 U<|N1 13<|NO U U [] fun T43 R=>ub U tY U<|RD R 2 U<|pR<|KK W<|WS fun _ J=>rP 6 [0,1,2] (mc 2 U (mc 1 U (mc 0 U mn))) ?_
  obtain ⟨Fn,GE,GT⟩:=uL (fun j z _ hz=>F j z hz) hy (F _ _ hy) (show k<m by omega) hx
  refine bf 1 U<|rS (CL (wm c.dg (y.At-x.At) I I) (aI) U)<|bf 1 U<|RK J<|WS fun _ E=>rP 10 [0,1] (mc 0 U (mc 1 U mn)) ?_
  refine cQ (t:=113) U (aL fun H=>?_) (aM fun H=>?_)
  ·refine bf 10 U<|RK E<|aO U<|WS fun _ K=>rP 1 [] mn ?_
   refine RK K<|an<|Q1 hQ U U U ?_
   exact cB (cf fun h=>by have q:=h.pair m k y x hy I hx; unfold ny at q; omega).symm
  refine rP 10 [0,1] (mc 1 U (mc 0 U mn)) ?_
  refine RK E<|bK U (aM fun AB=>?_) (aL fun AB=>?_)
  ·refine bZ<|aG<|KK V<|aj<|rP 3 [] mn ?_
   refine aC ?_
   have S:(vI (((k+1):Nat):Int))=(vI ((k:Int)+1)):=by exact cI I
   refine aS (T ⟨(k+1),⟨I,fun z hz=>by rw [hy] at hz; cases hz; exact lI (D _ hy) hx (by unfold ny; omega)⟩⟩ _ _ _ rfl os (dh.cons rfl<|dh.cons rfl<|aX rfl S<|dh.nil _) (aH [2,3]))
  refine WS fun _ L=>rP 1 [] mn ?_
  refine RK L<|an<|Q1 hQ U U U ?_
  exact cB (cf fun h=>by have q:=h.pair m k y x hy I hx; unfold ny at q; omega).symm
 refine NO U U [11,12,13] fun T38 M=>AL U rG fun B9=>RD M 1 U<|N1 11<|NO U U [12,13] fun T40 N=>AL U rG fun Ci=>RD N 2 U<|N1 12<|NO U U [13] fun T42 O=>ub U tY U<|RD O 2 U<|N1 13<|NO U U [] fun T43 R=>fP U tY U<|RD R 2 U<|pR<|KK W<|WS fun _ J=>rP 6 [0,1,2] (mc 2 U (mc 0 U (mc 1 U mn))) ?_
 obtain ⟨Fn,GE,GT⟩:=uL (fun j z _ hz=>F j z hz) hy (F _ _ hy) (show k<m by omega) hx
 refine bf 1 U<|rS (CL (wm c.dg (y.At-x.At) I I) (aI) U)<|bf 1 U<|RK J<|WS fun _ E=>rP 10 [0,1] (mc 1 U (mc 0 U mn)) ?_
 refine cQ (t:=113) U (aL fun H=>?_) (aM fun H=>?_)
 ·refine bf 10 U<|RK E<|aO U<|WS fun _ K=>rP 1 [] mn ?_
  refine RK K<|an<|Q1 hQ U U U ?_
  exact cB (cf fun h=>by have q:=h.pair m k y x hy I hx; unfold ny at q; omega).symm
 refine rP 10 [0,1] (mc 0 U (mc 1 U mn)) ?_
 refine RK E<|bK U (aM fun AB=>?_) (aL fun AB=>?_)
 ·refine bZ<|aG<|KK V<|aj<|rP 3 [] mn ?_
  refine aC ?_
  have S:(vI (((k+1):Nat):Int))=(vI ((k:Int)+1)):=by exact cI I
  refine aS (T ⟨(k+1),⟨I,fun z hz=>by rw [hy] at hz; cases hz; exact lI (D _ hy) hx (by unfold ny; omega)⟩⟩ _ _ _ rfl os (dh.cons rfl<|dh.cons rfl<|aX rfl S<|dh.nil _) (aH [2,3]))
 refine WS fun _ L=>rP 1 [] mn ?_
 refine RK L<|an<|Q1 hQ U U U ?_
 exact cB (cf fun h=>by have q:=h.pair m k y x hy I hx; unfold ny at q; omega).symm
theorem CT (c:ar) (sA:OA) (sC:Nat) (at_:Int) (hc:eT c) (ha:0≤at_∧at_≤90000000):
 dT Tryz.prog 178 [(vA (dp.cells (dp.mk c.dg (br.mk sA c.bo.length sC)))),(vI at_)] [(rd sA c.bo.length 3 (c.bo.map cw.cells))] (vA (aa.cells (ik c at_))):=by
 have e:=hc.len
 have W:=hc.rH
 refine bx kr Tryz.func178 U U fun j Q hQ hN=>?_
 try dsimp only
 refine WS fun _ R=>fM U fun g=>AL U de fun h=>RK R<|WS fun _ S=>AL U de fun d=>RK S<|ah fun _ T=>WS fun _ AA=>rP 1 [] mn ?_
 refine RK AA<|av ?_
 have A:(0≤c.bo.length):=by exact Nat.zero_le _
 refine bH (ι:={z:Nat // (z≤c.bo.length)}) [1,2,4,5] [1,2,3] U U (fun z=>[(6,(vI (z.1:Int)))]) (fun z=>[(bV d 40 (aa.cells (kI c at_ z.1)))]) (fun _=>rfl) (fun _=>rfl) (fun z=>c.bo.length-z.1) ⟨0,A⟩ (aT U) (aH [1,2,3,0]) ?_
 clear A
 rintro ⟨i,X⟩ J8 D
 try dsimp only
 refine ah fun _ V=>WS fun _ E=>rP 5 [] (mc 1 U mn) ?_
 refine RK E<|bK U (aM fun O=>?_) (aL fun O=>?_)
 ·refine bu<|ab<|ab<|au<|KK T<|WS fun _ J=>rP 1 [] (mc 3 U mn) ?_
  refine fP U cm U<|RK J<|an<|Ij hQ [0] (mc 0 U mn) U ?_
  rw [D5 hc (show c.bo.length≤i by omega)]
 refine WK V<|ah fun _ B=>av<|WS fun _ F=>rP 3 [] (mc 1 U mn) ?_
 obtain ⟨x,hx⟩:=aJ c.bo i I
 have Z:=bG cw.cells hx
 refine rS (IA i U (aD 2 U) qi dc I I)<|rS (oH i 0 (cw.cells x) U bX (aD 2 U) Z U dc U U)<|AL U rG fun a=>fP U tY U<|RK F<|WS fun _ G=>rP 2 [] (mc 2 U mn) ?_
 have Y:=hc.uH hx
 have f:0≤pa (c.dg*max (at_-x.At) (x.At-at_)) 1000000∧pa (c.dg*max (at_-x.At) (x.At-at_)) 1000000≤90001:=uU W ha Y.1
 refine fw 8 [] (mc 0 U mn) U<|rS (MX U)<|rS (CL (wm c.dg (max (at_-x.At) (x.At-at_)) I I) (aI) U)<|bf 1 U<|RK G<|WS fun _ H=>fw 10 [] (mc 0 U mn) U<|rS (SX (bh (xs:=[(0,.tmp 38),(1,.tmp 43)]) (cs:=(aa.cells (aa.mk (x.eo.Lo-(pa (c.dg*(max (at_-x.At) (x.At-at_))) 1000000)) (x.eo.Hi+(pa (c.dg*(max (at_-x.At) (x.At-at_))) 1000000))))) U U (bg gf U)) U U)<|AL U de fun b=>fP U cm U<|RK H<|ah fun _ C=>WS fun _ AB=>rP 2 [] mn ?_
 refine RK AB<|bK U (aM fun P=>?_) (aL fun P=>?_)
 ·refine WK C<|aj<|fw 4 [0,1] (mc 5 U (mc 0 U mn)) U<|rS (MX U)<|rP 4 [0,1] (mc 5 U (mc 0 U mn)) ?_
  refine rS (MN U)<|rS (SX (bh (xs:=[(0,.tmp 52),(1,.tmp 57)]) (cs:=(aa.cells (aa.mk (max ((kI c at_ i).Lo) (x.eo.Lo-(pa (c.dg*(max (at_-x.At) (x.At-at_))) 1000000))) (min ((kI c at_ i).Hi) (x.eo.Hi+(pa (c.dg*(max (at_-x.At) (x.At-at_))) 1000000)))))) U U (bg gf U)) U U)<|Ii U cm U<|aC<|aG<|KK B ?_
  have M:(aa.cells (aa.mk (max ((kI c at_ i).Lo) (x.eo.Lo-(pa (c.dg*(max (at_-x.At) (x.At-at_))) 1000000))) (min ((kI c at_ i).Hi) (x.eo.Hi+(pa (c.dg*(max (at_-x.At) (x.At-at_))) 1000000)))))=(aa.cells (kI c at_ (i+1))):=by exact congrArg aa.cells (B0 hx I).symm
  rw [M]
  refine aj<|rP 3 [] mn ?_
  refine aC ?_
  have N:(vI (((i+1):Nat):Int))=(vI ((i:Int)+1)):=by exact cI I
  refine aS (D ⟨(i+1),(by first|omega|(simp only []; omega))⟩ _ _ _ U os (ct 4<|aX U N<|dh.nil _) (aH [2,3,4,5]))
 refine aj<|fw 1 [] (mc 0 U mn) U<|Ii U cm U<|RK C<|aj<|fw 4 [0,1] (mc 5 U (mc 0 U mn)) U<|rS (MX U)<|rP 4 [0,1] (mc 5 U (mc 0 U mn)) ?_
 refine rS (MN U)<|rS (SX (bh (xs:=[(0,.tmp 52),(1,.tmp 57)]) (cs:=(aa.cells (aa.mk (max (x.eo.Lo-(pa (c.dg*(max (at_-x.At) (x.At-at_))) 1000000)) (x.eo.Lo-(pa (c.dg*(max (at_-x.At) (x.At-at_))) 1000000))) (min (x.eo.Hi+(pa (c.dg*(max (at_-x.At) (x.At-at_))) 1000000)) (x.eo.Hi+(pa (c.dg*(max (at_-x.At) (x.At-at_))) 1000000)))))) U U (bg gf U)) U U)<|Ii U cm U<|aC<|aG<|KK B ?_
 have K:(aa.cells (aa.mk (max (x.eo.Lo-(pa (c.dg*(max (at_-x.At) (x.At-at_))) 1000000)) (x.eo.Lo-(pa (c.dg*(max (at_-x.At) (x.At-at_))) 1000000))) (min (x.eo.Hi+(pa (c.dg*(max (at_-x.At) (x.At-at_))) 1000000)) (x.eo.Hi+(pa (c.dg*(max (at_-x.At) (x.At-at_))) 1000000)))))=(aa.cells (kI c at_ (i+1))):=by exact congrArg aa.cells (AV hc ha hx I).symm
 rw [K]
 refine aj<|rP 3 [] mn ?_
 refine aC ?_
 have L:(vI (((i+1):Nat):Int))=(vI ((i:Int)+1)):=by exact cI I
 refine aS (D ⟨(i+1),(by first|omega|(simp only []; omega))⟩ _ _ _ U os (ct 4<|aX U L<|dh.nil _) (aH [2,3,4,5]))
theorem JJ (l:a_) (kA:OA) (kC:Nat) (az:List RA) (cA:OA) (cC:Nat) (bA:OA) (bC:Nat) (n:Int) (hin:ep l az) (htr:cT l.aP=true) (hbk: ∀ b∈l.ae,jZ l b) (hn:0≤n∧n<(l.ae.length:Int)):
 dT Tryz.prog 156 [(vA (ck.cells (lk l kA kC cA cC bA bC))),(vI n)] [(rd kA l.aP.length 9 (l.aP.map al.cells)),(rd cA l.ak.length 2 (List.zipWith ar.cells l.ak az)),(eX (aV ar.g0 l.ak az)),(rd bA l.ae.length 4 (l.ae.map bD.cells))] (vI (lW l n.toNat)):=by
 have AA:=hin.sJ
 have S:=hin.sI
 have P:=hin.oF
 have R:=hin.sE
 have T:=hin.side
 refine bx kr Tryz.func156 U U fun X Q hQ hN=>?_
 try dsimp only
 refine WS fun _ G=>fM U fun V=>bf 1 U<|RK G<|ah fun _ H=>WS fun _ AB=>rP 2 [] mn ?_
 refine RK AB<|cy U (aL fun F=>?_) (aM fun F=>?_)
 ·refine ah fun _ J=>dG cu [11,12] [] [] [0,1,2,3,4] [] U U U U U<|eS U (FA 0 U fu U)<|eS U (LP (bE.cells (bE.mk (br.mk kA l.aP.length kC))) 0 U bX U U U)<|eS U (FA 3 U fu U)<|eS U (L1 (vS bA l.ae.length bC) 0 U bX U U) ?_
  obtain ⟨y,hy⟩:=aJ l.ae 0 I
  have A:=bG bD.cells hy
  refine eS U (IA 0 U (aD 4 U) vJ dc U I)<|eS U (nS (0*4) U (aD 4 U) (Nat.mul_pos I dc) fu U)<|eS U (oH 0 0 (cD.cells y.mH) U bX (aD 4 U) A U dc U U)<|eS U (CL (Sv l.aP kA kC y.mH asm asm) (bj [1]) U)<|eS U (MV U)<|eS U (EX U)<|eS U (EX U)<|eS U (AG U)<|eU U<|bY U fun T6 L=>AL U de fun W=>aC (L _ _ (aH [1,2,3,4,5]) ?_)
  refine bY U fun T8 M=>fP U cm U<|aC (M _ _ (aH [1,2,3,4,5]) ?_)
  refine fF U<|KK J<|WS fun _ K=>rP 3 [] (mc 0 U mn) ?_
  refine RK K<|an<|Q1 hQ U U U ?_
  (refine congrArg (Value.int .i64) ?_; rw [show n.toNat=0 by omega]; rw [yO hy,(xe htr (hbk _ (List.mem_of_getElem? hy)).1).2])
 refine WK H<|ah fun _ B=>dG cu [19,20] [] [] [0,1,2,3,4] [] U U U U U<|eS U (FA 0 U fu U)<|eS U (LP (bE.cells (bE.mk (br.mk kA l.aP.length kC))) 0 U bX U U U)<|eS U (FA 3 U fu U)<|eS U (L1 (vS bA l.ae.length bC) 0 U bX U U)<|eS U (MV U)<|eS U (BI U (rI ⟨I,I⟩)) ?_
 obtain ⟨y,hy⟩:=aJ l.ae (((n-1)).toNat) I
 have A:=bG bD.cells hy
 refine eS U (IA (((n-1)).toNat) U (aD 4 U) vJ dc I I)<|eS U (nS ((((n-1)).toNat)*4) U (aD 4 U) (Nat.mul_pos I dc) fu U)<|eS U (oH (((n-1)).toNat) 0 (cD.cells y.mH) U bX (aD 4 U) A U dc U U)<|eS U (FA 3 U fu U)<|eS U (L1 (vS bA l.ae.length bC) 0 U bX U U)<|eS U (MV U) ?_
 obtain ⟨x,hx⟩:=aJ l.ae ((n).toNat) I
 have N:=bG bD.cells hx
 refine eS U (IA ((n).toNat) U (aD 4 U) vJ dc I I)<|eS U (nS (((n).toNat)*4) U (aD 4 U) (Nat.mul_pos I dc) fu U)<|eS U (oH ((n).toNat) 0 (cD.cells x.mH) U bX (aD 4 U) N U dc U U)<|eS U (CL (Kv l.aP kA kC y.mH x.mH asm asm) (bj [1]) U)<|eS U (MV U)<|eS U (EX U)<|eS U (EX U)<|eS U (AG U)<|eU U<|bY U fun T11 D=>AL U de fun O=>aC (D _ _ (aH [1,2,3,4,5]) ?_)
 refine bY U fun T13 E=>fP U cm U<|aC (E _ _ (aH [1,2,3,4,5]) ?_)
 refine fF U<|KK B<|WS fun _ C=>rP 3 [] (mc 0 U mn) ?_
 refine RK C<|an<|Q1 hQ U U U ?_
 (refine congrArg (Value.int .i64) ?_; rw [C_ I hx (by rw [show n.toNat-1=(n-1).toNat by omega]; exact hy),(k7 htr ⟨(hbk _ (List.mem_of_getElem? hy)).1,(hbk _ (List.mem_of_getElem? hx)).1⟩).2])
theorem Le (l:a_) (kA:OA) (kC:Nat) (az:List RA) (cA:OA) (cC:Nat) (bA:OA) (bC:Nat) (n:Int) (hin:ep l az) (htr:cT l.aP=true) (hok:k9 l) (hn:0≤n∧n<(l.ae.length:Int)):
 dT Tryz.prog 176 [(vA (ck.cells (lk l kA kC cA cC bA bC))),(vI n)] [(rd kA l.aP.length 9 (l.aP.map al.cells)),(rd cA l.ak.length 2 (List.zipWith ar.cells l.ak az)),(eX (aV ar.g0 l.ak az)),(rd bA l.ae.length 4 (l.ae.map bD.cells))] (vI (dN l n.toNat)):=by
 have G:=hin.sJ
 have F:=hin.sI
 have D:=hin.oF
 have E:=hin.sE
 have C:=hok.head
 unfold gj at C
 have H:=Gn htr hok.vG n.toNat
 have AA:=hok.Rc n.toNat I
 refine bx kr Tryz.func176 U U fun K Q hQ hN=>?_
 try dsimp only
 refine WS fun _ A=>fM U fun J=>bf 1 U<|RK A<|ah fun _ B=>dB cu 12 kr<|mP 2 [] (mc 0 U mn) U<|dS (CL (JJ l kA kC az cA cC bA bC n hin htr (by exact hok.vG) hn) (bj [1,2,3,4]) U)<|dS (BI U (Ff ⟨I,I⟩))<|mP 6 [] (mc 0 U mn) U<|dS (BI U (tn I I I))<|dP 1 [] mn ?_
 refine cM<|RK B<|an<|Q1 hQ U U U ?_
 exact cI (by unfold dN pa; rw [Int.mul_comm])
theorem OF (l:a_) (kA:OA) (kC:Nat) (az:List RA) (cA:OA) (cC:Nat) (bA:OA) (bC:Nat) (hin:ep l az) (htr:cT l.aP=true):
 dT Tryz.prog 136 [(vA (ck.cells (lk l kA kC cA cC bA bC)))] [(rd kA l.aP.length 9 (l.aP.map al.cells)),(rd cA l.ak.length 2 (List.zipWith ar.cells l.ak az)),(eX (aV ar.g0 l.ak az)),(rd bA l.ae.length 4 (l.ae.map bD.cells))] (vB (decide (k9 l))):=by
 have Eq:=hin.sJ
 have Di:=hin.sI
 have C1:=hin.oF
 have C3:=hin.sE
 have Do:=hin.side
 have Dt:=jU htr
 have C0:=kM htr
 refine bx kr Tryz.func136 U U fun w0 Q hQ hN=>?_
 try dsimp only
 refine WS fun _ A8=>fM U fun b2=>bf 1 U<|RK A8<|ah fun _ A9=>WS fun _ D=>fw 2 [] (mc 0 U mn) U<|rS (CL (iA l.g9 1 5000) (aI) U)<|rP 2 [] mn ?_
 refine cQ (t:=10) U (bp fun Ah=>?_) (bq fun Ah=>?_)
 ·refine bf 35 U<|RK D<|aO U<|WS fun _ Bi=>rP 1 [] mn ?_
  refine RK Bi<|an<|Q1 hQ U U U ?_
  exact cB (cf fun h=>by have q:=h.head; unfold gj at q; omega).symm
 refine fw 3 [] (mc 0 U mn) U<|rS (CL (iA (l.ak.length:Int) 1 4) (aI) U)<|rP 3 [] mn ?_
 refine cQ (t:=17) U (bp fun Al=>?_) (bq fun Al=>?_)
 ·refine bf 28 U<|RK D<|aO U<|WS fun _ B3=>rP 1 [] mn ?_
  refine RK B3<|an<|Q1 hQ U U U ?_
  exact cB (cf fun h=>by have q:=h.head; unfold gj at q; omega).symm
 refine fw 3 [] (mc 0 U mn) U<|rS (CL (iA (l.ae.length:Int) 1 6) (aI) U)<|rP 3 [] mn ?_
 refine cQ (t:=24) U (bp fun A0=>?_) (bq fun A0=>?_)
 ·refine bf 21 U<|RK D<|aO U<|WS fun _ B7=>rP 1 [] mn ?_
  refine RK B7<|an<|Q1 hQ U U U ?_
  exact cB (cf fun h=>by have q:=h.head; unfold gj at q; omega).symm
 refine fw 6 [] (mc 0 U mn) U<|rS (CL (iA l.cH 0 ((l.ae.length:Int)-1)) (aI) U)<|rP 3 [] mn ?_
 refine cQ (t:=34) U (bp fun A1=>?_) (bq fun A1=>?_)
 ·refine bf 11 U<|RK D<|aO U<|WS fun _ B9=>rP 1 [] mn ?_
  refine RK B9<|an<|Q1 hQ U U U ?_
  exact cB (cf fun h=>by have q:=h.head; unfold gj at q; omega).symm
 refine fw 2 [] (mc 0 U mn) U<|rS (CL (iA l.eV 0 3) (aI) U)<|rP 3 [] mn ?_
 refine cQ (t:=40) U (bp fun A2=>?_) (bq fun A2=>?_)
 ·refine bf 5 U<|RK D<|aO U<|WS fun _ Ci=>rP 1 [] mn ?_
  refine RK Ci<|an<|Q1 hQ U U U ?_
  exact cB (cf fun h=>by have q:=h.head; unfold gj at q; omega).symm
 refine fw 2 [] (mc 0 U mn) U<|rS (CL (iA l.cW 0 3) (aI) U)<|rP 2 [] mn ?_
 refine RK D<|cy U (bp fun A3=>?_) (bq fun A3=>?_)
 ·refine WS fun _ N=>rP 1 [] mn ?_
  refine RK N<|an<|Q1 hQ U U U ?_
  exact cB (cf fun h=>by have q:=h.head; unfold gj at q; omega).symm
 refine WK A9<|ah fun _ O=>WS fun _ R=>rP 1 [] mn ?_
 refine RK R<|av ?_
 have A:(0≤l.ak.length)∧(∀ (j:Nat) y,j<0→l.ak[j]? =some y→eT y):=by exact ⟨Nat.zero_le _,fun j y hj=>absurd hj (Nat.not_lt_zero _)⟩
 refine bH (ι:={z:Nat // (z≤l.ak.length)∧(∀ (j:Nat) y,j<z→l.ak[j]? =some y→eT y)}) [1] [0,1,2,3,4] U U (fun z=>[(3,(vI (z.1:Int)))]) (fun z=>[]) (fun _=>rfl) (fun _=>rfl) (fun z=>l.ak.length-z.1) ⟨0,A⟩ (aT U) (aH [0,1,2,3,4]) ?_
 clear A
 rintro ⟨i,⟨Ck,F⟩⟩ J13 K
 try dsimp only
 refine ah fun _ S=>WS fun _ T=>rP 5 [] (mc 0 U mn) ?_
 refine RK T<|cy U (aL fun A4=>?_) (aM fun A4=>?_)
 ·refine WK S<|ah fun _ AB=>av<|WS fun _ V=>rP 3 [] (mc 0 U mn) ?_
  obtain ⟨x,hx⟩:=aJ l.ak i I
  obtain ⟨xa,J⟩:=aJ az i I
  have Cx:(List.zipWith ar.cells l.ak az)[i]? =some (ar.cells x xa):=dA hx J
  refine rS (IA i U (aD 2 U) AA dc I I)<|rS (oH i 0 (dp.cells (dp.mk x.dg (br.mk xa.1 x.bo.length xa.2))) U bX (aD 2 U) Cx U dc U U) ?_
  have EQ:=(hin.Rb _ _ _ hx J).2
  refine rS (CL (KC x xa.1 xa.2 asm) (aw (show il _ (rd xa.1 x.bo.length 3 (x.bo.map cw.cells)).holds from (du 3 U (bM hx J (by simp [ar.g0]))))<|aI) U)<|rP 1 [] mn ?_
  refine RK V<|bK U (bq fun AD=>?_) (bp fun AD=>?_)
  ·refine bZ<|aG<|KK AB<|aj<|rP 3 [] mn ?_
   refine aC ?_
   have u:(vI (((i+1):Nat):Int))=(vI ((i:Int)+1)):=by exact cI I
   refine aS (K ⟨(i+1),⟨I,lI (P:=fun _ y=>eT y) F hx AD⟩⟩ _ _ _ U os (dh.cons U<|aX U u<|dh.nil _) (aH [0,1,2,3,4]))
  refine WS fun _ W=>rP 1 [] mn ?_
  refine RK W<|an<|Q1 hQ U U U ?_
  exact cB (cf fun h=>AD (h.clock _ (aR hx))).symm
 refine bu<|ab<|ab<|au<|KK O<|ah fun _ X=>WS fun _ Y=>rP 1 [] mn ?_
 refine RK Y<|av ?_
 have A:(0≤l.ae.length)∧(∀ (j:Nat) y,j<0→l.ae[j]? =some y→jZ l y):=by exact ⟨Nat.zero_le _,fun j y hj=>absurd hj (Nat.not_lt_zero _)⟩
 refine bH (ι:={z:Nat // (z≤l.ae.length)∧(∀ (j:Nat) y,j<z→l.ae[j]? =some y→jZ l y)}) [1] [0,1,2,3,4] U U (fun z=>[(4,(vI (z.1:Int)))]) (fun z=>[]) (fun _=>rfl) (fun _=>rfl) (fun z=>l.ae.length-z.1) ⟨0,A⟩ (aT U) (aH [0,1,2,3,4]) ?_
 clear A
 rintro ⟨m,⟨Cp,B⟩⟩ J22 L
 try dsimp only
 refine ah fun _ Z=>WS fun _ a=>rP 5 [] (mc 0 U mn) ?_
 refine RK a<|bK U (aM fun A5=>?_) (aL fun A5=>?_)
 ·refine bu<|ab<|ab<|au<|KK X<|ah fun _ e=>WS fun _ f=>rP 1 [] mn ?_
  refine RK f<|av ?_
  have A:(0≤l.ae.length)∧(∀ j,j<0→1≤lW l j):=by exact ⟨Nat.zero_le _,fun j hj=>absurd hj (Nat.not_lt_zero _)⟩
  refine bH (ι:={z:Nat // (z≤l.ae.length)∧(∀ j,j<z→1≤lW l j)}) [1] [0,1,2,3,4] U U (fun z=>[(5,(vI (z.1:Int)))]) (fun z=>[]) (fun _=>rfl) (fun _=>rfl) (fun z=>l.ae.length-z.1) ⟨0,A⟩ (aT U) (aH [0,1,2,3,4]) ?_
  clear A
  rintro ⟨n,⟨AO,C⟩⟩ J32 M
  try dsimp only
  have C2:=xT (P:=jZ l) I B
  refine ah fun _ g=>WS fun _ k=>rP 5 [] (mc 0 U mn) ?_
  refine RK k<|bK U (aM fun A7=>?_) (aL fun A7=>?_)
  ·refine bu<|ab<|ab<|au<|KK e<|WS fun _ s=>rP 1 [] mn ?_
   refine RK s<|an<|Q1 hQ U U U ?_
   exact cB (fI (yM (by unfold gj; omega) (xT I F) (xT I B) (fun j hj=>C j I))).symm
  refine WK g<|ah fun _ o=>av<|WS fun _ p=>fw 2 [] (mc 0 U mn) U<|rS (CL (JJ l kA kC az cA cC bA bC (n:Int) hin htr asm I) (bj [1,2,3,4]) U)<|rP 1 [] mn ?_
  refine RK p<|bK U (aM fun E=>?_) (aL fun E=>?_)
  ·refine bZ<|aG<|KK o<|aj<|rP 3 [] mn ?_
   refine aC ?_
   have w:(vI (((n+1):Nat):Int))=(vI ((n:Int)+1)):=by exact cI I
   refine aS (M ⟨(n+1),⟨I,fun j hj=>by rcases Nat.lt_or_ge j n with q|q; exact C j q; (obtain rfl:j=n:=by omega); simp only [Int.toNat_natCast] at E; omega⟩⟩ _ _ _ rfl os (dh.cons rfl<|aX rfl w<|dh.nil _) (aH [0,1,2,3,4]))
  refine WS fun _ r=>rP 1 [] mn ?_
  refine RK r<|an<|Q1 hQ U U U ?_
  exact cB (cf fun h=>by have q:=h.Rc n I; simp only [Int.toNat_natCast] at E; omega).symm
 refine WK Z<|ah fun _ b=>av<|ah fun _ H=>dB cu 24 kr<|lH 1 U<|dS (LP (bE.cells (bE.mk (br.mk kA l.aP.length kC))) 0 U bX U U U)<|dP 3 [] (mc 0 U mn) ?_
 obtain ⟨y,hy⟩:=aJ l.ae m I
 have AC:=bG bD.cells hy
 refine dS (IA m U (aD 4 U) vJ dc I I)<|dS (nS (m*4) U (aD 4 U) (Nat.mul_pos I dc) fu U)<|dS (oH m 0 (cD.cells y.mH) U bX (aD 4 U) AC U dc U U)<|dS (CL (qY l.aP kA kC y.mH asm asm) (bj [1]) U)<|dP 2 [] mn ?_
 refine iX (t:=77) U (bp fun G=>?_) (bq fun G=>?_)
 ·refine lH 13 U<|cM<|RK H<|aO U<|WS fun _ c=>rP 1 [] mn ?_
  refine RK c<|an<|Q1 hQ U U U ?_
  exact cB (cf fun h=>by have q:=h.vG _ (aR hy); have q2:=q.2; first|exact G q.1|omega).symm
 refine mP 3 [] (mc 0 U mn) U<|dS (IA m U (aD 4 U) vJ dc I I)<|dS (nS ((m*4)+3) U (aD 4 U) (Nat.mul_pos I dc) fu U)<|dS (fV m 3 (vI y.jK) U bX (aD 4 U) AC U dc U)<|mP 4 [] (mc 0 U mn) U<|dS (CL (iA y.jK 0 ((l.ak.length:Int)-1)) (aI) U)<|dP 2 [] mn ?_
 refine cM<|RK H<|bK U (bq fun A6=>?_) (bp fun A6=>?_)
 ·refine bZ<|aG<|KK b<|aj<|rP 3 [] mn ?_
  refine aC ?_
  have v:(vI (((m+1):Nat):Int))=(vI ((m:Int)+1)):=by exact cI I
  refine aS (L ⟨(m+1),⟨I,lI (P:=fun _ y=>jZ l y) B hy ⟨G,I,I⟩⟩⟩ _ _ _ U os (dh.cons U<|aX U v<|dh.nil _) (aH [0,1,2,3,4]))
 refine WS fun _ d=>rP 1 [] mn ?_
 refine RK d<|an<|Q1 hQ U U U ?_
 exact cB (cf fun h=>by have q:=h.vG _ (aR hy); have q2:=q.2; first|exact G q.1|omega).symm
end
section
open Go.RowKit
theorem BY (l:a_) (kA:OA) (kC:Nat) (az:List RA) (cA:OA) (cC:Nat) (bA:OA) (bC:Nat) (hin:ep l az):
 dT Tryz.prog 111 [(vA (ck.cells (lk l kA kC cA cC bA bC)))] [(rd kA l.aP.length 9 (l.aP.map al.cells)),(rd cA l.ak.length 2 (List.zipWith ar.cells l.ak az)),(eX (aV ar.g0 l.ak az)),(rd bA l.ae.length 4 (l.ae.map bD.cells))] (vI (dq l)):=by
 have N:=hin.sJ
 have M:=hin.sI
 have K:=hin.oF
 have L:=hin.sE
 refine bx kr Tryz.func111 U U fun P Q hQ hN=>?_
 try dsimp only
 refine WS fun _ C=>fM U fun O=>bf 1 U<|RK C<|ah fun _ D=>WS fun _ E=>bf 1 U<|rS (LP (bE.cells (bE.mk (br.mk kA l.aP.length kC))) 0 U bX U U U)<|rS (CL (vZ l.aP kA kC asm) (bj [1]) U)<|rP 1 [] mn ?_
 refine RK E<|cy U (fun A=>?_) (fun A=>?_)
 ·rw [Bool.not_eq_true'] at A
  refine WS fun _ F=>rP 1 [] mn ?_
  refine RK F<|an<|Q1 hQ U U U ?_
  exact cI (yS (by simpa using A)).symm
 rw [Bool.not_eq_false'] at A
 refine WK D<|ah fun _ G=>WS fun _ H=>fw 1 [] (mc 0 U mn) U<|rS (CL (OF l kA kC az cA cC bA bC hin asm) (bj [1,2,3,4]) U)<|rP 1 [] mn ?_
 refine RK H<|cy U (bp fun B=>?_) (bq fun B=>?_)
 ·refine WS fun _ AA=>rP 1 [] mn ?_
  refine RK AA<|an<|Q1 hQ U U U ?_
  exact cI (qE A B).symm
 refine WK G<|WS fun _ J=>rP 1 [] mn ?_
 refine RK J<|an<|Q1 hQ U U U ?_
 exact cI (xW A B).symm
theorem MT (l:a_) (kA:OA) (kC:Nat) (az:List RA) (cA:OA) (cC:Nat) (bA:OA) (bC:Nat) (s:aK) (hin:ep l az) (hok:k9 l) (hs:(0≤s.gd∧s.gd≤(l.ae.length:Int)-1)∧0≤s.Read∧s.Read≤86400000):
 dT Tryz.prog 177 [(vA (ck.cells (lk l kA kC cA cC bA bC))),(vA (aK.cells s))] [(rd kA l.aP.length 9 (l.aP.map al.cells)),(rd cA l.ak.length 2 (List.zipWith ar.cells l.ak az)),(eX (aV ar.g0 l.ak az)),(rd bA l.ae.length 4 (l.ae.map bD.cells))] (vT [(vA (aa.cells (cz l s))),(vB (decide ((cz l s).Lo≤(cz l s).Hi)))]):=by
 have A0:=hin.sJ
 have Al:=hin.sI
 have AO:=hin.oF
 have Ah:=hin.sE
 refine bx kr Tryz.func177 U U fun w0 Q hQ hN=>?_
 try dsimp only
 refine WS fun _ i=>fM U fun b2=>fM U fun b3=>AL U de fun b4=>rP 1 [] mn ?_
 refine RK i<|ah fun _ j=>dG cu [11,12] [] [] [0,1,2,3,4,5,6] [] U U U U U<|eS U (FA 2 U fu U)<|eS U (L1 (vS cA l.ak.length cC) 2 U bX U U)<|eS U (FA 3 U fu U)<|eS U (L1 (vS bA l.ae.length bC) 2 U bX U U)<|eS U (FA 0 U fu U)<|eS U (L1 (vI s.gd) 1 U bX U U) ?_
 obtain ⟨y,hy⟩:=aJ l.ae ((s.gd).toNat) I
 have w:=bG bD.cells hy
 refine eS U (IA ((s.gd).toNat) U (aD 6 U) vJ dc I I)<|eS U (nS ((((s.gd).toNat)*4)+3) U (aD 6 U) (Nat.mul_pos I dc) fu U)<|eS U (fV ((s.gd).toNat) 3 (vI y.jK) U bX (aD 6 U) w U dc U) ?_
 have A1:=(hok.vG _ (aR hy)).2
 obtain ⟨x,hx⟩:=aJ l.ak ((y.jK).toNat) I
 obtain ⟨xa,J⟩:=aJ az ((y.jK).toNat) I
 have u:(List.zipWith ar.cells l.ak az)[(y.jK).toNat]? =some (ar.cells x xa):=dA hx J
 refine eS U (IA ((y.jK).toNat) U (aD 4 U) AA dc I I)<|eS U (oH ((y.jK).toNat) 0 (dp.cells (dp.mk x.dg (br.mk xa.1 x.bo.length xa.2))) U bX (aD 4 U) u U dc U U)<|eU U<|bY U fun T6 m=>AL U JY fun b7=>aC (m _ _ (aH [1,2,3,4,5,6,7]) ?_)
 refine bY U fun T8 o=>fP U O0 U<|aC (o _ _ (aH [1,2,3,4,5,6,7]) ?_)
 refine fF U<|KK j<|WS fun _ k=>rP 2 [] mn ?_
 refine RK k<|ah fun _ K=>av ?_
 have A:(0≤(0:Int)∧(0:Int)≤(fg (fY x s.Read) 86400001))∧((fg (fY x s.Read) 86400001)≤(86400001:Int)∧(86400001:Int)≤86400001):=by (have Z:=ij (p:=fY x s.Read) (n:=86400001); omega)
 refine bH (ι:={z:Int×Int // (0≤z.1∧z.1≤(fg (fY x s.Read) 86400001))∧((fg (fY x s.Read) 86400001)≤z.2∧z.2≤86400001)}) [2,3,4,6] [0,1,2,3,4,5,6,7] U U (fun z=>[(7,(vI z.1.1)),(8,(vI z.1.2))]) (fun z=>[]) (fun _=>rfl) (fun _=>rfl) (fun z=>(z.1.2-z.1.1).toNat) ⟨((0:Int),(86400001:Int)),A⟩ (aT U) (aH [0,1,2,3,4,5,6,7]) ?_
 clear A
 rintro ⟨⟨a,b⟩,⟨H,AC⟩⟩ J11 F
 try dsimp only at H AC
 try dsimp only
 have B:=hok.clock _ (aR hx)
 have Z:=ij (p:=fY x s.Read) (n:=86400001)
 have Y:=ij (p:=fW x s.Read) (n:=86400001)
 refine ah fun _ L=>WS fun _ M=>rP 3 [] mn ?_
 refine RK M<|cy U (aL fun c=>?_) (aM fun c=>?_)
 ·refine WK L<|av<|WS fun _ N=>bf 3 U<|rS (BI U (tn I I I))<|bf 1 U<|RK N<|ah fun _ O=>dB cu 9 kr<|dP 3 [] (mc 0 U mn) ?_
  refine dS (CL (CT x xa.1 xa.2 ((a+b)/2) asm I) (aw (show il _ (rd xa.1 x.bo.length 3 (x.bo.map cw.cells)).holds from (du 6 U (bM hx J (by simp [ar.g0]))))<|aI) U)<|dS (SX (kO (v:=(vI ((ik x ((a+b)/2)).Hi))) U U fu Aa U) U U) ?_
  have t:=qg B (show 0≤(a+b)/2∧(a+b)/2≤90000000 by omega)
  refine dP 4 [] (mc 2 U mn) ?_
  refine cM<|RK O<|cy U (aL fun g=>?_) (aM fun g=>?_)
  ·refine aj<|rP 2 [] mn ?_
   refine aC<|aG ?_
   refine aS (F ⟨(a,((a+b)/2)),(by dsimp only; have hm:=kS (r:=s.Read) B (x:=(a+b)/2) I I; rcases Int.lt_or_le ((a+b)/2) (fg (fY x s.Read) 86400001) with q|q; (have C:=hm.1 q; simp only [fY,decide_eq_false_iff_not] at C; omega); (have C:=hm.2.1 q; simp only [fY,decide_eq_true_eq] at C; omega))⟩ _ _ _ rfl (by simp only []; omega) (aT rfl) (aH [0,1,2,3,4,5,6,7]))
  refine aj<|rP 3 [] mn ?_
  refine aC<|aG ?_
  refine aS (F ⟨((((a+b)/2)+1),b),(by dsimp only; have hm:=kS (r:=s.Read) B (x:=(a+b)/2) I I; rcases Int.lt_or_le ((a+b)/2) (fg (fY x s.Read) 86400001) with q|q; (have C:=hm.1 q; simp only [fY,decide_eq_false_iff_not] at C; omega); (have C:=hm.2.1 q; simp only [fY,decide_eq_true_eq] at C; omega))⟩ _ _ _ rfl (by simp only []; omega) (aT rfl) (aH [0,1,2,3,4,5,6,7]))
 refine bu<|ab<|ab<|au<|KK K<|WS fun _ P=>bf 2 U<|RK P<|WS fun _ R=>rP 2 [] mn ?_
 refine RK R<|ah fun _ S=>av ?_
 have A:(-1≤((-1):Int)∧((-1):Int)≤(fg (fW x s.Read) 86400001)-1)∧((fg (fW x s.Read) 86400001)-1≤(86400000:Int)∧(86400000:Int)≤86400000):=by (have Y:=ij (p:=fW x s.Read) (n:=86400001); omega)
 refine bH (ι:={z:Int×Int // (-1≤z.1∧z.1≤(fg (fW x s.Read) 86400001)-1)∧((fg (fW x s.Read) 86400001)-1≤z.2∧z.2≤86400000)}) [2,3,4,6,10] [0,1,2,3,4,5,6,7] U U (fun z=>[(7,(vI z.1.1)),(8,(vI z.1.2))]) (fun z=>[]) (fun _=>rfl) (fun _=>rfl) (fun z=>(z.1.2-z.1.1).toNat) ⟨(((-1):Int),(86400000:Int)),A⟩ (aT U) (aH [0,1,2,3,4,5,6,7]) ?_
 clear A
 rintro ⟨⟨d,e⟩,⟨D,E⟩⟩ J20 G
 try dsimp only at D E
 try dsimp only
 have B:=hok.clock _ (aR hx)
 have Z:=ij (p:=fY x s.Read) (n:=86400001)
 have Y:=ij (p:=fW x s.Read) (n:=86400001)
 refine ah fun _ T=>WS fun _ AB=>rP 3 [] mn ?_
 refine RK AB<|bK U (aM fun f=>?_) (aL fun f=>?_)
 ·refine bu<|ab<|ab<|au<|KK S<|WS fun _ X=>bf 2 U<|rS (SX (bh (xs:=[(0,.tmp 63),(1,.tmp 64)]) (cs:=(aa.cells (aa.mk a d))) U U (bg gf U)) U U)<|bf 3 U<|ub U cm U<|rP 1 [] mn ?_
  refine RK X<|an<|lp hQ [0] (mc 1 U mn) U ?_
  have e0:cz l s=⟨a,d⟩:=by (unfold cz qh; rw [w6 hy hx,show a=(fg (fY x s.Read) 86400001) by omega,show d=(fg (fW x s.Read) 86400001)-1 by omega])
  rw [e0]
 refine WK T<|av<|WS fun _ V=>bf 4 U<|rS (BI U (tn I I I))<|bf 1 U<|RK V<|ah fun _ W=>dB cu 9 kr<|dP 3 [] (mc 0 U mn) ?_
 refine dS (CL (CT x xa.1 xa.2 (((d+e)+1)/2) asm I) (aw (show il _ (rd xa.1 x.bo.length 3 (x.bo.map cw.cells)).holds from (du 6 U (bM hx J (by simp [ar.g0]))))<|aI) U)<|dS (SX (kO (v:=(vI ((ik x (((d+e)+1)/2)).Lo))) U U fu AW U) U U) ?_
 have t:=qg B (show 0≤(d+e+1)/2∧(d+e+1)/2≤90000000 by omega)
 refine dP 4 [] (mc 2 U mn) ?_
 refine cM<|RK W<|cy U (aL fun h=>?_) (aM fun h=>?_)
 ·refine aj<|rP 2 [] mn ?_
  refine aC<|aG ?_
  refine aS (G ⟨((((d+e)+1)/2),e),(by dsimp only; have hm:=kS (r:=s.Read) B (x:=(d+e+1)/2) I I; rcases Int.lt_or_le ((d+e+1)/2) (fg (fW x s.Read) 86400001) with q|q; (have C:=hm.2.2.1 q; simp only [fW,decide_eq_false_iff_not] at C; omega); (have C:=hm.2.2.2 q; simp only [fW,decide_eq_true_eq] at C; omega))⟩ _ _ _ rfl (by simp only []; omega) (aT rfl) (aH [0,1,2,3,4,5,6,7]))
 refine aj<|rP 3 [] mn ?_
 refine aC<|aG ?_
 refine aS (G ⟨(d,((((d+e)+1)/2)-1)),(by dsimp only; have hm:=kS (r:=s.Read) B (x:=(d+e+1)/2) I I; rcases Int.lt_or_le ((d+e+1)/2) (fg (fW x s.Read) 86400001) with q|q; (have C:=hm.2.2.1 q; simp only [fW,decide_eq_false_iff_not] at C; omega); (have C:=hm.2.2.2 q; simp only [fW,decide_eq_true_eq] at C; omega))⟩ _ _ _ rfl (by simp only []; omega) (aT rfl) (aH [0,1,2,3,4,5,6,7]))
end
section
open Go.RowKit
theorem Nw (l:a_) (kA:OA) (kC:Nat) (az:List RA) (cA:OA) (cC:Nat) (bA:OA) (bC:Nat) (r:cv) (sgA:OA) (sgC:Nat) (hin:ep l az) (hsl:r.ag.length≤1000000):
 dT Tryz.prog 172 [(vA (ck.cells (lk l kA kC cA cC bA bC))),(vA (eB.cells (mF r sgA sgC)))] [(rd kA l.aP.length 9 (l.aP.map al.cells)),(rd cA l.ak.length 2 (List.zipWith ar.cells l.ak az)),(eX (aV ar.g0 l.ak az)),(rd bA l.ae.length 4 (l.ae.map bD.cells)),(rd sgA r.ag.length 2 (r.ag.map aK.cells))] (vB (decide (e9 l r))):=by
 have Ah:=hin.sJ
 have AO:=hin.sI
 have w:=hin.oF
 have AC:=hin.sE
 refine bx kr Tryz.func172 U U fun w0 Q hQ hN=>?_
 try dsimp only
 refine WS fun _ h=>fM U fun b2=>fM U fun b3=>bf 1 U<|RK h<|ah fun _ j=>WS fun _ H=>fw 2 [] (mc 0 U mn) U<|rS (CL (iA r.Start 0 86400000) (aI) U)<|rP 2 [] mn ?_
 refine cQ (t:=11) U (bp fun X=>?_) (bq fun X=>?_)
 ·refine bf 13 U<|RK H<|aO U<|WS fun _ k=>rP 1 [] mn ?_
  refine RK k<|an<|Q1 hQ U U U ?_
  exact cB (cf fun q=>by have C:=q.time; have u:=q.len; omega).symm
 refine fw 4 [] (mc 0 U mn) U<|rS (CL (iA r.fZ r.Start 86400000) (aI) U)<|rP 3 [] mn ?_
 refine cQ (t:=19) U (bp fun Z=>?_) (bq fun Z=>?_)
 ·refine bf 5 U<|RK H<|aO U<|WS fun _ m=>rP 1 [] mn ?_
  refine RK m<|an<|Q1 hQ U U U ?_
  exact cB (cf fun q=>by have C:=q.time; have u:=q.len; omega).symm
 refine rP 5 [] (mc 0 U mn) ?_
 refine RK H<|cy U (aL fun a=>?_) (aM fun a=>?_)
 ·refine WS fun _ n=>rP 1 [] mn ?_
  refine RK n<|an<|Q1 hQ U U U ?_
  exact cB (cf fun q=>by have C:=q.time; have u:=q.len; omega).symm
 refine WK j<|ah fun _ o=>WS fun _ J=>rP 1 [] mn ?_
 refine RK J<|av ?_
 have F:(0≤r.ag.length)∧(qn l r.ag 0):=by exact ⟨Nat.zero_le _,zL⟩
 refine bH (ι:={z:Nat // (z≤r.ag.length)∧(qn l r.ag z)}) [2,3] [0,1,2,3,4,5,6] U U (fun z=>[(5,(vI (z.1:Int)))]) (fun z=>[]) (fun _=>rfl) (fun _=>rfl) (fun z=>r.ag.length-z.1) ⟨0,F⟩ (aT U) (aH [0,1,2,3,4,5,6]) ?_
 clear F
 rintro ⟨i,⟨p,A⟩⟩ J11 D
 try dsimp only
 refine ah fun _ K=>WS fun _ L=>rP 5 [] (mc 0 U mn) ?_
 refine RK L<|bK U (aM fun Y=>?_) (aL fun Y=>?_)
 ·refine bu<|ab<|ab<|au<|KK o<|WS fun _ T=>rP 1 [] mn ?_
  refine RK T<|an<|Q1 hQ U U U ?_
  exact cB (fI (BM I I A I)).symm
 refine WK K<|ah fun _ E=>av<|WS fun _ M=>rP 3 [] (mc 0 U mn) ?_
 obtain ⟨x,hx⟩:=aJ r.ag i I
 have s:=bG aK.cells hx
 refine rS (IA i U (aD 6 U) z5 dc I I)<|rS (oH i 0 (aK.cells x) U bX (aD 6 U) s U dc U U)<|AL U FY fun v=>fP U wM U<|RK M<|ah fun _ N=>WS fun _ G=>fw 6 [0,1] (mc 0 U (mc 2 U mn)) U<|rS (CL (iA x.gd 0 ((l.ae.length:Int)-1)) (aI) U)<|rP 2 [] mn ?_
 refine cQ (t:=45) U (bp fun b=>?_) (bq fun b=>?_)
 ·refine bf 5 U<|RK G<|aO U<|WS fun _ O=>rP 1 [] mn ?_
  refine RK O<|an<|Q1 hQ U U U ?_
  exact cB (cf fun q=>by have C:=q.sig i x hx; unfold kb lf at C; omega).symm
 refine fw 2 [] (mc 0 U mn) U<|rS (CL (iA x.Read 0 86400000) (aI) U)<|rP 2 [] mn ?_
 refine RK G<|cy U (bp fun c=>?_) (bq fun c=>?_)
 ·refine WS fun _ P=>rP 1 [] mn ?_
  refine RK P<|an<|Q1 hQ U U U ?_
  exact cB (cf fun q=>by have C:=q.sig i x hx; unfold kb lf at C; omega).symm
 refine WK N<|ah fun _ B=>dB cu 38 kr<|dP 3 [] mn ?_
 refine jk (t:=53) U (aM fun d=>?_) (aL fun d=>?_)
 ·refine lH 35 U<|cM<|RK B<|aW U<|bZ<|aG<|KK E<|aj<|rP 3 [] mn ?_
  refine aC ?_
  have W:(vI (((i+1):Nat):Int))=(vI ((i:Int)+1)):=by exact cI I
  refine aS (D ⟨(i+1),⟨I,lz A hx (by unfold kb lf; (rw [GD I]; simp only; omega))⟩⟩ _ _ _ U os (dh.cons U<|dh.cons U<|aX U W<|dh.nil _) (aH [1,2,3,4,5,6,7]))
 refine dP 6 [0,1] (mc 0 U (mc 1 U mn)) ?_
 obtain ⟨y,hy⟩:=aJ r.ag (i-1) I
 have AB:=bG aK.cells hy
 refine dS (IA (i-1) U (aD 7 U) z5 dc I I)<|dS (nS ((i-1)*2) U (aD 7 U) (Nat.mul_pos I dc) fu U)<|dS (fV (i-1) 0 (vI y.gd) U bX (aD 7 U) AB U dc U)<|dP 2 [] mn ?_
 refine iX (t:=64) U (aL fun e=>?_) (aM fun e=>?_)
 ·refine lH 24 U<|cM<|RK B<|aO U<|WS fun _ R=>rP 1 [] mn ?_
  refine RK R<|an<|Q1 hQ U U U ?_
  exact cB (cf fun q=>by have C:=q.sig i x hx; unfold kb lf at C; (rw [rp I hy] at C; omega)).symm
 refine mP 6 [0,1] (mc 0 U (mc 1 U mn)) U<|dS (IA (i-1) U (aD 7 U) z5 dc I I)<|dS (nS ((i-1)*2) U (aD 7 U) (Nat.mul_pos I dc) fu U)<|dS (fV (i-1) 0 (vI y.gd) U bX (aD 7 U) AB U dc U)<|dP 2 [] mn ?_
 refine jk (t:=75) U (aM fun f=>?_) (aL fun f=>?_)
 ·refine lH 13 U<|cM<|RK B<|aW U<|bZ<|aG<|KK E<|aj<|rP 3 [] mn ?_
  refine aC ?_
  have V:(vI (((i+1):Nat):Int))=(vI ((i:Int)+1)):=by exact cI I
  refine aS (D ⟨(i+1),⟨I,lz A hx (by unfold kb lf; (rw [rp I hy]; omega))⟩⟩ _ _ _ U os (dh.cons U<|dh.cons U<|aX U V<|dh.nil _) (aH [1,2,3,4,5,6,7]))
 refine mP 6 [0,1] (mc 0 U (mc 1 U mn)) U<|dS (IA (i-1) U (aD 7 U) z5 dc I I)<|dS (nS (((i-1)*2)+1) U (aD 7 U) (Nat.mul_pos I dc) fu U)<|dS (fV (i-1) 1 (vI y.Read) U bX (aD 7 U) AB U dc U)<|dP 4 [] mn ?_
 refine cM<|RK B<|cy U (aL fun g=>?_) (aM fun g=>?_)
 ·refine WS fun _ S=>rP 1 [] mn ?_
  refine RK S<|an<|Q1 hQ U U U ?_
  exact cB (cf fun q=>by have C:=q.sig i x hx; unfold kb lf at C; (rw [rp I hy] at C; omega)).symm
 refine bZ<|aG<|KK E<|aj<|rP 3 [] mn ?_
 refine aC ?_
 have AA:(vI (((i+1):Nat):Int))=(vI ((i:Int)+1)):=by exact cI I
 refine aS (D ⟨(i+1),⟨I,lz A hx (by unfold kb lf; (rw [rp I hy]; omega))⟩⟩ _ _ _ U os (dh.cons U<|dh.cons U<|aX U AA<|dh.nil _) (aH [1,2,3,4,5,6,7]))
end
section
open Go.RowKit
theorem Oq (l:a_) (kA:OA) (kC:Nat) (az:List RA) (cA:OA) (cC:Nat) (bA:OA) (bC:Nat) (r:cv) (sgA:OA) (sgC:Nat) (hin:ep l az) (hle:dq l=0) (hr:e9 l r):
 lv Tryz.prog 174 [(vA (ck.cells (lk l kA kC cA cC bA bC))),(vA (eB.cells (mF r sgA sgC)))] [(rd kA l.aP.length 9 (l.aP.map al.cells)),(rd cA l.ak.length 2 (List.zipWith ar.cells l.ak az)),(eX (aV ar.g0 l.ak az)),(rd bA l.ae.length 4 (l.ae.map bD.cells)),(rd sgA r.ag.length 2 (r.ag.map aK.cells))] (fun (x:(OA)×Nat×(OA)×Nat×(OA)×Nat)=>(vA (iu.cells (iu.mk (br.mk x.1 ((cJ l l.ae.length).length) x.2.1) (br.mk x.2.2.1 ((eM l r r.ag.length).length) x.2.2.2.1) (br.mk x.2.2.2.2.1 ((e8 l r r.ag.length).length) x.2.2.2.2.2))))) (fun (x:(OA)×Nat×(OA)×Nat×(OA)×Nat)=>True) (fun (x:(OA)×Nat×(OA)×Nat×(OA)×Nat)=>[(own x.1 x.2.1 3 1 ((cJ l l.ae.length).map iC)),(own x.2.2.1 x.2.2.2.1 40 2 ((eM l r r.ag.length).map aa.cells)),(own x.2.2.2.2.1 x.2.2.2.2.2 4 1 ((e8 l r r.ag.length).map pY))]):=by
 have A5:=hin.sJ
 have A1:=hin.sI
 have Al:=hin.oF
 have A0:=hin.sE
 obtain ⟨w,g⟩:=gF hle
 have t:=g.head
 unfold gj at t
 have A3:=hr.len
 have A4:=hr.time
 refine dj kr Tryz.func174 U U fun w0 Q hQ hN=>?_
 try dsimp only
 refine WS fun _ n=>fM U fun b2=>fM U fun b3=>AL U Pg fun b4=>RK n<|WS fun _ o=>AL U Pg fun h=>RK o<|ah fun _ p=>WS fun _ q=>rP 1 [] mn ?_
 refine RK q<|av<|fQ 3 1 ?_
 have A:(0≤l.ae.length):=by exact Nat.zero_le _
 refine bH (ι:={z:Nat×(OA)×Nat // (z.1≤l.ae.length)}) [2,3,4,5] [2,3,4,5,6,7,8,9] U U (fun z=>[(6,(vI (z.1.1:Int)))]) (fun z=>[(own z.1.2.1 z.1.2.2 3 1 ((cJ l z.1.1).map iC)),(bV h 238 (iu.cells (iu.mk (br.mk z.1.2.1 ((cJ l z.1.1).length) z.1.2.2) (br.mk none 0 0) (br.mk none 0 0))))]) (fun _=>rfl) (fun _=>rfl) (fun z=>l.ae.length-z.1.1) ⟨(0,none,0),A⟩ (aT U) (aH [2,3,4,5,6,7,8,9,0,1]) ?_
 clear A
 rintro ⟨⟨b,a,c⟩,F⟩ J9 m
 try dsimp only at F
 try dsimp only
 refine ah fun _ K=>WS fun _ L=>rP 5 [] (mc 2 U mn) ?_
 refine RK L<|cy U (aL fun j=>?_) (aM fun j=>?_)
 ·refine WK K<|ah fun _ M=>av<|dG cu [5,6,8] [1] [0] [0,1,2,3,4,5,6,7] [0,1,2,3,4,5,6,7,8,9] U U U U U<|eS U (FA 0 U fu U)<|fS U (L1 (vS a ((cJ l b).length) c) 9 U bX U U)<|eS U (LW 2 U bX U U)<|eS U (MV U) ?_
  have A2:=m7 w g (i:=b) I
  refine eS U (CL (Le l kA kC az cA cC bA bC (b:Int) hin asm asm I) (bj [3,4,5,6]) U)<|eS U (FA 0 U fu U)<|eU U<|iE U fun T14 W=>cY (xs:=[.tmp 21]) (cs:=[(vI (dN l (b:Int).toNat))]) U cp jf U U U U (by simp [Value.cells]) U U fun y=>aC (W _ _ (aH [1,2,3,4,5,6,7,8]) (aH [1,2,3,4,5,6,7,8,9,10]) ?_)
  refine bY U fun T16 X=>?_
  refine db (es2:=(List.map iC (cJ l (b+1)))) (m':=(cJ l (b+1)).length) 9 U U U p5 U U sm (aZ (es:=List.map iC [(dN l (b:Int).toNat)]) 0 U U (by simp [bB]) U) (kd _) (by simp only [dV]; omega) (by simp only [maxLen,dV]; omega) (by rw [vw]; simp) sm U fun H AB=>?_
  try dsimp only
  refine aC (X _ _ (aH [1,2,3,4,5,6,7,8]) ?_)
  refine bY U fun T19 Y=>UY (iu.cells (iu.mk (br.mk H ((cJ l (b+1)).length) AB) (br.mk none 0 0) (br.mk none 0 0))) U zS U U<|aC (Y _ _ (aH [1,2,3,4,5,6,7,8]) ?_)
  refine fF U<|aG<|KK M<|aj<|rP 3 [] mn ?_
  refine aC ?_
  have e:(vI (((b+1):Nat):Int))=(vI ((b:Int)+1)):=by exact cI I
  refine aS (m ⟨((b+1),H,AB),(by first|omega|(simp only []; omega))⟩ _ _ _ U os (ct 4<|aX U e<|dh.nil _) (aH [1,2,3,4,5,6,7,8,9,10]))
 refine bu<|ab<|ab<|au<|KK p<|ah fun _ N=>WS fun _ O=>?_
 rw [show cJ l b=(cJ l l.ae.length) from by rw [show b=l.ae.length by omega]]
 refine rP 1 [] mn ?_
 refine RK O<|av<|fQ 40 2<|fQ 4 1 ?_
 have A:(0≤r.ag.length):=by exact Nat.zero_le _
 refine bH (ι:={z:Nat×(OA)×Nat×(OA)×Nat // (z.1≤r.ag.length)}) [2,3,4,5] [2,3,4,5,6,7,8,9,10] U U (fun z=>[(7,(vI (z.1.1:Int)))]) (fun z=>[(own z.1.2.2.2.1 z.1.2.2.2.2 4 1 ((e8 l r z.1.1).map pY)),(own z.1.2.1 z.1.2.2.1 40 2 ((eM l r z.1.1).map aa.cells)),(bV h 238 (iu.cells (iu.mk (br.mk a ((cJ l l.ae.length).length) c) (br.mk z.1.2.1 ((eM l r z.1.1).length) z.1.2.2.1) (br.mk z.1.2.2.2.1 ((e8 l r z.1.1).length) z.1.2.2.2.2))))]) (fun _=>rfl) (fun _=>rfl) (fun z=>r.ag.length-z.1.1) ⟨(0,none,0,none,0),A⟩ (aT U) (aH [2,3,4,5,6,7,8,9,10,0,1,11]) ?_
 clear A
 rintro ⟨⟨i,ta,tc,sa,sc⟩,G⟩ J23 J
 try dsimp only at G
 try dsimp only
 refine ah fun _ P=>WS fun _ R=>rP 5 [] (mc 1 U mn) ?_
 refine RK R<|bK U (aM fun k=>?_) (aL fun k=>?_)
 ·refine bu<|ab<|ab<|au<|KK N<|WS fun _ V=>?_
  rw [show eM l r i=(eM l r r.ag.length) from by rw [show i=r.ag.length by omega]]
  rw [show e8 l r i=(e8 l r r.ag.length) from by rw [show i=r.ag.length by omega]]
  refine rP 1 [] (mc 11 U mn) ?_
  refine fP U TB U<|RK V<|an<|LX hQ (a,c,ta,tc,sa,sc) [8,10,9] [0] (mc 0 U mn) U U U U ?_
  trivial
 refine WK P<|ah fun _ S=>av<|ah fun _ T=>dG cu [10,11] [] [] [0,1,2,3,4,5,6,7,8,9,10,11] [] U U U U U<|eS U (LW 2 U bX U U)<|eS U (FA 2 U fu U)<|eS U (L1 (vS sgA r.ag.length sgC) 1 U bX U U)<|eS U (MV U) ?_
 obtain ⟨s,hs⟩:=aJ r.ag i I
 have v:=bG aK.cells hs
 refine eS U (IA i U (aD 7 U) z5 dc I I)<|eS U (oH i 0 (aK.cells s) U bX (aD 7 U) v U dc U U) ?_
 have u:=(hr.sig i s hs).1
 refine eS U (CL (MT l kA kC az cA cC bA bC s hin asm (by exact u)) (bj [3,4,5,6]) U)<|eS U (MV U)<|eS U (EX U)<|eS U (EX U)<|eS U (AG U)<|eU U<|bY U fun T29 Z=>AL U de fun AC=>aC (Z _ _ (aH [1,2,3,4,5,6,7,8,9,10,11,12]) ?_)
 refine bY U fun T31 d=>fP U cm U<|aC (d _ _ (aH [1,2,3,4,5,6,7,8,9,10,11,12]) ?_)
 refine fF U<|KK T<|WS fun _ AA=>rP 3 [0,1] (mc 12 U (mc 0 U mn)) ?_
 refine cY (xs:=[.tmp 44]) (cs:=(aa.cells (cz l s))) U jQ de U U U U (by simp [Value.cells,aa.aU]) U U fun AO=>?_
 refine db (es2:=(List.map aa.cells (eM l r (i+1)))) (m':=(eM l r (i+1)).length) 12 U U U EN U U sm (aZ (es:=List.map aa.cells [(cz l s)]) 0 U U (by simp [aa.aU]) U) (gT _) (by rw [q9 I]; omega) (by rw [q9 I]; simp only [maxLen]; omega) (by rw [E3 hs]; simp) sm U fun B C=>?_
 try dsimp only
 refine bf 1 U<|jm (vs:=[(vS B ((eM l r (i+1)).length) C)]) (cs':=(iu.cells (iu.mk (br.mk a ((cJ l l.ae.length).length) c) (br.mk B ((eM l r (i+1)).length) C) (br.mk sa ((e8 l r i).length) sc)))) (C':=[_,_,_,_,_,_,_,_,_,_,_,_,_,(bV h 238 (iu.cells (iu.mk (br.mk a ((cJ l l.ae.length).length) c) (br.mk B ((eM l r (i+1)).length) C) (br.mk sa ((e8 l r i).length) sc))))]) 13 U U U Vt U U U U U U U<|RK AA<|aj<|rP 3 [] (mc 13 U mn) ?_
 refine cY (xs:=[.tmp 50]) (cs:=[(vB (decide ((cz l s).Lo≤(cz l s).Hi)))]) U Pm VH U U U U (by simp [Value.cells]) U U fun Ah=>?_
 refine db (es2:=(List.map pY (e8 l r (i+1)))) (m':=(e8 l r (i+1)).length) 12 U U U Th U U sm (aZ (es:=List.map pY [(decide ((cz l s).Lo≤(cz l s).Hi))]) 0 U U (by simp [Az]) U) (H5 _) (by rw [uy I]; omega) (by rw [uy I]; simp only [maxLen]; omega) (by rw [DX hs]; simp) sm U fun D E=>?_
 try dsimp only
 refine bf 1 U<|jm (vs:=[(vS D ((e8 l r (i+1)).length) E)]) (cs':=(iu.cells (iu.mk (br.mk a ((cJ l l.ae.length).length) c) (br.mk B ((eM l r (i+1)).length) C) (br.mk D ((e8 l r (i+1)).length) E)))) (C':=[_,_,_,_,_,_,_,_,_,_,_,_,_,_,(bV h 238 (iu.cells (iu.mk (br.mk a ((cJ l l.ae.length).length) c) (br.mk B ((eM l r (i+1)).length) C) (br.mk D ((e8 l r (i+1)).length) E))))]) 14 U U U Tb U U U U U U U<|aC<|aG<|KK S<|aj<|bf 2 U<|rP 1 [] mn ?_
 refine aC ?_
 have f:(vI (((i+1):Nat):Int))=(vI ((i:Int)+1)):=by exact cI I
 refine aS (J ⟨((i+1),B,C,D,E),(by first|omega|(simp only []; omega))⟩ _ _ _ U os (ct 4<|aX U f<|dh.nil _) (aH [3,4,5,6,7,8,9,10,11,12,13,14]))
theorem ID (r:cv) (sgA:OA) (sgC:Nat) (l:a_) (wA:OA) (wC:Nat) (tA:OA) (tC:Nat) (bA:OA) (bC:Nat) (rs:List Int) (rsA:OA) (rsC:Nat) (hle:dq l=0) (hr:e9 l r) (hn:rs.length≤l.ae.length) (hrs: ∀ x∈rs,0≤x→x<(r.ag.length:Int)):
 lv Tryz.prog 175 [(vA (eB.cells (mF r sgA sgC))),(vA (iu.cells (iu.mk (br.mk wA ((cJ l l.ae.length).length) wC) (br.mk tA ((eM l r r.ag.length).length) tC) (br.mk bA ((e8 l r r.ag.length).length) bC)))),(vS rsA rs.length rsC)] [(rd sgA r.ag.length 2 (r.ag.map aK.cells)),(rd wA ((cJ l l.ae.length).length) 1 ((cJ l l.ae.length).map iC)),(rd tA ((eM l r r.ag.length).length) 2 ((eM l r r.ag.length).map aa.cells)),(rd bA ((e8 l r r.ag.length).length) 1 ((e8 l r r.ag.length).map pY)),(rd rsA rs.length 1 (rs.map iC))] (fun (x:(OA)×Nat)=>(vS x.1 ((jh l r rs).length) x.2)) (fun (x:(OA)×Nat)=>True) (fun (x:(OA)×Nat)=>[(own x.1 x.2 3 1 ((jh l r rs).map iC))]):=by
 obtain ⟨J,D⟩:=gF hle
 have v:=D.head
 unfold gj at v
 have A2:=hr.len
 have A3:=hr.time
 have w:=Gp (l:=l) (rs:=rs) ⟨I,I⟩ (fun b hb=>by have:=m7 J D (i:=b) I; omega) hrs
 have A0:=dV (l:=l) (n:=l.ae.length)
 have A4:=q9 (l:=l) (Nat.le_refl r.ag.length)
 refine dj kr Tryz.func175 U U fun w0 Q hQ hN=>?_
 try dsimp only
 refine WS fun _ h=>fM U fun b2=>fM U fun b3=>bf 1 U<|RK h<|WS fun _ m=>rP 2 [] mn ?_
 refine xz (n:=rs.length) (es:=(List.map iC (List.replicate rs.length 0))) U U U p5 I I (by simp only [maxLen]; omega) (by rw [List.map_replicate]; rfl) U fun E=>?_
 try dsimp only
 refine bf 1 U<|RK m<|WS fun _ p=>fw 3 [] (mc 2 U mn) U<|RK p<|ah fun _ q=>WS fun _ t=>rP 4 [] mn ?_
 refine RK t<|av ?_
 rw [show (own (some ⟨E,0,none⟩) rs.length 3 1 (List.map iC (List.replicate rs.length 0)))=(own (some ⟨E,0,none⟩) rs.length 3 1 ((jz l r rs rs.length).map iC)) from by rw [H9]]
 have B:(rs.length≤rs.length):=by exact Nat.le_refl _
 have u:(vI ((jy l r rs rs.length).2))=(vI r.fZ):=by rw [ui]
 refine bH (ι:={z:Nat // (z≤rs.length)}) [2,3,4,7] [1,2,3,4,5,6,7] U U (fun z=>[(8,(vI ((jy l r rs z.1).2))),(9,(vI ((z.1:Int)-1)))]) (fun z=>[(own (some ⟨E,0,none⟩) rs.length 3 1 ((jz l r rs z.1).map iC))]) (fun _=>rfl) (fun _=>rfl) (fun z=>z.1) ⟨rs.length,B⟩ (aX U u<|aT U) (aH [1,2,3,4,5,6,7,0]) ?_
 clear B
 rintro ⟨j,AC⟩ J10 F
 try dsimp only
 have A1:=GI (l:=l) (r:=r) (rs:=rs) (j:=j) I
 refine ah fun _ L=>WS fun _ M=>rP 2 [] mn ?_
 refine RK M<|bK U (aM fun g=>?_) (aL fun g=>?_)
 ·refine bu<|ab<|ab<|au<|KK q<|WS fun _ R=>rP 1 [] mn ?_
  rw [show (Value.slice (some ⟨E,0,none⟩) rs.length rs.length)=(Value.slice (some ⟨E,0,none⟩) ((jh l r rs).length) rs.length) from by rw [show (jh l r rs).length=rs.length from qQ _ _]]
  rw [show jz l r rs j=jh l r rs from by rw [show j=0 by omega]; exact DD]
  refine rP 1 [] mn ?_
  refine RK R<|an<|LX hQ ((some ⟨E,0,none⟩),rs.length) [7] [] mn U U U U ?_
  trivial
 refine WK L<|ah fun _ G=>av<|ah fun _ H=>WS fun _ N=>rP 2 [] mn ?_
 have Al:=w (rs.length-j) j I
 obtain ⟨x,hx⟩:=aJ rs (j-1) I
 have d:=bG iC hx
 refine rS (IA (j-1) U (aD 6 U) cp dc I I)<|rS (fV (j-1) 0 (vI x) U bX (aD 6 U) d U dc U)<|rP 1 [] mn ?_
 refine RK N<|bK U (aM fun A=>?_) (aL fun A=>?_)
 ·refine WK H<|WS fun _ P=>rP 3 [] mn ?_
  obtain ⟨A7,c⟩:=aJ (jz l r rs j) (j-1) I
  have hx25m:=bG iC c
  refine rS (IA (j-1) U (ai (n:=rs.length) 7 U sq) cp dc I I) ?_
  have V:((jz l r rs j).set (j-1) ((jy l r rs j).2))=(jz l r rs (j-1)):=by (rw [← yB I hx]; congr 1; unfold tO; (rw [if_neg A]; done))
  refine ew (k:=(j-1)) (o:=0) (vs:=[(vI ((jy l r rs j).2))]) (es':=(List.map iC (jz l r rs (j-1)))) (C':=[_,_,_,_,_,_,_,(own (some ⟨E,0,none⟩) rs.length 3 1 (List.map iC (jz l r rs (j-1))))]) 7 U U U BW U U U U hx25m U dc (by exact (List.map_set (f:=iC) (l:=(jz l r rs j)) (i:=(j-1)) (a:=(jy l r rs j).2)).symm.trans (congrArg _ V)) U<|RK P<|aj<|rP 4 [] (mc 0 U mn) ?_
  obtain ⟨y,hy⟩:=aJ (cJ l l.ae.length) (j-1) I
  have K:=bG iC hy
  refine rS (IA (j-1) U (aD 3 U) cp dc I I)<|rS (fV (j-1) 0 (vI y) U bX (aD 3 U) K U dc U) ?_
  have C:=uV hy
  have AB:=m7 J D (i:=j-1) I
  rw [← C] at AB
  refine bf 2 U<|aC<|aG<|KK G<|aj<|rP 3 [] mn ?_
  refine aC ?_
  have W:(vI ((jy l r rs (j-1)).2))=(vI (((jy l r rs j).2)-y)):=by exact cI (by rw [pD I hx]; simp only; unfold tO; rw [C]; (rw [if_neg A]; done))
  have X:(vI ((((j-1):Nat):Int)-1))=(vI (((j:Int)-1)-1)):=by exact cI I
  refine aS (F ⟨(j-1),(by first|omega|(simp only []; omega))⟩ _ _ _ U os (ct 4<|aX U W<|aX U X<|dh.nil _) (aH [0,1,2,3,4,5,6,7]))
 refine dB cu 12 kr<|dP 5 [] (mc 0 U mn) ?_
 refine dS (IA (j-1) U (aD 6 U) cp dc I I)<|dS (fV (j-1) 0 (vI x) U bX (aD 6 U) d U dc U) ?_
 have A5:=hrs x (aR hx) A
 obtain ⟨z,hz⟩:=aJ (eM l r r.ag.length) ((x).toNat) I
 have Ah:=bG aa.cells hz
 refine dS (IA ((x).toNat) U (aD 4 U) jQ dc I I)<|dS (nS ((((x).toNat)*2)+1) U (aD 4 U) (Nat.mul_pos I dc) fu U) ?_
 obtain ⟨s,hs,e⟩:=Mc hz
 have AO:=wv l s
 rw [← e] at AO
 have Y:MB l r x=z.Hi:=by rw [ER hs,e]
 refine dS (fV ((x).toNat) 1 (vI z.Hi) U bX (aD 4 U) Ah U dc U)<|dS (MN U)<|lH 1 U<|cM<|RK H<|WS fun _ O=>rP 3 [] mn ?_
 obtain ⟨A6,Z⟩:=aJ (jz l r rs j) (j-1) I
 have hx19m:=bG iC Z
 refine rS (IA (j-1) U (ai (n:=rs.length) 7 U sq) cp dc I I) ?_
 have S:((jz l r rs j).set (j-1) (min ((jy l r rs j).2) z.Hi))=(jz l r rs (j-1)):=by (rw [← yB I hx]; congr 1; unfold tO; (rw [if_pos A,Y]; done))
 refine ew (k:=(j-1)) (o:=0) (vs:=[(vI (min ((jy l r rs j).2) z.Hi))]) (es':=(List.map iC (jz l r rs (j-1)))) (C':=[_,_,_,_,_,_,_,(own (some ⟨E,0,none⟩) rs.length 3 1 (List.map iC (jz l r rs (j-1))))]) 7 U U U BW U U U U hx19m U dc (by exact (List.map_set (f:=iC) (l:=(jz l r rs j)) (i:=(j-1)) (a:=(min ((jy l r rs j).2) z.Hi))).symm.trans (congrArg _ S)) U<|RK O<|aj<|rP 4 [] (mc 0 U mn) ?_
 obtain ⟨y,hy⟩:=aJ (cJ l l.ae.length) (j-1) I
 have K:=bG iC hy
 refine rS (IA (j-1) U (aD 3 U) cp dc I I)<|rS (fV (j-1) 0 (vI y) U bX (aD 3 U) K U dc U) ?_
 have C:=uV hy
 have AB:=m7 J D (i:=j-1) I
 rw [← C] at AB
 refine bf 2 U<|aC<|aG<|KK G<|aj<|rP 3 [] mn ?_
 refine aC ?_
 have T:(vI ((jy l r rs (j-1)).2))=(vI ((min ((jy l r rs j).2) z.Hi)-y)):=by exact cI (by rw [pD I hx]; simp only; unfold tO; rw [C]; (rw [if_pos A,Y]; done))
 have AA:(vI ((((j-1):Nat):Int)-1))=(vI (((j:Int)-1)-1)):=by exact cI I
 refine aS (F ⟨(j-1),(by first|omega|(simp only []; omega))⟩ _ _ _ U os (ct 4<|aX U T<|aX U AA<|dh.nil _) (aH [0,1,2,3,4,5,6,7]))
end
section
open Go.RowKit
theorem HB (l:a_) (kA:OA) (kC:Nat) (az:List RA) (cA:OA) (cC:Nat) (bA:OA) (bC:Nat) (r:cv) (sgA:OA) (sgC:Nat) (vwA:OA) (vwC:Nat) (vtA:OA) (vtC:Nat) (vbA:OA) (vbC k:Nat) (rs:List Int) (rA:OA) (rC:Nat) (fs:List Int) (fA:OA) (fC:Nat) (hin:ep l az) (hle:dq l=0) (hr:e9 l r) (hk:rs.length+k=l.ae.length) (hfl:fs.length=rs.length) (hst:r.Start≤fU r.Start fs∧fU r.Start fs≤r.fZ) (hrs: ∀ x∈rs,-1≤x∧x<(r.ag.length:Int)) (hrec: ∀ (k2:Nat) (rs2:List Int) (rA2:OA) (rC2:Nat) (fs2:List Int) (fA2:OA) (fC2:Nat),(k2<k)→(rs2.length+k2=l.ae.length)→(fs2.length=rs2.length)→(r.Start≤fU r.Start fs2∧fU r.Start fs2≤r.fZ)→(∀ x∈rs2,-1≤x∧x<(r.ag.length:Int))→Dr Tryz.prog 173 [(vA (ck.cells (lk l kA kC cA cC bA bC))),(vA (eB.cells (mF r sgA sgC))),(vA (iu.cells (iu.mk (br.mk vwA ((cJ l l.ae.length).length) vwC) (br.mk vtA ((eM l r r.ag.length).length) vtC) (br.mk vbA ((e8 l r r.ag.length).length) vbC)))),(vS rA2 rs2.length rC2),(vS fA2 fs2.length fC2)] [(rd kA l.aP.length 9 (l.aP.map al.cells)),(rd cA l.ak.length 2 (List.zipWith ar.cells l.ak az)),(eX (aV ar.g0 l.ak az)),(rd bA l.ae.length 4 (l.ae.map bD.cells)),(rd sgA r.ag.length 2 (r.ag.map aK.cells)),(rd vwA ((cJ l l.ae.length).length) 1 ((cJ l l.ae.length).map iC)),(rd vtA ((eM l r r.ag.length).length) 2 ((eM l r r.ag.length).map aa.cells)),(rd vbA ((e8 l r r.ag.length).length) 1 ((e8 l r r.ag.length).map pY))] (bw [own rA2 rC2 3 1 (rs2.map iC),own fA2 fC2 3 1 (fs2.map iC)]) (fun (x:(OA)×Nat×(List kB))=>(vS x.1 ((g8 l r k2 rs2 fs2).length) x.2.1)) (fun (x:(OA)×Nat×(List kB))=>x.2.2.length=(g8 l r k2 rs2 fs2).length) (fun (x:(OA)×Nat×(List kB))=>(bw (aV cZ.owns (g8 l r k2 rs2 fs2) x.2.2++[own x.1 x.2.1 241 3 (List.zipWith cZ.cells (g8 l r k2 rs2 fs2) x.2.2)])))):
 Dr Tryz.prog 173 [(vA (ck.cells (lk l kA kC cA cC bA bC))),(vA (eB.cells (mF r sgA sgC))),(vA (iu.cells (iu.mk (br.mk vwA ((cJ l l.ae.length).length) vwC) (br.mk vtA ((eM l r r.ag.length).length) vtC) (br.mk vbA ((e8 l r r.ag.length).length) vbC)))),(vS rA rs.length rC),(vS fA fs.length fC)] [(rd kA l.aP.length 9 (l.aP.map al.cells)),(rd cA l.ak.length 2 (List.zipWith ar.cells l.ak az)),(eX (aV ar.g0 l.ak az)),(rd bA l.ae.length 4 (l.ae.map bD.cells)),(rd sgA r.ag.length 2 (r.ag.map aK.cells)),(rd vwA ((cJ l l.ae.length).length) 1 ((cJ l l.ae.length).map iC)),(rd vtA ((eM l r r.ag.length).length) 2 ((eM l r r.ag.length).map aa.cells)),(rd vbA ((e8 l r r.ag.length).length) 1 ((e8 l r r.ag.length).map pY))] (bw [own rA rC 3 1 (rs.map iC),own fA fC 3 1 (fs.map iC)]) (fun (x:(OA)×Nat×(List kB))=>(vS x.1 ((g8 l r k rs fs).length) x.2.1)) (fun (x:(OA)×Nat×(List kB))=>x.2.2.length=(g8 l r k rs fs).length) (fun (x:(OA)×Nat×(List kB))=>(bw (aV cZ.owns (g8 l r k rs fs) x.2.2++[own x.1 x.2.1 241 3 (List.zipWith cZ.cells (g8 l r k rs fs) x.2.2)]))):=by
 have R1:=hin.sJ
 have Qp:=hin.sI
 have Qa:=hin.oF
 have Qf:=hin.sE
 obtain ⟨L0,Gf⟩:=gF hle
 have LE:=Gf.head
 unfold gj at LE
 have Al:=hr.len
 have Rc:=hr.time
 have Rb:=dV (l:=l) (n:=l.ae.length)
 have R2:=q9 (l:=l) (Nat.le_refl r.ag.length)
 have R0:=uy (l:=l) (Nat.le_refl r.ag.length)
 have R3:=tP rs
 refine mI kr Tryz.func173 U U fun w0 Q hQ hN=>?_
 try dsimp only
 refine CB 0 U U fun wz Sz hz=>?_
 try dsimp only
 refine WS fun _ J8=>fM U fun b2=>fM U fun b3=>fM U fun b4=>bf 1 U<|RK J8<|WS fun _ J9=>bf 1 U<|RK J9<|WS fun _ Kg=>bf 4 U<|RK Kg<|ah fun _ K0=>WS fun _ K4=>rP 1 [] mn ?_
 refine RK K4<|av ?_
 have C:(0≤rs.length):=by exact Nat.zero_le _
 have K5:(vI ((cV (rs.take 0)).right))=(vI 0):=by rfl
 refine bH (ι:={z:Nat // (z≤rs.length)}) [3,4,5,6,7,11,12] [0,1,2,3,4,5,6,7,8,9,10,11] U U (fun z=>[(13,(vI ((cV (rs.take z.1)).right))),(14,(vI (z.1:Int)))]) (fun z=>[]) (fun _=>rfl) (fun _=>rfl) (fun z=>rs.length-z.1) ⟨0,C⟩ (aX U K5<|aT U) (aH [0,1,2,3,4,5,6,7,8,9,10,11]) ?_
 clear C
 rintro ⟨i,La⟩ J10 g
 try dsimp only
 have Lk:=tP (rs.take i)
 rw [List.length_take] at Lk
 refine ah fun _ A2=>WS fun _ A3=>rP 3 [] mn ?_
 refine RK A3<|cy U (aL fun J2=>?_) (aM fun J2=>?_)
 ·refine WK A2<|ah fun _ h=>av<|WS fun _ A4=>rP 2 [] mn ?_
  obtain ⟨x,hx⟩:=aJ rs i I
  have L2:=bG iC hx
  refine rS (IA i U (show il _ (rd rA rs.length 1 (rs.map iC)).holds from (pC (c:=rC) (e:=3) 3 U sm sm)) cp dc I I)<|rS (fV i 0 (vI x) U bX (show il _ (rd rA rs.length 1 (rs.map iC)).holds from (pC (c:=rC) (e:=3) 3 U sm sm)) L2 U dc U)<|rP 1 [] mn ?_
  refine RK A4<|bK U (aM fun AO=>?_) (aL fun AO=>?_)
  ·refine bZ<|aG<|KK h<|aj<|rP 3 [] mn ?_
   refine aC ?_
   have C3:(vI ((cV (rs.take (i+1))).right))=(vI ((cV (rs.take i)).right)):=by exact cI (by rw [sX hx]; (rw [if_neg AO]; exact Int.add_zero _))
   have Di:(vI (((i+1):Nat):Int))=(vI ((i:Int)+1)):=by exact cI I
   refine aS (g ⟨(i+1),(by first|omega|(simp only []; omega))⟩ _ _ _ U os (ct 7<|aX U C3<|aX U Di<|dh.nil _) (aH [0,1,2,3,4,5,6,7,8,9,10,11]))
  refine aj<|bf 3 U<|aC<|aG<|KK h<|aj<|rP 3 [] mn ?_
  refine aC ?_
  have C0:(vI ((cV (rs.take (i+1))).right))=(vI (((cV (rs.take i)).right)+1)):=by exact cI (by rw [sX hx]; (rw [if_pos AO]; done))
  have C2:(vI (((i+1):Nat):Int))=(vI ((i:Int)+1)):=by exact cI I
  refine aS (g ⟨(i+1),(by first|omega|(simp only []; omega))⟩ _ _ _ U os (ct 7<|aX U C0<|aX U C2<|dh.nil _) (aH [0,1,2,3,4,5,6,7,8,9,10,11]))
 refine bu<|ab<|ab<|au<|KK K0<|ah fun _ A5=>ah fun _ A6=>?_
 rw [show rs.take i=rs from List.take_of_length_le I]
 refine aj<|rP 6 [] (mc 2 U mn) ?_
 refine RK A6<|cy U (aL fun J4=>?_) (aM fun J4=>?_)
 ·refine WS fun _ A7=>dH 241 3<|rP 1 [] mn ?_
  refine RK A7<|an<|AI (C1:=[(own none 0 241 3 [])]) hz [0] U U U<|QQ (W:=g8 l r k rs fs) ?_
  rw [show (own none 0 241 3 [])=(own none 0 241 3 (List.zipWith cZ.cells (g8 l r k rs fs) [])) from by rw [nG I]; rfl]
  refine LM hQ (none,0,[]) 0 [] mn U (by show List.all _ _=true; rw [List.all_append,pL]; rfl) U ?_ ?_
  ·exact (by rw [nG I]; rfl)
  ·rw [nG I]; rfl
 refine WK A5 ?_
 refine ob (ι:={z:(OA)×Nat×(List kB)×(List aq) // (yd l r rs fs (rA,rC) (fA,fC) z.2.2.1 z.2.2.2)}) [3,4,5,6,7,12] [0,1,2,3,4,5,6,7,8,9,10,11] U U (fun z=>[(11,(vS z.1.1 ((gL l r rs fs).length) z.1.2.1))]) (fun z=>[(own z.1.1 z.1.2.1 241 3 (List.zipWith cZ.cells (gL l r rs fs) z.1.2.2.1)),(bw z.1.2.2.2)]) (fun _=>rfl) (fun _=>rfl) ?_ fun K23 m=>?_
 ·rintro ⟨⟨oA,oC,E,LA⟩,H⟩
  try dsimp only at H
  try dsimp only
  have D:=H
  have LT:=D.len
  have Qr:=w5 (l:=l) (r:=r) (rs:=rs) (fs:=fs)
  refine ah fun _ V=>WS fun _ A8=>rP 4 [] (mc 2 U mn) ?_
  have R4:=uS (l:=l) (r:=r) (rs:=rs) (fs:=fs) Al (k:=k) I
  refine rP 1 [] mn ?_
  refine RK A8<|cy U (aL fun J5=>?_) (aM fun J5=>?_)
  ·refine WS fun _ A9=>bf 1 U<|rP 1 [] mn ?_
   refine RK A9<|an ?_
   obtain rfl:k=0:=by omega
   refine ED ?_
   try dsimp only
   refine AI (C1:=[(own oA oC 241 3 (List.zipWith cZ.cells (gL l r rs fs) E)),(bw LA),(bw (aV cZ.owns [] []))]) hz [13,14,0] U U (by simp only [fB,List.all_nil,Bool.and_true,cG]; exact ⟨U,D.wr,pL _ _⟩) ?_
   refine Ky (ra:=(rA,rC)) (fa:=(fA,fC)) (A':=(own oA oC 241 3 (List.zipWith cZ.cells (g8 l r 0 rs fs) E))) D ((List.append_nil _).trans (nk I).symm) (List.append_nil _) (by rw [nk I]) ?_
   refine LM hQ (oA,oC,E) 0 [] mn U (by show List.all _ _=true; rw [List.all_append,pL]; rfl) U ?_ ?_
   ·exact (by (rw [nk I]; rfl))
   ·rw [nk I]; exact LT
  refine WK V<|WS fun _ Bi=>?_
  obtain ⟨B,rfl⟩: ∃ B,k=B+1:=⟨k-1,I⟩
  refine rP 3 [] (mc 1 U mn) ?_
  refine RK Bi ?_
  refine ob (ι:=Unit) [3,4,5,6,7,11,12] [0,1,2,3,4,5,6,7,8,9,10,11,12,13] U U (fun z=>[(15,(vI (fU r.Start fs)))]) (fun z=>[]) (fun _=>rfl) (fun _=>rfl) ?_ fun K28 o=>?_
  ·intro _
   try dsimp only
   refine WS fun _ Z=>rP 4 [] (mc 0 U mn) ?_
   obtain ⟨yls,G2⟩:=aJ (cJ l l.ae.length) (rs.length) I
   have H1:=bG iC G2
   refine rS (IA rs.length U (aD 9 U) cp dc I I)<|rS (fV rs.length 0 (vI yls) U bX (aD 9 U) H1 U dc U) ?_
   have Qx:=m7 L0 Gf (i:=rs.length) I
   rw [uV G2]
   refine bf 2 U<|RK Z<|ah fun _ B3=>WS fun _ B7=>rP 1 [] mn ?_
   refine RK B7<|av ?_
   rw [show (gL l r rs fs)=((gL l r rs fs)++(hZ l r B rs fs 0)) from (List.append_nil _).symm]
   rw [show E=E++[] from (List.append_nil _).symm]
   refine oy ?_
   try dsimp only
   have C:(0≤r.ag.length+1)∧(([]:List kB).length=(hZ l r B rs fs 0).length):=by exact ⟨Nat.zero_le _,rfl⟩
   have d:(vI ((0:Int)-1))=(vI (-1)):=by exact cI I
   refine bH (ι:={z:Nat×(OA)×Nat×(List kB) // (z.1≤r.ag.length+1)∧(z.2.2.2.length=(hZ l r B rs fs z.1).length)}) [3,4,5,6,7,12,15] [1,2,3,4,5,6,7,8,9,10,11,12,14] U U (fun z=>[(11,(vS z.1.2.1 (((gL l r rs fs)++(hZ l r B rs fs z.1.1)).length) z.1.2.2.1)),(16,(vI ((z.1.1:Int)-1)))]) (fun z=>[(bw (aV cZ.owns (hZ l r B rs fs z.1.1) z.1.2.2.2)),(own z.1.2.1 z.1.2.2.1 241 3 (List.zipWith cZ.cells ((gL l r rs fs)++(hZ l r B rs fs z.1.1)) (E++z.1.2.2.2)))]) (fun _=>rfl) (fun _=>rfl) (fun z=>r.ag.length+1-z.1.1) ⟨(0,oA,oC,([]:List kB)),C⟩ (dh.cons U<|aX U d<|dh.nil _) (aH [1,2,3,4,5,6,7,8,9,10,11,12,14,0,13]) ?_
   clear C
   rintro ⟨⟨j,M,N,azW⟩,⟨f,A⟩⟩ J33 O
   try dsimp only at f A
   try dsimp only
   have Ly:=Mi (l:=l) (r:=r) (k:=B) (j:=j) (rs:=rs) (fs:=fs) Al I I
   refine ah fun _ B9=>WS fun _ Ci=>rP 5 [] (mc 1 U mn) ?_
   refine RK Ci<|bK U (aM fun J3=>?_) (aL fun J3=>?_)
   ·refine bu<|ab<|ab<|au<|KK B3<|WS fun _ Cx=>bf 1 U<|rP 1 [] mn ?_
    refine RK Cx<|an ?_
    refine AI (C1:=[(own M N 241 3 (List.zipWith cZ.cells ((gL l r rs fs)++(hZ l r B rs fs j)) (E++azW))),(bw LA),(bw (aV cZ.owns (hZ l r B rs fs j) azW))]) hz [14,12,13] U U (by simp only [fB,List.all_nil,Bool.and_true,cG]; exact ⟨U,D.wr,pL _ _⟩) ?_
    refine Ky (ra:=(rA,rC)) (fa:=(fA,fC)) (W:=g8 l r (B+1) rs fs) (A':=(own M N 241 3 (List.zipWith cZ.cells (g8 l r (B+1) rs fs) (E++azW)))) D (by rw [nD I,q8,show r.ag.length+1=j by omega]) U (by rw [nD I,q8,show r.ag.length+1=j by omega]) ?_
    refine LM hQ (M,N,(E++azW)) 0 [] mn U (by show List.all _ _=true; rw [List.all_append,pL]; rfl) U ?_ ?_
    ·exact (by (rw [nD I,q8,show r.ag.length+1=j by omega]; rfl))
    ·rw [nD I,q8,show r.ag.length+1=j by omega]; simp only [List.length_append]; omega
   refine WK B9<|ah fun _ P=>av<|ah fun _ Ck=>dB cu 5 kr<|dP 5 [] (mc 1 U mn) ?_
   refine cM<|RK Ck ?_
   refine ob (ι:={z:Int×Int // ((z.1≤z.2→oT l r rs.length (fU r.Start fs+dN l rs.length) ((j:Int)-1)=some z.1)∧(¬ z.1≤z.2→oT l r rs.length (fU r.Start fs+dN l rs.length) ((j:Int)-1)=none))∧(r.Start≤z.1∧z.2≤r.fZ)}) [3,4,5,6,7,11,12,15,16] [0,1,2,3,4,5,6,7,8,9,10,11,12,13,14] U U (fun z=>[(17,(vI z.1.1)),(18,(vI z.1.2))]) (fun z=>[]) (fun _=>rfl) (fun _=>rfl) ?_ fun K39 p=>?_
   ·rintro ⟨⟨tt,ee⟩,⟨AB,J⟩⟩
    try dsimp only at AB J
    try dsimp only
    have GT:=AB
    have Qs:=J
    refine WS fun _ a=>rP 3 [] mn ?_
    refine RK a<|bK U (aM fun AA=>?_) (aL fun AA=>?_)
    ·refine bZ<|aG<|KK P<|aj<|rP 3 [] mn ?_
     refine aC ?_
     have L:(hZ l r B rs fs (j+1))=(hZ l r B rs fs j):=by exact qw (GT.2 AA)
     rw [← L]
     have Fn:(vI ((((j+1):Nat):Int)-1))=(vI (((j:Int)-1)+1)):=by exact cI I
     refine aS (O ⟨((j+1),M,N,azW),⟨I,by dsimp only; (rw [L]; exact A)⟩⟩ _ _ _ U os (ct 8<|aX U Fn<|dh.nil _) (aH [0,1,2,3,4,5,6,7,8,9,10,11,12,13,14]))
    refine SC (L':=[(3,(vS rA rs.length rC)),(4,(vS fA fs.length fC)),(5,(vP b2)),(6,(vP b3)),(7,(vP b4)),(11,(vS M (((gL l r rs fs)++(hZ l r B rs fs j)).length) N)),(12,(vI (rs.length:Int))),(15,(vI ((fU r.Start fs)+(dN l rs.length)))),(16,(vI ((j:Int)-1))),(17,(vI tt)),(18,(vI ee)),(123,(vI tt)),(124,(vI ee)),(125,(vB (decide (tt≤ee))))]) rfl<|pn cu [0,1,2,3,5,7,11,13] [4,6,8,9,10,12,14,15,16,17,18] [false,false,false,false,false,false,false,false] [] [(bV b4 238 (iu.cells (iu.mk (br.mk vwA ((cJ l l.ae.length).length) vwC) (br.mk vtA ((eM l r r.ag.length).length) vtC) (br.mk vbA ((e8 l r r.ag.length).length) vbC)))),(bV b3 43 (eB.cells (mF r sgA sgC))),(bV b2 31 (ck.cells (lk l kA kC cA cC bA bC))),(bw [own rA rC 3 1 (rs.map iC),own fA fC 3 1 (fs.map iC)]).ro,(rd kA l.aP.length 9 (l.aP.map al.cells)).ro,(rd cA l.ak.length 2 (List.zipWith ar.cells l.ak az)).ro,(eX (aV ar.g0 l.ak az)).ro,(rd bA l.ae.length 4 (l.ae.map bD.cells)).ro,(rd sgA r.ag.length 2 (r.ag.map aK.cells)).ro,(rd vwA ((cJ l l.ae.length).length) 1 ((cJ l l.ae.length).map iC)).ro,(rd vtA ((eM l r r.ag.length).length) 2 ((eM l r r.ag.length).map aa.cells)).ro,(rd vbA ((e8 l r r.ag.length).length) 1 ((e8 l r r.ag.length).map pY)).ro,(bw LA),(bw (aV cZ.owns (hZ l r B rs fs j) azW))] [] kr (aH [0,1,2,3,4,5,6,7,8,9,10,11,12,13]) (aH [])<|eS rfl (MV rfl)<|eS rfl (LW 2 rfl bX rfl rfl)<|eS rfl (LW 1 rfl bX rfl rfl)<|eS rfl (LW 0 rfl bX rfl rfl)<|eS rfl (MV rfl)<|eS rfl (MV rfl)<|eS rfl (MV rfl)<|eS rfl (MV rfl)<|eU rfl<|Oz [.take 4,.op 6,.take 8,.op 9,.take 10,.op 12,.take 14,.op 15,.op 16,.op 17,.op 18] [(133,(vI ((j:Int)-1))),(139,(vI tt))] (fun i=>match i with |4=>130|8=>134|10=>136|14=>140|_=>0) (fun i b=>match i with |4=> .slice (some ⟨b,0,none⟩) 0 0|8=> .slice (some ⟨b,0,none⟩) 1 1|10=> .slice (some ⟨b,0,none⟩) 0 0|14=> .slice (some ⟨b,0,none⟩) 1 1|_=>undef) (fun i b=>match i with |4=>bV b 3 []|8=>bV b 3 [(vI ((j:Int)-1))]|10=>bV b 3 []|14=>bV b 3 [(vI tt)]|_=>bV b 0 []) rfl rfl rfl kr rfl rfl (aH [0,1,2,3,4,5,6,7,8,9,10,11,12,13]) (wh (Lw rfl cp rfl rfl (fun _=>rfl) fun _=>rfl)<|xw<|wh (Pt (xs:=[.tmp 133]) (cs:=[(vI ((j:Int)-1))]) rfl cp jf rfl rfl rfl rfl (by simp [Value.cells]) rfl rfl rfl (fun _=>rfl) fun _=>rfl)<|xw<|wh (Lw rfl cp rfl rfl (fun _=>rfl) fun _=>rfl)<|xw<|wh (Pt (xs:=[.tmp 139]) (cs:=[(vI tt)]) rfl cp jf rfl rfl rfl rfl (by simp [Value.cells]) rfl rfl rfl (fun _=>rfl) fun _=>rfl)<|xw<|xw<|xw<|xw<|Q5) ?_
    intro If
    try dsimp only
    refine xZ U fun Y X K hT=>dM (es:=(List.map iC [])) (C':=[own (some ⟨If,0,none⟩) 0 3 1 (List.map iC []),_,_,_,_,_,_,_,_,_,_,_,_,_,_,_]++X) 0 U sm U (by simp [maxLen]) U ?_
    refine db (es2:=(List.map iC rs)) (m':=rs.length) 0 U U U p5 U U sm (show il _ (rd rA rs.length 1 (rs.map iC)).holds from (pC (c:=rC) (e:=3) 4 U sm sm)) (kd _) (by first|omega|(simp; done)|(simp; omega)) (by (simp only [maxLen]; omega)) sm sm U fun PP QB=>?_
    try dsimp only
    refine sj hT 24 16 U U (fun w hs=>St.kj [1,2,3,4,5,6,7,8,9,10,11,12,13,14] U U hs) U U ?_
    try dsimp only [List.take]
    intro Pu
    try dsimp only
    refine xZ U fun Y X K hT=>?_
    refine db (es2:=(List.map iC (rs++[(j:Int)-1]))) (m':=(rs++[(j:Int)-1]).length) 1 U U U p5 U U sm (aZ (es:=List.map iC [((j:Int)-1)]) 0 U U (by simp [bB]) U) (kd _) (by first|omega|(simp; done)|(simp; omega)) (by (simp only [maxLen]; omega)) sm sm U fun IR In=>?_
    try dsimp only
    refine sj hT 26 17 U U (fun w hs=>St.kj [2,3,4,5,6,7,8,9,10,11,12,13,14,15] U U hs) U U ?_
    try dsimp only [List.take]
    intro Ik
    try dsimp only
    refine xZ U fun Y X K hT=>dM (es:=(List.map iC [])) (C':=[own (some ⟨Ik,0,none⟩) 0 3 1 (List.map iC []),_,_,_,_,_,_,_,_,_,_,_,_,_,_,_,_,_]++X) 0 U sm U (by simp [maxLen]) U ?_
    refine db (es2:=(List.map iC fs)) (m':=fs.length) 0 U U U p5 U U sm (show il _ (rd fA fs.length 1 (fs.map iC)).holds from (pC (c:=fC) (e:=3) 6 U sm sm)) (kd _) (by first|omega|(simp; done)|(simp; omega)) (by (simp only [maxLen]; omega)) sm sm U fun Pi QI=>?_
    try dsimp only
    refine sj hT 28 18 U U (fun w hs=>St.kj [3,4,5,6,7,8,9,10,11,12,13,14,15,16] U U hs) U U ?_
    try dsimp only [List.take]
    intro P5
    try dsimp only
    refine xZ U fun Y X K hT=>?_
    refine db (es2:=(List.map iC (fs++[tt]))) (m':=(fs++[tt]).length) 1 U U U p5 U U sm (aZ (es:=List.map iC [tt]) 0 U U (by simp [bB]) U) (kd _) (by first|omega|(simp; done)|(simp; omega)) (by (simp only [maxLen]; omega)) sm sm U fun IX Jg=>?_
    try dsimp only
    refine sj hT 30 19 U U (fun w hs=>St.kj [4,5,6,7,8,9,10,11,12,13,14,15,16,17] U U hs) U U ?_
    try dsimp only [List.take]
    refine xZ U fun Y X K hT=>?_
    have R:=GT.1 AA
    refine x8<|rn 4 U ?_
    try dsimp only [List.eraseIdx]
    refine Ak U<|rn 2 U ?_
    try dsimp only [List.eraseIdx]
    refine Ak U ?_
    try dsimp only
    refine iQ 0 rfl rfl rfl rfl (hrec B (rs++[(j:Int)-1]) IR In (fs++[tt]) IX Jg I (by simp only [List.length_append,List.length_singleton]; omega) (by simp only [List.length_append,List.length_singleton]; omega) (by rw [mZ]; omega) (by intro x hx; rcases List.mem_append.1 hx with hx|hx; exact hrs x hx; rw [List.mem_singleton.1 hx]; omega)) rfl (dR 7 rfl rfl (dD (bP _)) (dR 8 rfl rfl (dD (bP _)) (dR 9 rfl rfl (dD (bP _)) (dR 10 rfl rfl (dD (bP _)) (dR 11 rfl rfl (dD (bP _)) (dR 12 rfl rfl (dD (bP _)) (dR 13 rfl rfl (dD (bP _)) (dR 14 rfl rfl (dD (bP _)) kh)))))))) rfl (fun NE A0=>?_)
    obtain ⟨Os,PC,v⟩:=NE
    try dsimp only
    dsimp only at A0
    refine sj hT 31 18 U U (fun w hs=>St.kj [3,4,5,6,7,8,9,10,11,12,13,14,15,16] U U hs) U U ?_
    try dsimp only [List.take]
    refine xZ U fun Y X K hT=>rn 0 U ?_
    try dsimp only [List.eraseIdx]
    refine zN ?_
    have R5:=uS (l:=l) (r:=r) (k:=B) (rs:=(rs++[(j:Int)-1])) (fs:=(fs++[tt])) Al I
    refine db (es2:=(List.zipWith cZ.cells ((gL l r rs fs)++(hZ l r B rs fs (j+1))) (E++(azW++v)))) (m':=((gL l r rs fs)++(hZ l r B rs fs (j+1))).length) 18 U U U O1 U U (tM (by simp only [List.length_append]; omega)).symm (ai (n:=(g8 l r B (rs++[(j:Int)-1]) (fs++[tt])).length) 0 U (tM A0)) (BD _ _) (by simp only [List.length_append]; omega) (by simp only [List.length_append,maxLen]; omega) (by rw [m_ R,← List.append_assoc,← List.append_assoc]; exact (JG (by simp only [List.length_append]; omega)).symm) (tM (by rw [m_ R]; simp only [List.length_append]; omega)) U fun Id Jm=>?_
    try dsimp only
    refine sj hT 32 19 U U (fun w hs=>St.kj [4,5,6,7,8,9,10,11,12,13,14,15,16,17] U U hs) U U ?_
    try dsimp only [List.take]
    refine xZ U fun Y X K hT=>rS (AG U)<|sj hT 33 19 U U (fun w hs=>St.kj [4,5,6,7,8,9,10,11,12,13,14,15,16,17] U U hs) U U ?_
    try dsimp only [List.take]
    refine aG<|KK P<|aj<|rP 3 [] mn ?_
    refine aC<|Fx 1 U ?_
    try dsimp only [List.eraseIdx]
    refine Fx 17 U ?_
    try dsimp only [List.eraseIdx]
    refine K_ A ?_
    rw [← m_ R]
    try dsimp only
    have Fd:(vI ((((j+1):Nat):Int)-1))=(vI (((j:Int)-1)+1)):=by exact cI I
    refine aS (O ⟨((j+1),Id,Jm,(azW++v)),⟨I,by dsimp only; (rw [m_ R,List.length_append,List.length_append,A,A0])⟩⟩ _ _ _ U os (ct 8<|aX U Fd<|dh.nil _) (aH [4,5,6,7,8,9,10,11,12,13,14,15,16,0,17]))
   refine WS fun _ a=>rP 2 [] mn ?_
   refine RK a<|bK U (aM fun J7=>?_) (aL fun J7=>?_)
   ·refine bZ ?_
    refine aS (jE (aT U) (aH [0,1,2,3,4,5,6,7,8,9,10,11,12,13,14]) (p ⟨(((fU r.Start fs)+(dN l rs.length)),r.fZ),⟨by exact Lp I,I⟩⟩))
   refine ah fun _ Cp=>WS fun _ u=>rP 3 [] (mc 1 U mn) ?_
   obtain ⟨s,hs⟩:=aJ r.ag ((((j:Int)-1)).toNat) I
   have Li:=bG aK.cells hs
   refine rS (IA ((((j:Int)-1)).toNat) U (aD 8 U) z5 dc I I)<|rS (nS (((((j:Int)-1)).toNat)*2) U (aD 8 U) (Nat.mul_pos I dc) fu U)<|rS (fV ((((j:Int)-1)).toNat) 0 (vI s.gd) U bX (aD 8 U) Li U dc U) ?_
   have Ru:=(hr.sig _ s hs).1
   refine rP 3 [] mn ?_
   refine cQ (t:=99) U (bp fun A1=>?_) (bq fun A1=>?_)
   ·refine bf 7 U<|RK u<|aO U<|bu<|ab<|ab<|au<|KK P<|aj<|rP 3 [] mn ?_
    refine aC ?_
    have L:(hZ l r B rs fs (j+1))=(hZ l r B rs fs j):=by exact qw (wJ I hs (fun q=>A1 I))
    rw [← L]
    have Eq:(vI ((((j+1):Nat):Int)-1))=(vI (((j:Int)-1)+1)):=by exact cI I
    refine aS (O ⟨((j+1),M,N,azW),⟨I,by dsimp only; (rw [L]; exact A)⟩⟩ _ _ _ U os (ct 8<|aX U Eq<|dh.nil _) (aH [0,1,2,3,4,5,6,7,8,9,10,11,12,13,14]))
   refine rP 3 [] (mc 0 U mn) ?_
   obtain ⟨bs,Ah⟩:=aJ (e8 l r r.ag.length) ((((j:Int)-1)).toNat) I
   have GE:=bG pY Ah
   refine rS (IA ((((j:Int)-1)).toNat) U (aD 11 U) Pm dc I I)<|rS (fV ((((j:Int)-1)).toNat) 0 (vB bs) U bX (aD 11 U) GE U dc U)<|rP 2 [] mn ?_
   refine RK u<|cy U (fun F=>?_) (fun F=>?_)
   ·rw [Bool.not_eq_true'] at F
    refine bu<|ab<|ab<|au<|KK P<|aj<|rP 3 [] mn ?_
    refine aC ?_
    have L:(hZ l r B rs fs (j+1))=(hZ l r B rs fs j):=by exact qw (wJ I hs (fun q=>by rw [(Bv hs Ah).2 q.2] at F; cases F))
    rw [← L]
    have FS:(vI ((((j+1):Nat):Int)-1))=(vI (((j:Int)-1)+1)):=by exact cI I
    refine aS (O ⟨((j+1),M,N,azW),⟨I,by dsimp only; (rw [L]; exact A)⟩⟩ _ _ _ U os (ct 8<|aX U FS<|dh.nil _) (aH [0,1,2,3,4,5,6,7,8,9,10,11,12,13,14]))
   rw [Bool.not_eq_false'] at F
   refine WK Cp<|dB cu 18 kr<|dP 4 [] (mc 0 U mn) ?_
   obtain ⟨z,hz⟩:=aJ (eM l r r.ag.length) ((((j:Int)-1)).toNat) I
   have IB:=bG aa.cells hz
   refine dS (IA ((((j:Int)-1)).toNat) U (aD 10 U) jQ dc I I)<|dS (nS (((((j:Int)-1)).toNat)*2) U (aD 10 U) (Nat.mul_pos I dc) fu U) ?_
   have IO:=Kq hs hz
   have L3:=wv l s
   rw [← IO] at L3
   have K8:(cz l s).Lo≤(cz l s).Hi:=(Bv hs Ah).1 F
   refine dS (fV ((((j:Int)-1)).toNat) 0 (vI z.Lo) U bX (aD 10 U) IB U dc U)<|dS (MX U)<|mP 4 [] (mc 0 U mn) U<|dS (IA ((((j:Int)-1)).toNat) U (aD 10 U) jQ dc I I)<|dS (nS ((((((j:Int)-1)).toNat)*2)+1) U (aD 10 U) (Nat.mul_pos I dc) fu U)<|dS (fV ((((j:Int)-1)).toNat) 1 (vI z.Hi) U bX (aD 10 U) IB U dc U)<|dS (MN U)<|dP 2 [] mn ?_
   refine cM<|aC ?_
   refine aS (jE (aT U) (aH [0,1,2,3,4,5,6,7,8,9,10,11,12,13,14]) (p ⟨((max ((fU r.Start fs)+(dN l rs.length)) z.Lo),(min r.fZ z.Hi)),⟨by (rw [IO]; exact JU I hs I K8),I⟩⟩))
  refine WS fun _ Z=>rP 2 [] mn ?_
  refine RK Z<|bK U (aM fun J6=>?_) (aL fun J6=>?_)
  ·refine bZ ?_
   have Dt:(vI (fU r.Start fs))=(vI r.Start):=by exact cI (by have e:fs=[]:=jD I; rw [e]; rfl)
   refine aS (jE (ct 7<|aX U Dt<|dh.nil _) (aH [0,1,2,3,4,5,6,7,8,9,10,11,12,13]) (o ()))
  refine aj<|rP 3 [] mn ?_
  obtain ⟨xf,Go⟩:=aJ fs (rs.length-1) I
  have Gr:=bG iC Go
  refine rS (IA (rs.length-1) U (show il _ (rd fA fs.length 1 (fs.map iC)).holds from (pC (c:=fC) (e:=3) 3 U sm sm)) cp dc I I)<|rS (fV (rs.length-1) 0 (vI xf) U bX (show il _ (rd fA fs.length 1 (fs.map iC)).holds from (pC (c:=fC) (e:=3) 3 U sm sm)) Gr U dc U)<|rP 1 [] mn ?_
  refine aC ?_
  have Do:(vI (fU r.Start fs))=(vI xf):=by exact cI (BU _ _ _ (by rw [hfl]; exact Go))
  refine aS (jE (ct 7<|aX U Do<|dh.nil _) (aH [0,1,2,3,4,5,6,7,8,9,10,11,12,13]) (o ()))
 refine WS fun _ V=>rP 8 [0,1] (mc 1 U (mc 2 U mn)) ?_
 refine RK V<|bK U (aM fun G=>?_) (aL fun G=>?_)
 ·refine bZ<|ED<|H4 241 3 ?_
  rw [show (own none 0 241 3 [])=(own none 0 241 3 (List.zipWith cZ.cells (gL l r rs fs) [])) from by rw [xD G]; rfl]
  have EQ:(vS none ((gL l r rs fs).length) 0)=(vS none 0 0):=by first|rfl|(rw [xD G]; rfl)
  refine aS (jE (ct 6<|aX U EQ<|dh.nil _) (aH [2,3,4,5,6,7,8,9,10,11,12,13,0,1]) (m ⟨(none,0,[],[]),(by exact .inr ⟨G,U,U⟩)⟩))
 refine aj<|rP 6 [0,1] (mc 1 U (mc 0 U mn)) ?_
 refine cX (ID r sgA sgC l vwA vwC vtA vtC vbA vbC rs rA rC hle hr I (by exact fun x hx h0=>(hrs x hx).2)) (lB [8,9,10,11]<|aw (show il _ (rd rA rs.length 1 (rs.map iC)).holds from (pC (c:=rC) (e:=3) 3 U sm sm))<|aI) U fun M2 Or=>?_
 obtain ⟨S,T⟩:=M2
 try dsimp only
 refine rS (SX (bh (xs:=[(0,.tmp 48),(1,.tmp 49),(2,.tmp 53)]) (cs:=(xO.cells (xO.mk (br.mk rA rs.length rC) (br.mk fA fs.length fC) (br.mk S ((jh l r rs).length) T)))) U U (bg R_ U)) U U)<|cY (xs:=[.tmp 54]) (cs:=(xO.cells (xO.mk (br.mk rA rs.length rC) (br.mk fA fs.length fC) (br.mk S ((jh l r rs).length) T)))) U Gv Rh U U U U (by simp [Value.cells,xO.aU]) U U fun Pl=>dH 241 3 ?_
 refine db (es2:=(List.zipWith cZ.cells (gL l r rs fs) ([((rA,rC),(fA,fC),(S,T))]))) (m':=(gL l r rs fs).length) 0 rfl rfl rfl O1 rfl rfl rfl (aZ (es:=List.zipWith cZ.cells [(cZ.mk rs fs (jh l r rs))] [((rA,rC),(fA,fC),(S,T))]) 1 rfl rfl (by intro e he; simp at he; subst he; rfl) rfl) (BD _ _) dc dc (by rw [zg G]; rfl) (by rw [zg G]; rfl) rfl fun y AC=>?_
 try dsimp only
 refine x8<|Pf 0 3 U U U ?_
 try dsimp only
 refine rP 1 [] mn ?_
 refine aC ?_
 have d:(vS y ((gL l r rs fs).length) AC)=(vS y ((gL l r rs fs).length) AC):=by first|rfl|(rw [xD G]; rfl)
 refine aS (jE (ct 6<|aX U d<|dh.nil _) (aH [3,4,5,6,7,8,9,10,11,12,13,14,1,0]) (m ⟨(y,AC,[((rA,rC),(fA,fC),(S,T))],[(own S T 3 1 ((jh l r rs).map iC))]),(by exact .inl ⟨G,_,U,U⟩)⟩))
theorem PY (l:a_) (kA:OA) (kC:Nat) (az:List RA) (cA:OA) (cC:Nat) (bA:OA) (bC:Nat) (r:cv) (sgA:OA) (sgC:Nat) (vwA:OA) (vwC:Nat) (vtA:OA) (vtC:Nat) (vbA:OA) (vbC k:Nat) (rs:List Int) (rA:OA) (rC:Nat) (fs:List Int) (fA:OA) (fC:Nat) (hin:ep l az) (hle:dq l=0) (hr:e9 l r) (hk:rs.length+k=l.ae.length) (hfl:fs.length=rs.length) (hst:r.Start≤fU r.Start fs∧fU r.Start fs≤r.fZ) (hrs: ∀ x∈rs,-1≤x∧x<(r.ag.length:Int)):
 Dr Tryz.prog 173 [(vA (ck.cells (lk l kA kC cA cC bA bC))),(vA (eB.cells (mF r sgA sgC))),(vA (iu.cells (iu.mk (br.mk vwA ((cJ l l.ae.length).length) vwC) (br.mk vtA ((eM l r r.ag.length).length) vtC) (br.mk vbA ((e8 l r r.ag.length).length) vbC)))),(vS rA rs.length rC),(vS fA fs.length fC)] [(rd kA l.aP.length 9 (l.aP.map al.cells)),(rd cA l.ak.length 2 (List.zipWith ar.cells l.ak az)),(eX (aV ar.g0 l.ak az)),(rd bA l.ae.length 4 (l.ae.map bD.cells)),(rd sgA r.ag.length 2 (r.ag.map aK.cells)),(rd vwA ((cJ l l.ae.length).length) 1 ((cJ l l.ae.length).map iC)),(rd vtA ((eM l r r.ag.length).length) 2 ((eM l r r.ag.length).map aa.cells)),(rd vbA ((e8 l r r.ag.length).length) 1 ((e8 l r r.ag.length).map pY))] (bw [own rA rC 3 1 (rs.map iC),own fA fC 3 1 (fs.map iC)]) (fun (x:(OA)×Nat×(List kB))=>(vS x.1 ((g8 l r k rs fs).length) x.2.1)) (fun (x:(OA)×Nat×(List kB))=>x.2.2.length=(g8 l r k rs fs).length) (fun (x:(OA)×Nat×(List kB))=>(bw (aV cZ.owns (g8 l r k rs fs) x.2.2++[own x.1 x.2.1 241 3 (List.zipWith cZ.cells (g8 l r k rs fs) x.2.2)]))):=by
 induction k using Nat.strongRecOn generalizing rs rA rC fs fA fC with
 |ind k ih=>exact HB l kA kC az cA cC bA bC r sgA sgC vwA vwC vtA vtC vbA vbC k rs rA rC fs fA fC hin hle hr hk hfl hst hrs (fun L F D E C A B G H AA J K=>ih L G F D E C A B H AA J K)
end
section
open Go.RowKit
theorem Ot (l:a_) (kA:OA) (kC:Nat) (az:List RA) (cA:OA) (cC:Nat) (bA:OA) (bC:Nat) (r:cv) (sgA:OA) (sgC:Nat) (hin:ep l az) (hsl:r.ag.length≤1000000):
 lv Tryz.prog 167 [(vA (ck.cells (lk l kA kC cA cC bA bC))),(vA (eB.cells (mF r sgA sgC)))] [(rd kA l.aP.length 9 (l.aP.map al.cells)),(rd cA l.ak.length 2 (List.zipWith ar.cells l.ak az)),(eX (aV ar.g0 l.ak az)),(rd bA l.ae.length 4 (l.ae.map bD.cells)),(rd sgA r.ag.length 2 (r.ag.map aK.cells))] (fun (x:Bool×Int×(OA)×Nat×(List kB))=>bif x.1 then (vT [(vS x.2.2.1 ((p6 l r).length) x.2.2.2.1),(vI 0)]) else (vT [(vS none 0 0),(vI x.2.1)])) (fun (x:Bool×Int×(OA)×Nat×(List kB))=>(x.1=true→(eu l r 0=0∧x.2.2.2.2.length=(p6 l r).length))∧(x.1=false→(x.2.1=eu l r 0∧ ¬ eu l r 0=0))) (fun (x:Bool×Int×(OA)×Nat×(List kB))=>bif x.1 then [(own x.2.2.1 x.2.2.2.1 241 3 (List.zipWith cZ.cells (p6 l r) x.2.2.2.2)),(bw (aV cZ.owns (p6 l r) x.2.2.2.2))] else []):=by
 have k:=hin.sJ
 have j:=hin.sI
 have h:=hin.oF
 have i:=hin.sE
 refine dj kr Tryz.func167 U U fun o Q hQ hN=>?_
 try dsimp only
 refine WS fun _ X=>fM U fun m=>fM U fun n=>bf 2 U<|RK X<|ah fun _ Y=>WS fun _ Z=>fw 1 [] (mc 1 U mn) U<|rS (CL (BY l kA kC az cA cC bA bC hin) (bj [2,3,4,5]) U)<|bf 1 U<|RK Z<|WS fun _ a=>rP 2 [] mn ?_
 refine RK a<|cy U (bp fun A=>?_) (bq fun A=>?_)
 ·refine WS fun _ b=>rP 3 [] mn ?_
  refine RK b<|an<|LX hQ (false,(dq l),none,0,[]) [] [] mn U (by rfl) U U ?_
  exact rv<|Jq (od (r:=r) (me:=0) A) A
 refine WK Y<|ah fun _ c=>WS fun _ d=>fw 2 [0,1] (mc 1 U (mc 0 U mn)) U<|rS (CL (Nw l kA kC az cA cC bA bC r sgA sgC hin (by exact hsl)) (bj [2,3,4,5,6]) U)<|rP 1 [] mn ?_
 refine RK d<|cy U (bp fun B=>?_) (bq fun B=>?_)
 ·refine WS fun _ D=>rP 2 [] mn ?_
  refine RK D<|an<|LX hQ (false,51,none,0,[]) [] [] mn U (by rfl) U U ?_
  exact rv<|pO (jd (me:=0) A B)
 refine WK c<|ah fun _ E=>dG cu [4,5,6] [] [] [0,1,2,3,4,5,6] [] U U U U U<|eS U (LW 1 U bX U U)<|eS U (LW 0 U bX U U)<|eS U (LW 1 U bX U U)<|eS U (LW 0 U bX U U)<|eU U<|bY U fun T12 J=>cX (Oq l kA kC az cA cC bA bC r sgA sgC hin (by exact A) (by exact B)) (bj [2,3,4,5,6]) U fun e g=>?_
 obtain ⟨V,W,T,AA,R,S⟩:=e
 try dsimp only
 refine aC (J _ _ (aH [3,4,5,6,7,8,9]) ?_)
 refine bY U fun T21 K=>dH 3 1<|dH 3 1<|x8<|rn 1 U ?_
 try dsimp only [List.eraseIdx]
 refine Ak U<|rn 1 U ?_
 try dsimp only [List.eraseIdx]
 refine Ak U ?_
 try dsimp only
 refine iQ 0 rfl rfl rfl rfl (PY l kA kC az cA cC bA bC r sgA sgC V W T AA R S l.ae.length ([]:List Int) none 0 ([]:List Int) none 0 hin (by exact A) (by exact B) sm (by rfl) (by exact ⟨Int.le_refl _,B.time.2.1⟩) (by intro x hx; cases hx)) rfl (dR 6 rfl rfl (dD (bP _)) (dR 7 rfl rfl (dD (bP _)) (dR 8 rfl rfl (dD (bP _)) (dR 9 rfl rfl (dD (bP _)) (dR 10 rfl rfl (dD (bP _)) (dR 1 rfl rfl (j4 sm) (dR 2 rfl rfl (j4 sm) (dR 3 rfl rfl (j4 sm) kh)))))))) rfl (fun f M=>?_)
 obtain ⟨N,O,P⟩:=f
 try dsimp only
 refine aC (K _ _ (aH [4,5,6,7,8,9,10]) ?_)
 refine bY U fun T26 L=>rn 0 U ?_
 try dsimp only [List.eraseIdx]
 refine zN ?_
 dsimp only at M
 refine rS (AG U)<|aC (L _ _ (aH [5,6,7,8,9,10,11]) ?_)
 refine fF U<|KK E<|ah fun _ F=>WS fun _ G=>rP 3 [] mn ?_
 refine RK G<|bK U (aM fun C=>?_) (aL fun C=>?_)
 ·refine WK F<|WS fun _ AB=>rP 3 [] mn ?_
  refine RK AB<|an ?_
  refine LX hQ (true,0,N,O,P) [0,1] [] mn U (by (show List.all _ _=true; simp only [cond_true,fB,List.all_nil,Ma,Bool.and_true]; rfl)) U U ?_
  exact ⟨fun _=>⟨lS A B U fun q=>C (by rw [show g8 l r l.ae.length [] []=[] from (fE A B).2 q]; rfl),M⟩,M5⟩
 refine WS fun _ H=>rP 2 [] mn ?_
 refine RK H<|an<|LX hQ (false,8,none,0,[]) [] [] mn U (by rfl) U U ?_
 exact rv<|pO (pf (me:=0) A B U ((fE A B).1 (jD (Int.natCast_eq_zero.1 C))))
theorem Hw (ws:List cZ) (wz:List kB) (wA:OA) (wC b:Nat) (hws:Ow ws) (hwz:wz.length=ws.length) (hb:b≤6):
 dT Tryz.prog 168 [(vS wA ws.length wC),(vI (b:Int))] [(rd wA ws.length 3 (List.zipWith cZ.cells ws wz)),(eX (aV cZ.g0 ws wz))] (vT [(vA (aa.cells (ph ws b))),(vI (pH ws b))]):=by
 have u:=hws.num
 refine bx kr Tryz.func168 U U fun x Q hQ hN=>?_
 try dsimp only
 refine WS fun _ g=>AL U de fun w=>bf 1 U<|RK g<|WS fun _ h=>AL U de fun t=>RK h<|WS fun _ j=>bf 1 U<|RK j<|ah fun _ k=>WS fun _ l=>rP 1 [] mn ?_
 refine RK l<|av ?_
 have D:(0≤ws.length)∧(nB b (ws.take 0) false (aa.mk 0 0)):=by exact ⟨Nat.zero_le _,HO⟩
 refine bH (ι:={z:Nat×Bool×aa // (z.1≤ws.length)∧(nB b (ws.take z.1) z.2.1 z.2.2)}) [0,1,4,5,6] [1,2,3] U U (fun z=>[(7,(vB z.1.2.1)),(8,(vI (z.1.1:Int)))]) (fun z=>[(bV t 40 (aa.cells z.1.2.2))]) (fun _=>rfl) (fun _=>rfl) (fun z=>ws.length-z.1.1) ⟨(0,false,(aa.mk 0 0)),D⟩ (aT U) (aH [1,2,3,0]) ?_
 clear D
 rintro ⟨⟨i,fd,o⟩,⟨J,A⟩⟩ J8 H
 try dsimp only at J A
 try dsimp only
 refine ah fun _ m=>WS fun _ L=>rP 4 [] mn ?_
 refine RK L<|bK U (aM fun c=>?_) (aL fun c=>?_)
 ·refine bu<|ab<|ab<|au<|KK k<|ah fun _ R=>WS fun _ S=>rP 2 [] mn ?_
  refine RK S<|bK U (fun B=>?_) (fun B=>?_)
  ·rw [Bool.not_eq_false'] at B
   refine WK R<|WS fun _ AA=>fw 1 [] (mc 3 U mn) U<|fP U cm U<|rP 1 [] mn ?_
   refine RK AA<|an<|lp hQ [0] (mc 0 U mn) U ?_
   have AB:=zn (by have q:=A; rwa [List.take_of_length_le I] at q) hws.Gr
   (have q:=AB.2 B; rw [q.1,q.2]; done)
  rw [Bool.not_eq_true'] at B
  refine WS fun _ T=>rS (SX (bh (xs:=[]) (cs:=(aa.cells (aa.mk 0 0))) U U (bg gf U)) U U)<|fP U cm U<|rP 1 [] mn ?_
  refine RK T<|an<|lp hQ [0] (mc 0 U mn) U ?_
  have AB:=zn (by have q:=A; rwa [List.take_of_length_le I] at q) hws.Gr
  (have q:=AB.1 B; rw [q.1,q.2]; done)
 refine WK m<|ah fun _ C=>av<|ah fun _ M=>WS fun _ N=>rP 2 [] mn ?_
 obtain ⟨y,hy⟩:=aJ ws i I
 obtain ⟨ya,E⟩:=aJ wz i I
 have K:(List.zipWith cZ.cells ws wz)[i]? =some (cZ.cells y ya):=dA hy E
 refine rS (IA i U (aD 1 U) Gv dc I I)<|rS (nS (i*3) U (aD 1 U) (Nat.mul_pos I dc) fu U)<|rS (fV i 0 (vS ya.1.1 y.gp.length ya.1.2) U bX (aD 1 U) K U dc U)<|rP 3 [] mn ?_
 refine RK N<|cy U (aL fun d=>?_) (aM fun d=>?_)
 ·refine bu<|ab<|au<|KK C<|aj<|rP 3 [] mn ?_
  refine aC ?_
  have X:(vI (((i+1):Nat):Int))=(vI ((i:Int)+1)):=by exact cI I
  refine aS (H ⟨((i+1),fd,o),⟨I,by dsimp only; rw [lQ hy]; exact EO A I⟩⟩ _ _ _ U os (ct 6<|aX U X<|dh.nil _) (aH [0,1,2,3]))
 refine WK M<|ah fun _ O=>dG cu [17,18] [] [] [0,1,2,3] [] U U U U U ?_
 have v:=hws.lens y (aR hy)
 obtain ⟨s,hs⟩: ∃ s,y.gp[b]? =some s:=⟨y.gp[b]'I,eC _⟩
 refine eS U (MV U)<|eS U (MV U)<|eS U (IA i U (aD 1 U) Gv dc I I)<|eS U (nS ((i*3)+1) U (aD 1 U) (Nat.mul_pos I dc) fu U)<|eS U (fV i 1 (vS ya.2.1.1 y.iD.length ya.2.1.2) U bX (aD 1 U) K U dc U)<|eS U (MV U) ?_
 obtain ⟨f,hf⟩:=aJ y.iD b I
 have p:=bG iC hf
 refine eS U (IA b U (show il _ (rd ya.2.1.1 y.iD.length 1 (y.iD.map iC)).holds from (du 2 U (bM hy E (by simp [cZ.g0])))) cp dc I I)<|eS U (fV b 0 (vI f) U bX (show il _ (rd ya.2.1.1 y.iD.length 1 (y.iD.map iC)).holds from (du 2 U (bM hy E (by simp [cZ.g0])))) p U dc U)<|eS U (MV U)<|eS U (MV U)<|eS U (IA i U (aD 1 U) Gv dc I I)<|eS U (nS ((i*3)+2) U (aD 1 U) (Nat.mul_pos I dc) fu U)<|eS U (fV i 2 (vS ya.2.2.1 y.lE.length ya.2.2.2) U bX (aD 1 U) K U dc U)<|eS U (MV U) ?_
 obtain ⟨e,he⟩:=aJ y.lE b I
 have n:=bG iC he
 refine eS U (IA b U (show il _ (rd ya.2.2.1 y.lE.length 1 (y.lE.map iC)).holds from (du 2 U (bM hy E (by simp [cZ.g0])))) cp dc I I)<|eS U (fV b 0 (vI e) U bX (show il _ (rd ya.2.2.1 y.lE.length 1 (y.lE.map iC)).holds from (du 2 U (bM hy E (by simp [cZ.g0])))) n U dc U)<|eS U (SX (bh (xs:=[(0,.tmp 31),(1,.tmp 39)]) (cs:=(aa.cells (aa.mk f e))) U U (bg gf U)) U U)<|eU U<|bY U fun T17 V=>AL U de fun r=>aC (V _ _ (aH [1,2,3,4]) ?_)
 refine bY U fun T19 W=>fP U cm U<|aC (W _ _ (aH [1,2,3,4]) ?_)
 refine fF U<|KK O<|ah fun _ F=>WS fun _ P=>?_
 have a:=hws.le y (aR hy) b f e I hf he
 refine rP 1 [] mn ?_
 refine RK P<|bK U (fun G=>?_) (fun G=>?_)
 ·refine WK F<|aj<|fw 1 [] (mc 0 U mn) U<|Pc U cm U<|bf 1 U<|aC<|aG<|KK C<|aj<|rP 3 [] mn ?_
  refine aC ?_
  have Z:(vI (((i+1):Nat):Int))=(vI ((i:Int)+1)):=by exact cI I
  refine aS (H ⟨((i+1),true,(aa.mk f e)),⟨I,by dsimp only; rw [lQ hy]; exact Bp A G hs hf he a⟩⟩ _ _ _ U os (ct 6<|aX U Z<|dh.nil _) (aH [1,2,3,4]))
 refine aj<|fw 4 [0,1] (mc 0 U (mc 4 U mn)) U<|rS (MN U)<|fw 4 [0,1] (mc 0 U (mc 4 U mn)) U<|rS (MX U)<|rS (SX (bh (xs:=[(0,.tmp 46),(1,.tmp 51)]) (cs:=(aa.cells (aa.mk (min f o.Lo) (max e o.Hi)))) U U (bg gf U)) U U)<|fP U cm U<|RK F<|aj<|fw 1 [] (mc 0 U mn) U<|Pc U cm U<|bf 1 U<|aC<|aG<|KK C<|aj<|rP 3 [] mn ?_
 refine aC ?_
 have Y:(vI (((i+1):Nat):Int))=(vI ((i:Int)+1)):=by exact cI I
 refine aS (H ⟨((i+1),true,(aa.mk (min f o.Lo) (max e o.Hi))),⟨I,by dsimp only; rw [lQ hy]; exact DZ A G hs hf he a⟩⟩ _ _ _ U os (ct 6<|aX U Y<|dh.nil _) (aH [1,2,3,4]))
end
section
open Go.RowKit
theorem QT (l:a_) (kA:OA) (kC:Nat) (az:List RA) (cA:OA) (cC:Nat) (bA:OA) (bC:Nat) (r:cv) (sgA:OA) (sgC:Nat) (hin:ep l az) (hsl:r.ag.length≤1000000):
 dT Tryz.prog 158 [(vA (ck.cells (ck.mk (bE.mk (br.mk kA l.aP.length kC)) l.g9 (br.mk cA l.ak.length cC) (br.mk bA l.ae.length bC) l.cH l.eV l.cW))),(vA (eB.cells (mF r sgA sgC)))] [(rd kA l.aP.length 9 (l.aP.map al.cells)),(rd cA l.ak.length 2 (List.zipWith ar.cells l.ak az)),(eX (aV ar.g0 l.ak az)),(rd bA l.ae.length 4 (l.ae.map bD.cells)),(rd sgA r.ag.length 2 (r.ag.map aK.cells))] (vT [(vA (aa.cells (Ao l r))),(vI (eK l r l.cH))]):=by
 have q:=hin.sJ
 have j:=hin.sI
 have h:=hin.oF
 have i:=hin.sE
 refine bx kr Tryz.func158 U U fun y Q hQ hN=>?_
 try dsimp only
 refine WS fun _ Z=>fM U fun v=>fM U fun w=>AL U de fun x=>bf 1 U<|RK Z<|WS fun _ P=>rP 2 [0,1] (mc 2 U (mc 1 U mn)) ?_
 refine cX (Ot l kA kC az cA cC bA bC r sgA sgC hin hsl) (bj [3,4,5,6,7]) U fun u V=>?_
 obtain ⟨W,g,e,Y,X⟩:=u
 cases W
 ·obtain ⟨R,he⟩:=V.2 rfl
  try dsimp only at R he
  subst R
  try dsimp only [cond_true,cond_false,List.cons_append,List.nil_append]
  refine bf 5 U<|RK P<|ah fun _ d=>WS fun _ G=>rP 2 [] mn ?_
  refine RK G<|bK U (bq fun F=>?_) (bp fun F=>?_)
  ·exact absurd F he
  refine WS fun _ H=>rS (SX (bh (xs:=[]) (cs:=(aa.cells (aa.mk 0 0))) U U (bg gf U)) U U)<|bf 1 U<|fP U cm U<|rP 1 [] mn ?_
  refine RK H<|an<|lp hQ [0] (mc 0 U mn) U ?_
  (rw [DN (fun z=>he ((vh he).symm.trans z)),vh he]<;>rfl)
 obtain ⟨he,C⟩:=V.1 rfl
 try dsimp only [cond_true,cond_false,List.cons_append,List.nil_append]
 try dsimp only at he C
 obtain ⟨T,E,_,k⟩:=jY he
 obtain ⟨s,c⟩:=gF T
 have a:=c.head
 unfold gj at a
 have AA:=PD T E
 have t:=AA.num
 have o:=E.len
 have p:=E.time
 refine bf 5 U<|RK P<|ah fun _ AB=>WS fun _ J=>rP 1 [] mn ?_
 refine rS (SX (bU (r:= .bool false) U U U mA) U U)<|RK J<|aW U<|WK AB<|ah fun _ K=>?_
 obtain ⟨b,S⟩: ∃ b:Nat,l.cH=(b:Int):=⟨l.cH.toNat,I⟩
 have A:=IK he (b:=b) I
 rw [← S] at A
 rw [S]
 refine aj<|fw 3 [] (mc 4 U mn) U<|rS (CL (Hw (p6 l r) X e Y b (by exact AA) (by exact C) I) (aw (ai (n:=(p6 l r).length) 0 U (tM C))<|aw (cL 1 U MK)<|aI) U)<|bf 3 U<|AL U de fun f=>fP U cm U<|bf 1 U<|RK K<|ah fun _ L=>WS fun _ M=>rP 2 [] mn ?_
 refine RK M<|cy U (bp fun B=>?_) (bq fun B=>?_)
 ·refine WS fun _ N=>rS (SX (bh (xs:=[]) (cs:=(aa.cells (aa.mk 0 0))) U U (bg gf U)) U U)<|bf 1 U<|TX U cm U<|rP 1 [] mn ?_
  refine RK N<|an<|lp hQ [0] (mc 3 U mn) U ?_
  (rw [DN (fun z=>B (A.1.trans z)),← A.1]<;>rfl)
 refine WK L<|ah fun _ O=>?_
 have D:eK l r l.cH=0:=A.1.symm.trans B
 have m:=xj D
 rw [A.2]
 refine aj<|fw 10 [0,1,0,1] (mc 0 U (mc 4 U mn)) U<|rS (SX (bh (xs:=[(0,.tmp 34),(1,.tmp 39)]) (cs:=(aa.cells (aa.mk (((eQ l r l.cH).Lo)-r.Start) (((eQ l r l.cH).Hi)-r.Start)))) U U (bg gf U)) U U)<|TX U cm U<|rP 1 [] mn ?_
 refine RK O<|an<|lp hQ [0] (mc 3 U mn) U ?_
 (rw [AJ D,D])
end
section
open Go.RowKit
theorem ve (G:List (List Int)) (H:List (List Int)) (gz:List RA) (gA:OA) (gC:Nat) (hz:List RA) (hA:OA) (hC:Nat) (h1:G.length≤1000000) (h2:H.length≤1000000) (h3: ∀ l∈G,l.length≤1000000) (h4: ∀ l∈H,l.length≤1000000) (hgz:gz.length=G.length) (hhz:hz.length=H.length):
 dT Tryz.prog 22 [(vS gA G.length gC),(vS hA H.length hC)] [(rd gA G.length 1 (List.zipWith l3 G gz)),(eX (aV A_ G gz)),(rd hA H.length 1 (List.zipWith l3 H hz)),(eX (aV A_ H hz))] (vB (decide (G=H))):=by
 refine bx kr Tryz.func22 U U fun Z Q hQ hN=>?_
 try dsimp only
 refine WS fun _ N=>bf 1 U<|RK N<|ah fun _ O=>WS fun _ P=>rP 5 [] mn ?_
 refine RK P<|cy U (bp fun hl=>?_) (bq fun hl=>?_)
 ·refine WS fun _ R=>rP 1 [] mn ?_
  refine RK R<|an<|Q1 hQ U U U ?_
  first|exact cB (cf (nQ hx hy h)).symm|exact cB (fI (nF I A I)).symm|exact cB (cf (fun e=>by subst e; omega)).symm
 refine WK O<|ah fun _ S=>WS fun _ T=>rP 1 [] mn ?_
 refine RK T<|av ?_
 have B:(0≤G.length)∧(G.take 0=H.take 0):=by exact ⟨Nat.zero_le _,rfl⟩
 refine bH (ι:={z:Nat // (z≤G.length)∧(G.take z=H.take z)}) [0,1] [0,1,2,3] U U (fun z=>[(5,(vI (z.1:Int)))]) (fun z=>[]) (fun _=>rfl) (fun _=>rfl) (fun z=>G.length-z.1) ⟨0,B⟩ (aT U) (aH [0,1,2,3]) ?_
 clear B
 rintro ⟨i,⟨W,A⟩⟩ J7 M
 try dsimp only
 refine ah fun _ AA=>WS fun _ V=>rP 4 [] mn ?_
 refine RK V<|bK U (aM fun L=>?_) (aL fun L=>?_)
 ·refine bu<|ab<|ab<|au<|KK S<|WS fun _ F=>rP 1 [] mn ?_
  refine RK F<|an<|Q1 hQ U U U ?_
  first|exact cB (cf (nQ hx hy h)).symm|exact cB (fI (nF I A I)).symm|exact cB (cf (fun e=>by subst e; omega)).symm
 refine WK AA<|ah fun _ C=>av<|ah fun _ D=>dB cu 10 kr<|dP 2 [] mn ?_
 obtain ⟨x,hx⟩:=aJ G i I
 obtain ⟨xa,J⟩:=aJ gz i I
 have X:(List.zipWith l3 G gz)[i]? =some (l3 x xa):=dA hx J
 refine dS (IA i U (aD 0 U) nW dc I I)<|dS (fV i 0 (vS xa.1 x.length xa.2) U bX (aD 0 U) X U dc U)<|dP 2 [] mn ?_
 obtain ⟨y,hy⟩:=aJ H i I
 obtain ⟨ya,K⟩:=aJ hz i I
 have Y:(List.zipWith l3 H hz)[i]? =some (l3 y ya):=dA hy K
 refine dS (IA i U (aD 2 U) nW dc I I)<|dS (fV i 0 (vS ya.1 y.length ya.2) U bX (aD 2 U) Y U dc U)<|dS (CL (n8 x xa.1 xa.2 y ya.1 ya.2 (by exact h3 x (aR hx)) (by exact h4 y (aR hy))) (aw (show il _ (rd xa.1 x.length 1 (x.map iC)).holds from (du 1 U (bM hx J (by simp [A_]))))<|aw (show il _ (rd ya.1 y.length 1 (y.map iC)).holds from (du 3 U (bM hy K (by simp [A_]))))<|aI) U)<|dP 1 [] mn ?_
 refine cM<|RK D<|cy U (bp fun h=>?_) (bq fun h=>?_)
 ·refine WS fun _ E=>rP 1 [] mn ?_
  refine RK E<|an<|Q1 hQ U U U ?_
  first|exact cB (cf (nQ hx hy h)).symm|exact cB (fI (nF I A I)).symm|exact cB (cf (fun e=>by subst e; omega)).symm
 refine bZ<|aG<|KK C<|aj<|rP 3 [] mn ?_
 refine aC ?_
 have AB:(vI (((i+1):Nat):Int))=(vI ((i:Int)+1)):=by exact cI I
 refine aS (M ⟨(i+1),⟨I,ug A hx hy h⟩⟩ _ _ _ U os (dh.cons U<|dh.cons U<|aX U AB<|dh.nil _) (aH [0,1,2,3]))
end
section
open Go.RowKit
theorem JX (l:List al) (lA:OA) (lC:Nat) (hlen:l.length≤1000000):
 lv Tryz.prog 87 [(vS lA l.length lC)] [(rd lA l.length 9 (l.map al.cells))] (fun (x:(OA)×Nat)=>(vS x.1 l.length x.2)) (fun (x:(OA)×Nat)=>True) (fun (x:(OA)×Nat)=>[(own x.1 x.2 114 9 (l.map al.cells))]):=by
 refine dj kr Tryz.func87 U U fun L Q hQ hN=>?_
 try dsimp only
 refine WS fun _ D=>bf 1 U<|RK D<|ah fun _ E=>WS fun _ F=>rP 1 [] mn ?_
 refine rS (BI U (qD QW))<|RK F<|cy U (aL fun B=>?_) (aM fun B=>?_)
 ·refine WS fun _ G=>ml (aD 0 U) B dc fun C=>?_
  have A:l=[]:=by simpa using C
  refine dH 114 9 ?_
  rw [show (own none 0 114 9 ([]:List (List Value)))=own none 0 114 9 (l.map al.cells) from by rw [A]; rfl]
  refine rP 1 [] mn ?_
  refine RK G<|an ?_
  refine LX hQ (none,0) [0] [] mn U U U ?_ ?_
  ·first|rfl|(rw [A]; rfl)
  ·trivial
 refine WK E<|WS fun _ H=>sN U yj U fun J=>rP 1 [] mn ?_
 refine dM (es:=(List.map al.cells [])) (C':=[own (some ⟨J,0,none⟩) 0 114 9 (List.map al.cells []),_]) 0 U sm U (by simp [maxLen]) U ?_
 refine db (es2:=(List.map al.cells l)) (m':=l.length) 0 U U U Vu U U sm (aD 1 U) (rU _) os (by first|(simp only [maxLen]; omega)|(simp [maxLen]; omega)) sm sm U fun AA K=>?_
 try dsimp only
 refine rP 1 [] mn ?_
 refine RK H<|an ?_
 refine LX hQ (AA,K) [0] [] mn U U U ?_ ?_
 ·first|rfl|(rw [A]; rfl)
 ·trivial
theorem KL (l:List bD) (lA:OA) (lC:Nat) (hlen:l.length≤1000000):
 lv Tryz.prog 89 [(vS lA l.length lC)] [(rd lA l.length 4 (l.map bD.cells))] (fun (x:(OA)×Nat)=>(vS x.1 l.length x.2)) (fun (x:(OA)×Nat)=>True) (fun (x:(OA)×Nat)=>[(own x.1 x.2 121 4 (l.map bD.cells))]):=by
 refine dj kr Tryz.func89 U U fun L Q hQ hN=>?_
 try dsimp only
 refine WS fun _ D=>bf 1 U<|RK D<|ah fun _ E=>WS fun _ F=>rP 1 [] mn ?_
 refine rS (BI U (qD Qe))<|RK F<|cy U (aL fun B=>?_) (aM fun B=>?_)
 ·refine WS fun _ G=>ml (aD 0 U) B dc fun C=>?_
  have A:l=[]:=by simpa using C
  refine dH 121 4 ?_
  rw [show (own none 0 121 4 ([]:List (List Value)))=own none 0 121 4 (l.map bD.cells) from by rw [A]; rfl]
  refine rP 1 [] mn ?_
  refine RK G<|an ?_
  refine LX hQ (none,0) [0] [] mn U U U ?_ ?_
  ·first|rfl|(rw [A]; rfl)
  ·trivial
 refine WK E<|WS fun _ H=>sN U vJ U fun J=>rP 1 [] mn ?_
 refine dM (es:=(List.map bD.cells [])) (C':=[own (some ⟨J,0,none⟩) 0 121 4 (List.map bD.cells []),_]) 0 U sm U (by simp [maxLen]) U ?_
 refine db (es2:=(List.map bD.cells l)) (m':=l.length) 0 U U U UT U U sm (aD 1 U) (vE _) os (by first|(simp only [maxLen]; omega)|(simp [maxLen]; omega)) sm sm U fun AA K=>?_
 try dsimp only
 refine rP 1 [] mn ?_
 refine RK H<|an ?_
 refine LX hQ (AA,K) [0] [] mn U U U ?_ ?_
 ·first|rfl|(rw [A]; rfl)
 ·trivial
theorem Ld (l:List cw) (lA:OA) (lC:Nat) (hlen:l.length≤1000000):
 lv Tryz.prog 90 [(vS lA l.length lC)] [(rd lA l.length 3 (l.map cw.cells))] (fun (x:(OA)×Nat)=>(vS x.1 l.length x.2)) (fun (x:(OA)×Nat)=>True) (fun (x:(OA)×Nat)=>[(own x.1 x.2 116 3 (l.map cw.cells))]):=by
 refine dj kr Tryz.func90 U U fun L Q hQ hN=>?_
 try dsimp only
 refine WS fun _ D=>bf 1 U<|RK D<|ah fun _ E=>WS fun _ F=>rP 1 [] mn ?_
 refine rS (BI U (qD O5))<|RK F<|cy U (aL fun B=>?_) (aM fun B=>?_)
 ·refine WS fun _ G=>ml (aD 0 U) B dc fun C=>?_
  have A:l=[]:=by simpa using C
  refine dH 116 3 ?_
  rw [show (own none 0 116 3 ([]:List (List Value)))=own none 0 116 3 (l.map cw.cells) from by rw [A]; rfl]
  refine rP 1 [] mn ?_
  refine RK G<|an ?_
  refine LX hQ (none,0) [0] [] mn U U U ?_ ?_
  ·first|rfl|(rw [A]; rfl)
  ·trivial
 refine WK E<|WS fun _ H=>sN U qi U fun J=>rP 1 [] mn ?_
 refine dM (es:=(List.map cw.cells [])) (C':=[own (some ⟨J,0,none⟩) 0 116 3 (List.map cw.cells []),_]) 0 U sm U (by simp [maxLen]) U ?_
 refine db (es2:=(List.map cw.cells l)) (m':=l.length) 0 U U U Rs U U sm (aD 1 U) (vD _) os (by first|(simp only [maxLen]; omega)|(simp [maxLen]; omega)) sm sm U fun AA K=>?_
 try dsimp only
 refine rP 1 [] mn ?_
 refine RK H<|an ?_
 refine LX hQ (AA,K) [0] [] mn U U U ?_ ?_
 ·first|rfl|(rw [A]; rfl)
 ·trivial
theorem JK (l:List aK) (lA:OA) (lC:Nat) (hlen:l.length≤1000000):
 lv Tryz.prog 93 [(vS lA l.length lC)] [(rd lA l.length 2 (l.map aK.cells))] (fun (x:(OA)×Nat)=>(vS x.1 l.length x.2)) (fun (x:(OA)×Nat)=>True) (fun (x:(OA)×Nat)=>[(own x.1 x.2 123 2 (l.map aK.cells))]):=by
 refine dj kr Tryz.func93 U U fun L Q hQ hN=>?_
 try dsimp only
 refine WS fun _ D=>bf 1 U<|RK D<|ah fun _ E=>WS fun _ F=>rP 1 [] mn ?_
 refine rS (BI U (qD Rr))<|RK F<|cy U (aL fun B=>?_) (aM fun B=>?_)
 ·refine WS fun _ G=>ml (aD 0 U) B dc fun C=>?_
  have A:l=[]:=by simpa using C
  refine dH 123 2 ?_
  rw [show (own none 0 123 2 ([]:List (List Value)))=own none 0 123 2 (l.map aK.cells) from by rw [A]; rfl]
  refine rP 1 [] mn ?_
  refine RK G<|an ?_
  refine LX hQ (none,0) [0] [] mn U U U ?_ ?_
  ·first|rfl|(rw [A]; rfl)
  ·trivial
 refine WK E<|WS fun _ H=>sN U z5 U fun J=>rP 1 [] mn ?_
 refine dM (es:=(List.map aK.cells [])) (C':=[own (some ⟨J,0,none⟩) 0 123 2 (List.map aK.cells []),_]) 0 U sm U (by simp [maxLen]) U ?_
 refine db (es2:=(List.map aK.cells l)) (m':=l.length) 0 U U U U3 U U sm (aD 1 U) (tg _) os (by first|(simp only [maxLen]; omega)|(simp [maxLen]; omega)) sm sm U fun AA K=>?_
 try dsimp only
 refine rP 1 [] mn ?_
 refine RK H<|an ?_
 refine LX hQ (AA,K) [0] [] mn U U U ?_ ?_
 ·first|rfl|(rw [A]; rfl)
 ·trivial
theorem L6 (es:List (List Value)) (lA:OA) (n lC:Nat) (hlen:n≤1000000) (hes:es.length=n) (hone: ∀ v∈es.flatten,v.oneCell'=true):
 lv Tryz.prog 88 [(vS lA n lC)] [(rd lA n 2 es)] (fun (x:(OA)×Nat)=>(vS x.1 n x.2)) (fun (x:(OA)×Nat)=>True) (fun (x:(OA)×Nat)=>[(own x.1 x.2 119 2 es)]):=by
 refine dj kr Tryz.func88 U U fun L Q hQ hN=>?_
 try dsimp only
 refine WS fun _ D=>bf 1 U<|RK D<|ah fun _ E=>WS fun _ F=>rP 1 [] mn ?_
 refine rS (BI U (qD S8))<|RK F<|cy U (aL fun B=>?_) (aM fun B=>?_)
 ·refine WS fun _ G=>ml (aD 0 U) B dc fun C=>?_
  have A:es=[]:=C
  refine dH 119 2 ?_
  rw [show (own none 0 119 2 ([]:List (List Value)))=own none 0 119 2 es from by rw [A]]
  refine rP 1 [] mn ?_
  refine RK G<|an ?_
  refine LX hQ (none,0) [0] [] mn U U U ?_ ?_
  ·first|rfl|(rw [hes]; rfl)|(rw [← hes,A]; rfl)
  ·trivial
 refine WK E<|WS fun _ H=>sN U AA U fun J=>rP 1 [] mn ?_
 refine dM (es:=(List.map dp.cells [])) (C':=[own (some ⟨J,0,none⟩) 0 119 2 (List.map dp.cells []),_]) 0 U sm U (by simp [maxLen]) U ?_
 refine db (es2:=es) (m':=es.length) 0 U U U U8 U U sm (aD 1 U) hone (by simp; omega) (by simp [maxLen]; omega) sm U U fun AB K=>?_
 try dsimp only
 refine rP 1 [] mn ?_
 refine RK H<|an ?_
 refine LX hQ (AB,K) [0] [] mn U U U ?_ ?_
 ·first|rfl|(rw [hes]; rfl)|(rw [← hes,A]; rfl)
 ·trivial
theorem KG (es:List (List Value)) (lA:OA) (n lC:Nat) (hlen:n≤1000000) (hes:es.length=n) (hone: ∀ v∈es.flatten,v.oneCell'=true):
 lv Tryz.prog 92 [(vS lA n lC)] [(rd lA n 7 es)] (fun (x:(OA)×Nat)=>(vS x.1 n x.2)) (fun (x:(OA)×Nat)=>True) (fun (x:(OA)×Nat)=>[(own x.1 x.2 45 7 es)]):=by
 refine dj kr Tryz.func92 U U fun L Q hQ hN=>?_
 try dsimp only
 refine WS fun _ D=>bf 1 U<|RK D<|ah fun _ E=>WS fun _ F=>rP 1 [] mn ?_
 refine rS (BI U (qD SR))<|RK F<|cy U (aL fun B=>?_) (aM fun B=>?_)
 ·refine WS fun _ G=>ml (aD 0 U) B dc fun C=>?_
  have A:es=[]:=C
  refine dH 45 7 ?_
  rw [show (own none 0 45 7 ([]:List (List Value)))=own none 0 45 7 es from by rw [A]]
  refine rP 1 [] mn ?_
  refine RK G<|an ?_
  refine LX hQ (none,0) [0] [] mn U U U ?_ ?_
  ·first|rfl|(rw [hes]; rfl)|(rw [← hes,A]; rfl)
  ·trivial
 refine WK E<|WS fun _ H=>sN U xM U fun J=>rP 1 [] mn ?_
 refine dM (es:=(List.map bk.cells [])) (C':=[own (some ⟨J,0,none⟩) 0 45 7 (List.map bk.cells []),_]) 0 U sm U (by simp [maxLen]) U ?_
 refine db (es2:=es) (m':=es.length) 0 U U U Ub U U sm (aD 1 U) hone (by simp; omega) (by simp [maxLen]; omega) sm U U fun AA K=>?_
 try dsimp only
 refine rP 1 [] mn ?_
 refine RK H<|an ?_
 refine LX hQ (AA,K) [0] [] mn U U U ?_ ?_
 ·first|rfl|(rw [hes]; rfl)|(rw [← hes,A]; rfl)
 ·trivial
theorem IV (es:List (List Value)) (lA:OA) (n lC:Nat) (hlen:n≤1000000) (hes:es.length=n) (hone: ∀ v∈es.flatten,v.oneCell'=true):
 lv Tryz.prog 91 [(vS lA n lC)] [(rd lA n 1 es)] (fun (x:(OA)×Nat)=>(vS x.1 n x.2)) (fun (x:(OA)×Nat)=>True) (fun (x:(OA)×Nat)=>[(own x.1 x.2 46 1 es)]):=by
 refine dj kr Tryz.func91 U U fun L Q hQ hN=>?_
 try dsimp only
 refine WS fun _ D=>bf 1 U<|RK D<|ah fun _ E=>WS fun _ F=>rP 1 [] mn ?_
 refine rS (BI U (qD Ro))<|RK F<|cy U (aL fun B=>?_) (aM fun B=>?_)
 ·refine WS fun _ G=>ml (aD 0 U) B dc fun C=>?_
  have A:es=[]:=C
  refine dH 46 1 ?_
  rw [show (own none 0 46 1 ([]:List (List Value)))=own none 0 46 1 es from by rw [A]]
  refine rP 1 [] mn ?_
  refine RK G<|an ?_
  refine LX hQ (none,0) [0] [] mn U U U ?_ ?_
  ·first|rfl|(rw [hes]; rfl)|(rw [← hes,A]; rfl)
  ·trivial
 refine WK E<|WS fun _ H=>sN U ry U fun J=>rP 1 [] mn ?_
 refine dM (es:=(List.map sC [])) (C':=[own (some ⟨J,0,none⟩) 0 46 1 (List.map sC []),_]) 0 U sm U (by simp [maxLen]) U ?_
 refine db (es2:=es) (m':=es.length) 0 U U U Vs U U sm (aD 1 U) hone (by simp; omega) (by simp [maxLen]; omega) sm U U fun AA K=>?_
 try dsimp only
 refine rP 1 [] mn ?_
 refine RK H<|an ?_
 refine LX hQ (AA,K) [0] [] mn U U U ?_ ?_
 ·first|rfl|(rw [hes]; rfl)|(rw [← hes,A]; rfl)
 ·trivial
end
end Go.Proofs.YtadjgjnicdcjbaaGreatDoor
