/-
 The statement juryLater_said, part 7 of 9: Rc3, Rc4, Rs1, S2, Rs2, Rs3, Rs4, Rt2, Jw6, Jw7, Jw8, Jw9, Jwa, Jwb, B7, B8, Rr2, Jr1, B9, Rr1, Clear, Ways.
 Conditions: none.
-/
import Derived.Test.YtijpnoadncadoaaGreatDoorTw1
import Derived.Test.YtijpnoadncadoaaGreatDoorTw2
import Derived.Test.YtijpnoadncadoaaGreatDoorTw3
import Derived.Test.YtijpnoadncadoaaGreatDoorTw4
import Derived.Test.YtijpnoadncadoaaGreatDoorTw5
import Derived.Test.YtijpnoadncadoaaGreatDoorTw6
namespace Go.Proofs.YtijpnoadncadoaaGreatDoor
set_option maxRecDepth 100000
set_option maxHeartbeats 4000000
set_option linter.unusedVariables false
section
open Go.RowKit
theorem yc (d:ao) (sgA:OA) (sgC g1:Nat):
 dN Tryz.prog 148 [(vS gK 3 3),(Value.func (.func 149) [].toArray [(vP g1)].toArray)] [(rd gK 3 2 fK),(rd sgA d.aZ.aa.length 2 (d.aZ.aa.map aH.cells)),(cv g1 58 (aP.cells (aP.mk d.Out d.cY d.Time (jI d.aZ sgA sgC))))] (vI (pz d)):=by
 refine bH kr Tryz.func148 U U fun b Q hQ hN=>?_
 try dsimp only
 refine WS fun _ F=>bG 1 U<|RK F<|aq fun _ AA=>WS fun _ G=>bG 3 U<|RK G<|aG<|rl 4<|lH fun R4 Z=>WS fun _ H=>rS (SX (gL (r:= .bool true) U U U qU) U U)<|RK H<|aq fun _ AB=>aU U<|WK AB<|aq fun _ J=>aG<|WS fun _ K=>bG 2 U<|RK K<|WS fun _ L=>rP 3 [] mn ?_
 refine rS (IA 0 U (aF 0 U) Ja dc U I)<|rS (mq 0 0 (nO.cells (nO.mk (Value.func (.func 205) [].toArray [].toArray) (Value.func (.func 206) [].toArray [].toArray))) U cf (aF 0 U) (show fK[0]? =some [(Value.func (.func 205) [].toArray [].toArray),(Value.func (.func 206) [].toArray [].toArray)] from U) U dc U U)<|rS (CL (IY d sgA sgC g1) (bq [1,2]) U)<|RK L<|cG U (fun X=>?_) (fun X=>?_)
 ·refine WS fun _ M=>rP 2 [] mn ?_
  refine RK M<|av<|Q1 hQ U U U ?_
  clear hQ hN M L K J AB H G AA F
  refine cI ?_
  simp [pz, *]
 refine cx<|aO<|KK J<|ay<|rS (SX (gL (r:= .int .i64 1) U U U (oZ ⟨dc,dc⟩)) U U)<|bG 1 U<|RK Z<|lH fun R12 W=>WS fun _ A=>rS (SX (gL (r:= .bool true) U U U qU) U U)<|RK A<|aq fun _ B=>aU U<|WK B<|aq fun _ C=>aG<|WS fun _ D=>bG 2 U<|RK D<|WS fun _ E=>rP 3 [] mn ?_
 refine rS (IA 1 U (aF 0 U) Ja dc U I)<|rS (mq 1 0 (nO.cells (nO.mk (Value.func (.func 208) [].toArray [].toArray) (Value.func (.func 209) [].toArray [].toArray))) U cf (aF 0 U) (show fK[1]? =some [(Value.func (.func 208) [].toArray [].toArray),(Value.func (.func 209) [].toArray [].toArray)] from U) U dc U U)<|rS (CL (HS d sgA sgC g1) (bq [1,2]) U)<|RK E<|cG U (fun Y=>?_) (fun Y=>?_)
 ·refine WS fun _ N=>rP 2 [] mn ?_
  refine RK N<|av<|Q1 hQ U U U ?_
  clear hQ hN N E D C B A L K J AB H G AA F
  refine cI ?_
  simp [pz, *]
 refine cx<|aO<|KK C<|ay<|rS (SX (gL (r:= .int .i64 2) U U U (oZ ⟨dc,dc⟩)) U U)<|bG 1 U<|RK W<|lH fun R20 a=>WS fun _ O=>rS (SX (gL (r:= .bool true) U U U qU) U U)<|RK O<|aq fun _ P=>aU U<|WK P<|aq fun _ V=>aG<|WS fun _ R=>bG 2 U<|RK R<|WS fun _ S=>bG 3 U<|rS (IA 2 U (aF 0 U) Ja dc U I)<|rS (mq 2 0 (nO.cells (nO.mk (Value.func (.func 211) [].toArray [].toArray) (Value.func (.func 212) [].toArray [].toArray))) U cf (aF 0 U) (show fK[2]? =some [(Value.func (.func 211) [].toArray [].toArray),(Value.func (.func 212) [].toArray [].toArray)] from U) U dc U U)<|rS (CL (IE d sgA sgC g1) (bq [1,2]) U)<|RK S<|aU U<|WS fun _ T=>rP 2 [] mn ?_
 refine RK T<|av<|Q1 hQ U U U ?_
 clear hQ hN T S R V P O E D C B A L K J AB H G AA F
 refine cI ?_
 simp [pz, *]
end
section
open Go.RowKit
theorem UQ (d:ao) (sgA:OA) (sgC g1:Nat) (hk:d.Out=true):
 dN Tryz.prog 148 [(vS gK 3 3),(Value.func (.func 149) [].toArray [(vP g1)].toArray)] [(rd gK 3 2 fK),(rd sgA d.aZ.aa.length 2 (d.aZ.aa.map aH.cells)),(cv g1 58 (aP.cells (aP.mk d.Out d.cY d.Time (jI d.aZ sgA sgC))))] (vI 0):=by
 have h:=yc d sgA sgC g1
 have e:pz d=0:=by simp [pz,hk]
 rw [e] at h
 exact h
theorem Ur (d:ao) (sgA:OA) (sgC g1:Nat) (hk:d.Out=false∧d.cY=true):
 dN Tryz.prog 148 [(vS gK 3 3),(Value.func (.func 149) [].toArray [(vP g1)].toArray)] [(rd gK 3 2 fK),(rd sgA d.aZ.aa.length 2 (d.aZ.aa.map aH.cells)),(cv g1 58 (aP.cells (aP.mk d.Out d.cY d.Time (jI d.aZ sgA sgC))))] (vI 1):=by
 have h:=yc d sgA sgC g1
 have e:pz d=1:=by simp [pz,hk]
 rw [e] at h
 exact h
theorem T2 (d:ao) (sgA:OA) (sgC g1:Nat) (hk:d.Out=false∧d.cY=false):
 dN Tryz.prog 148 [(vS gK 3 3),(Value.func (.func 149) [].toArray [(vP g1)].toArray)] [(rd gK 3 2 fK),(rd sgA d.aZ.aa.length 2 (d.aZ.aa.map aH.cells)),(cv g1 58 (aP.cells (aP.mk d.Out d.cY d.Time (jI d.aZ sgA sgC))))] (vI 2):=by
 have h:=yc d sgA sgC g1
 have e:pz d=2:=by simp [pz,hk]
 rw [e] at h
 exact h
theorem Dj (l:bg) (kA:OA) (kC:Nat) (az:List RA) (cA:OA) (cC:Nat) (bA:OA) (bC:Nat) (d:ao) (sgA:OA) (sgC:Nat) (hin:ep l az) (hsl:d.aZ.aa.length≤1000000) (hk:d.Out=true):
 dN Tryz.prog 127 [(vA (cw.cells (kj l kA kC cA cC bA bC))),(vA (aP.cells (aP.mk d.Out d.cY d.Time (jI d.aZ sgA sgC))))] [(rd gK 3 2 fK),(rd kA l.aR.length 9 (l.aR.map ar.cells)),(rd cA l.aj.length 2 (List.zipWith ax.cells l.aj az)),(dV (a_ ax.gG l.aj az)),(rd bA l.ab.length 4 (l.ab.map bJ.cells)),(rd sgA d.aZ.aa.length 2 (d.aZ.aa.map aH.cells))] (vT [(vA (ag.cells (gr l d))),(vB (decide (iW l d)))]):=by
 refine bH kr Tryz.func127 U U fun AA Q hQ hN=>?_
 try dsimp only
 refine WS fun _ A=>eT U fun G=>eT U fun D=>AL U ej fun H=>bG 1 U<|RK A<|WS fun _ B=>rS (SX (E2 U U zR) U U)<|rS (FU U)<|rS (CL (UQ d sgA sgC D hk) (Rs 3 8 1 U U U U U U) U)<|bG 1 U<|RK B<|aq fun _ C=>dy cy 9 kr<|lP 1 U<|dS (SX (EM (k:=0) U U U zR U I) U U)<|dS (nv ((0*2)+1) U (aF 3 U) (Nat.mul_pos I dc) eP U)<|dS (hP 0 1 (Value.func (.func 206) [].toArray [].toArray) U cf (aF 3 U) (show fK[0]? =some [(Value.func (.func 205) [].toArray [].toArray),(Value.func (.func 206) [].toArray [].toArray)] from U) U dc U)<|mz 2 [0,1] (mc 2 U (mc 1 U mn)) U<|dS (CL (Pb l kA kC az cA cC bA bC d sgA sgC hin) (bq [4,5,6,7,8]) U)<|lP 2 U<|cO<|gl U c_ U<|rP 1 [] mn ?_
 refine RK C<|av<|nE hQ [0] (mc 0 U mn) U ?_
 have E:=Gg (l:=l) hk
 have F:=m_ (l:=l) hk
 simp only [E,F]
theorem DL (l:bg) (kA:OA) (kC:Nat) (az:List RA) (cA:OA) (cC:Nat) (bA:OA) (bC:Nat) (d:ao) (sgA:OA) (sgC:Nat) (hin:ep l az) (hsl:d.aZ.aa.length≤1000000) (hk:d.Out=false∧d.cY=true):
 dN Tryz.prog 127 [(vA (cw.cells (kj l kA kC cA cC bA bC))),(vA (aP.cells (aP.mk d.Out d.cY d.Time (jI d.aZ sgA sgC))))] [(rd gK 3 2 fK),(rd kA l.aR.length 9 (l.aR.map ar.cells)),(rd cA l.aj.length 2 (List.zipWith ax.cells l.aj az)),(dV (a_ ax.gG l.aj az)),(rd bA l.ab.length 4 (l.ab.map bJ.cells)),(rd sgA d.aZ.aa.length 2 (d.aZ.aa.map aH.cells))] (vT [(vA (ag.cells (gr l d))),(vB (decide (iW l d)))]):=by
 refine bH kr Tryz.func127 U U fun AA Q hQ hN=>?_
 try dsimp only
 refine WS fun _ A=>eT U fun G=>eT U fun D=>AL U ej fun H=>bG 1 U<|RK A<|WS fun _ B=>rS (SX (E2 U U zR) U U)<|rS (FU U)<|rS (CL (Ur d sgA sgC D hk) (Rs 3 8 1 U U U U U U) U)<|bG 1 U<|RK B<|aq fun _ C=>dy cy 9 kr<|lP 1 U<|dS (SX (EM (k:=1) U U U zR U I) U U)<|dS (nv ((1*2)+1) U (aF 3 U) (Nat.mul_pos I dc) eP U)<|dS (hP 1 1 (Value.func (.func 209) [].toArray [].toArray) U cf (aF 3 U) (show fK[1]? =some [(Value.func (.func 208) [].toArray [].toArray),(Value.func (.func 209) [].toArray [].toArray)] from U) U dc U)<|mz 2 [0,1] (mc 2 U (mc 1 U mn)) U<|dS (CL (O5 l kA kC az cA cC bA bC d sgA sgC hin) (bq [4,5,6,7,8]) U)<|lP 2 U<|cO<|gl U c_ U<|rP 1 [] mn ?_
 refine RK C<|av<|nE hQ [0] (mc 0 U mn) U ?_
 have E:=GX (l:=l) hk
 have F:=ow (l:=l) hk
 simp only [E,F]
theorem DS (l:bg) (kA:OA) (kC:Nat) (az:List RA) (cA:OA) (cC:Nat) (bA:OA) (bC:Nat) (d:ao) (sgA:OA) (sgC:Nat) (hin:ep l az) (hsl:d.aZ.aa.length≤1000000) (hk:d.Out=false∧d.cY=false):
 dN Tryz.prog 127 [(vA (cw.cells (kj l kA kC cA cC bA bC))),(vA (aP.cells (aP.mk d.Out d.cY d.Time (jI d.aZ sgA sgC))))] [(rd gK 3 2 fK),(rd kA l.aR.length 9 (l.aR.map ar.cells)),(rd cA l.aj.length 2 (List.zipWith ax.cells l.aj az)),(dV (a_ ax.gG l.aj az)),(rd bA l.ab.length 4 (l.ab.map bJ.cells)),(rd sgA d.aZ.aa.length 2 (d.aZ.aa.map aH.cells))] (vT [(vA (ag.cells (gr l d))),(vB (decide (iW l d)))]):=by
 refine bH kr Tryz.func127 U U fun AA Q hQ hN=>?_
 try dsimp only
 refine WS fun _ A=>eT U fun G=>eT U fun D=>AL U ej fun H=>bG 1 U<|RK A<|WS fun _ B=>rS (SX (E2 U U zR) U U)<|rS (FU U)<|rS (CL (T2 d sgA sgC D hk) (Rs 3 8 1 U U U U U U) U)<|bG 1 U<|RK B<|aq fun _ C=>dy cy 9 kr<|lP 1 U<|dS (SX (EM (k:=2) U U U zR U I) U U)<|dS (nv ((2*2)+1) U (aF 3 U) (Nat.mul_pos I dc) eP U)<|dS (hP 2 1 (Value.func (.func 212) [].toArray [].toArray) U cf (aF 3 U) (show fK[2]? =some [(Value.func (.func 211) [].toArray [].toArray),(Value.func (.func 212) [].toArray [].toArray)] from U) U dc U)<|mz 2 [0,1] (mc 2 U (mc 1 U mn)) U<|dS (CL (OO l kA kC az cA cC bA bC d sgA sgC hin hsl) (bq [4,5,6,7,8]) U)<|lP 2 U<|cO<|gl U c_ U<|rP 1 [] mn ?_
 refine RK C<|av<|nE hQ [0] (mc 0 U mn) U ?_
 have E:=GW (l:=l) hk
 have F:=kF (l:=l) hk
 simp only [E,F]
theorem Ep (l:bg) (kA:OA) (kC:Nat) (az:List RA) (cA:OA) (cC:Nat) (bA:OA) (bC:Nat) (d:ao) (sgA:OA) (sgC:Nat) (hin:ep l az) (hsl:d.aZ.aa.length≤1000000):
 dN Tryz.prog 127 [(vA (cw.cells (kj l kA kC cA cC bA bC))),(vA (aP.cells (aP.mk d.Out d.cY d.Time (jI d.aZ sgA sgC))))] [(rd gK 3 2 fK),(rd kA l.aR.length 9 (l.aR.map ar.cells)),(rd cA l.aj.length 2 (List.zipWith ax.cells l.aj az)),(dV (a_ ax.gG l.aj az)),(rd bA l.ab.length 4 (l.ab.map bJ.cells)),(rd sgA d.aZ.aa.length 2 (d.aZ.aa.map aH.cells))] (vT [(vA (ag.cells (gr l d))),(vB (decide (iW l d)))]):=by
 by_cases ho:d.Out=true
 ·exact Dj l kA kC az cA cC bA bC d sgA sgC hin hsl ho
 by_cases hf:d.cY=true
 ·exact DL l kA kC az cA cC bA bC d sgA sgC hin hsl ⟨by simpa using ho,hf⟩
 ·exact DS l kA kC az cA cC bA bC d sgA sgC hin hsl ⟨by simpa using ho,by simpa using hf⟩
end
section
open Go.RowKit
theorem Jw (lA:OA) (lN lC:Nat):
 qB Tryz.prog 125 [(vS lA lN lC)] [] (fun (x:Nat)=>(Value.func (.func 146) [].toArray [(vP x)].toArray)) (fun (x:Nat)=>True) (fun (x:Nat)=>[(cv x 29 [(vS lA lN lC)])]):=by
 refine fO kr Tryz.func125 U U fun D Q hQ hN=>?_
 try dsimp only
 refine WS fun _ A=>xV U U fun C=>bG 1 U<|RK A<|WS fun _ B=>rS (FU U)<|rP 1 [] mn ?_
 refine RK B<|av<|LX hQ C [0] [] mn U U U U ?_
 trivial
theorem K3 (nl:List Int) (nlA:OA) (nlC g1:Nat) (hlen:nl.length≤12):
 Nt Tryz.prog 146 [] [(vP g1)] [(rd nlA nl.length 1 (nl.map iC)),(cv g1 29 [(vS nlA nl.length nlC)])] (rU nl):=by
 refine Gz kr Tryz.func146 U U fun l J Z A0 T Q hY K AB hQ hN=>?_
 try dsimp only
 refine WS fun _ M=>rP 3 [] (mr 2 U mn) ?_
 refine RK M<|aG ?_
 have F:(0≤nl.length)∧(J 0 A0)∧(Fo A0 T A0):=by exact ⟨Nat.zero_le _,K,AB⟩
 refine bS (ι:={z:Nat×aB // (z.1≤nl.length)∧(J z.1 z.2)∧(Fo A0 T z.2)}) [0,1,5,6] [1] U U (fun z=>[(7,(vI (z.1.1:Int)))]) (fun z=>[z.1.2]) (fun _=>rfl) (fun _=>rfl) (fun z=>nl.length-z.1.1) ⟨(0,A0),F⟩ (bw U) (aS [1,0]) ?_
 clear F
 rintro ⟨⟨i,A⟩,⟨G,B,C⟩⟩ J2 L
 try dsimp only at G B C
 try dsimp only
 refine WS fun _ N=>rP 1 [] mn ?_
 refine RK N<|aq fun _ O=>bV U (aW fun AA=>?_) (aV fun AA=>?_)
 ·refine bL<|ai<|ai<|aI ?_
  refine hN _ _ _ (kp (vs:=[]) trivial fun w hs=>TH 1 U (by rw [ve]; have e:nl.length=i:=I; rw [e]; exact B) C hs)
 refine WK O<|aq fun _ P=>aG<|WS fun _ R=>?_
 obtain ⟨x,hx⟩:=aM nl i I
 have S:=bQ iC hx
 refine rS (IA i U (aF 0 U) dJ dc I I)<|rS (hP i 0 (vI x) U cf (aF 0 U) S U dc U)<|bG 1 U<|RK R<|WS fun _ H=>rP 2 [] mn ?_
 refine FQ 1 hY B C U U U (I1 hx) U U (fun B9 E D=>?_) (fun B9 E D=>?_)
 rotate_left 1
 ·refine rP 1 [] mn ?_
  refine RK H<|aU U<|av ?_
  refine hQ _ _ _ (kp (vs:=[]) trivial fun w hs=>Pz 1 U E D hs)
 refine bG 1 U<|RK H<|ct U<|cx<|aO<|KK P<|ay<|rP 2 [] mn ?_
 refine aJ ?_
 refine bj (L ⟨((i+1),B9),⟨I,E,D⟩⟩ _ _ _ U os (bw U) (aS [0,1]))
end
section
open Go.RowKit
theorem Nu (x:Int):
 dN Tryz.prog 184 [(vI x)] [] (vB false):=by
 refine bH kr Tryz.func184 U U fun C Q hQ hN=>?_
 try dsimp only
 refine WS fun _ A=>bG 1 U<|RK A<|WS fun _ B=>rP 4 [] mn ?_
 refine RK B<|av<|Q1 hQ U U U ?_
 simp
theorem NW (x y:Int):
 dN Tryz.prog 171 [(vI x),(vI y)] [] (vB (decide (x<y))):=by
 refine bH kr Tryz.func171 U U fun C Q hQ hN=>?_
 try dsimp only
 refine WS fun _ A=>bG 1 U<|RK A<|WS fun _ B=>bG 1 U<|rS (CL (Nu x) (aN) U)<|rP 11 [] mn ?_
 refine RK B<|av<|Q1 hQ U U U ?_
 exact cB (g5.2 I)
theorem H6 (l:List Int) (lA:OA) (lC:Nat) (hlen:l.length≤1000000):
 Nb Tryz.prog 165 [(vS lA l.length lC),(vI 0),(vI (l.length:Int))] [] (own lA lC 3 1 (l.map iC)) (fun (x:(List Int))=>(vT [])) (fun (x:(List Int))=>x.Perm l∧x.Pairwise (· ≤ ·)) (fun (x:(List Int))=>(own lA lC 3 1 (x.map iC))):=by
 refine wh kr Tryz.func165 U U fun g Q hQ hN=>?_
 try dsimp only
 refine WS fun _ X=>bG 1 U<|rS (SX (gL (r:= .int .i64 1) U U U (oZ ⟨dc,dc⟩)) U U)<|rP 1 [] mn ?_
 refine RK X<|aG ?_
 have A:(1≤1∧(1≤l.length∨1=1))∧(l.length=l.length)∧(l.Perm l)∧(Rd l 1):=by exact ⟨I,rfl,List.Perm.refl _,Oi⟩
 refine bS (ι:={z:Nat×(List Int) // (1≤z.1∧(z.1≤l.length∨z.1=1))∧(z.2.length=l.length)∧(z.2.Perm l)∧(Rd z.2 z.1)}) [0,1,2] [] U U (fun z=>[(6,(vI (z.1.1:Int)))]) (fun z=>[(own lA lC 3 1 (z.1.2.map iC))]) (fun _=>rfl) (fun _=>rfl) (fun z=>l.length-z.1.1) ⟨(1,l),A⟩ (bw U) (aS [0]) ?_
 clear A
 rintro ⟨⟨i,m⟩,⟨K,AB,E,F⟩⟩ J2 M
 try dsimp only at K AB E F
 try dsimp only
 refine aq fun _ Y=>WS fun _ Z=>rP 3 [] mn ?_
 refine RK Z<|bV U (aW fun e=>?_) (aV fun e=>?_)
 ·refine bL<|ai<|ai<|aI<|LM hN m 0 [] mn U U U U ?_
  exact ⟨E,Nw F I⟩
 refine WK Y<|aq fun _ O=>aG<|WS fun _ b=>rP 2 [] mn ?_
 refine RK b<|aG ?_
 have A:(i≤i)∧(m.length=l.length)∧(m.Perm l)∧(QF m i i):=by exact ⟨Nat.le_refl _,AB,E,Hf F I⟩
 refine bS (ι:={z:Nat×(List Int) // (z.1≤i)∧(z.2.length=l.length)∧(z.2.Perm l)∧(QF z.2 i z.1)}) [0,1,2,6] [] U U (fun z=>[(7,(vI (z.1.1:Int)))]) (fun z=>[(own lA lC 3 1 (z.1.2.map iC))]) (fun _=>rfl) (fun _=>rfl) (fun z=>z.1.1) ⟨(i,m),A⟩ (bw U) (aS [0]) ?_
 clear A
 rintro ⟨⟨j,q⟩,⟨G,B,C,D⟩⟩ J8 W
 try dsimp only at G B C D
 try dsimp only
 refine aq fun _ c=>aq fun _ J=>dy cy 15 kr<|dP 4 [] mn ?_
 refine j0 (t:=19) U (aW fun hj=>?_) (aV fun hj=>?_)
 ·refine lP 11 U<|cO<|RK J<|ct U<|bL<|ai<|ai<|aI<|aO<|KK O<|ay<|rP 3 [] mn ?_
  refine aJ ?_
  refine bj (M ⟨((i+1),q),⟨I,B,C,by exact JK I D⟩⟩ _ _ _ U (by simp only []; omega) (bw U) (aS [0]))
 refine dP 2 [] mn ?_
 obtain ⟨x,hx⟩:=aM q j I
 have L:=bQ iC hx
 refine dS (IA j U (au (n:=l.length) 0 U sq) dJ dc I I) ?_
 refine dS (hP j 0 (vI x) U cf (au (n:=q.length) 0 U sm) L U dc U)<|dP 3 [] mn ?_
 obtain ⟨y,hy⟩:=aM q (j-1) I
 have V:=bQ iC hy
 refine dS (IA (j-1) U (au (n:=l.length) 0 U sq) dJ dc I I) ?_
 refine dS (hP (j-1) 0 (vI y) U cf (au (n:=q.length) 0 U sm) V U dc U)<|dS (CL (NW x y) (aN) U)<|dP 1 [] mn ?_
 refine cO<|RK J<|bV U (aW fun H=>?_) (aV fun H=>?_)
 ·refine bL<|ai<|ai<|aI<|aO<|KK O<|ay<|rP 3 [] mn ?_
  refine aJ ?_
  refine bj (M ⟨((i+1),q),⟨I,B,C,by exact Md hx hy I G H D⟩⟩ _ _ _ U (by simp only []; omega) (bw U) (aS [0]))
 refine WK c<|aq fun _ N=>aG<|dT cy [15,16,17] [8,9,12,13,14] [] [] [0] U U U U U<|eS U (MV U)<|eS U (MV U)<|eS U (MV U)<|eS U (MV U)<|eS U (BI U (x_ ⟨I,I⟩))<|eS U (MV U)<|eS U (MV U)<|eS U (BI U (x_ ⟨I,I⟩)) ?_
 refine fS U (IA (j-1) U (au (n:=l.length) 0 U sq) dJ dc I I) ?_
 refine fS U (hP (j-1) 0 (vI y) U cf (au (n:=q.length) 0 U sm) V U dc U)<|eS U (MV U)<|eS U (MV U) ?_
 refine fS U (IA j U (au (n:=l.length) 0 U sq) dJ dc I I) ?_
 refine fS U (hP j 0 (vI x) U cf (au (n:=q.length) 0 U sm) L U dc U) ?_
 refine fS U (IA j U (au (n:=l.length) 0 U sq) dJ dc I I) ?_
 refine eN U<|cm U fun T12 P=>eE (k:=j) (o:=0) (vs:=[(vI y)]) (es':=(List.map iC (q.set j y))) (C':=[(own lA lC 3 1 (List.map iC (q.set j y)))]) 0 U U U zM U U U U L U dc (by exact (List.map_set (f:=iC) (l:=q) (i:=j) (a:=y)).symm) U<|aJ (P _ _ (aS []) ?_)
 refine cm U fun T13 R=>?_
 obtain ⟨d,AA⟩:=aM (q.set j y) (j-1) os
 have hx15m:(List.map iC (q.set j y))[(j-1)]? =some (iC d):=by rw [dL,AA]; rfl
 refine rS (IA (j-1) U (au (n:=l.length) 0 U sq) dJ dc I I) ?_
 refine aJ (R _ _ (aS []) ?_)
 refine cm U fun T16 S=>eE (k:=(j-1)) (o:=0) (vs:=[(vI x)]) (es':=(List.map iC ((q.set j y).set (j-1) x))) (C':=[(own lA lC 3 1 (List.map iC ((q.set j y).set (j-1) x)))]) 0 U U U zM U U U U hx15m U dc (by exact (List.map_set (f:=iC) (l:=(q.set j y)) (i:=(j-1)) (a:=x)).symm) U<|aJ (S _ _ (aS []) ?_)
 refine f_ U<|aO<|KK N<|ay<|rP 3 [] mn ?_
 refine aJ ?_
 have T:(vI (((j-1):Nat):Int))=(vI ((j:Int)-1)):=by exact cI I
 refine bj (W ⟨((j-1),((q.set j y).set (j-1) x)),⟨I,by simp; exact B,(I5 hx hy).trans C,MS hx hy I G H D⟩⟩ _ _ _ U (by simp only []; omega) (cQ 4<|bk U T<|dx.nil _) (aS [0]))
theorem Nn (x:Int) (hx:0≤x∧x≤100):
 qB Tryz.prog 175 [(Value.int .u64 x)] [] (fun (x:Int)=>(vI x)) (fun (x:Int)=>True) (fun (x:Int)=>[]):=by
 refine fO kr Tryz.func175 U U fun N Q hQ hN=>?_
 try dsimp only
 refine WS fun _ D=>bG 1 U<|RK D<|aq fun _ E=>WS fun _ F=>rP 1 [] mn ?_
 refine rS (BI U GZ)<|RK F<|cG U (aV fun L=>?_) (aW fun L=>?_)
 ·exfalso; omega
 refine WK E<|aq fun _ G=>WS fun _ H=>rP 1 [] mn ?_
 refine rS (BI U GZ)<|RK H<|cG U (aV fun M=>?_) (aW fun M=>?_)
 ·exfalso; omega
 refine WK G<|aq fun _ AA=>WS fun _ J=>rP 1 [] mn ?_
 refine rS (BI U GZ)<|RK J<|cG U (aV fun C=>?_) (aW fun C=>?_)
 ·exfalso; omega
 refine WK AA<|WS fun _ B=>bG 2 U<|rS (SX (qo (m:=x) U U SP Sg (Cj (by first|assumption|omega))) U U)<|Rh (k:=(x).toNat) U U U XK I (Nat.lt_of_lt_of_le (m:=200) I (of_decide_eq_true kr)) U fun A K=>rS (SX (qo (m:=A) U U Sg um (pf (by first|assumption|omega))) U U)<|rP 2 [] mn ?_
 refine RK B<|av<|LX hQ (0+A) [] [] mn U U U U ?_
 trivial
theorem QR (x:Int) (hx:0≤x∧x≤100):
 qB Tryz.prog 159 [(Value.int .u64 x)] [] (fun (x:Int)=>(vI x)) (fun (x:Int)=>True) (fun (x:Int)=>[]):=by
 refine fO kr Tryz.func159 U U fun F Q hQ hN=>?_
 try dsimp only
 refine WS fun _ A=>bG 1 U<|RK A<|aq fun _ B=>ct U<|WK B<|WS fun _ C=>rP 1 [] mn ?_
 refine cX (Nn x hx) (aN) U fun E D=>?_
 try dsimp only
 refine rP 1 [] mn ?_
 refine RK C<|av<|LX hQ E [] [] mn U U U U ?_
 trivial
theorem SZ (l:List Int) (lA:OA) (lC:Nat) (u:Int) (hlen:l.length≤12):
 Nb Tryz.prog 158 [(vS lA l.length lC),(vI 0),(vI (l.length:Int)),(vI u)] [] (own lA lC 3 1 (l.map iC)) (fun (x:(List Int))=>(vT [])) (fun (x:(List Int))=>x.Perm l∧x.Pairwise (· ≤ ·)) (fun (x:(List Int))=>(own lA lC 3 1 (x.map iC))):=by
 refine wh kr Tryz.func158 U U fun K Q hQ hN=>?_
 try dsimp only
 refine WS fun _ A=>bG 1 U<|RK A<|WS fun _ B=>bG 1 U<|RK B<|aG<|rl 1<|lH fun R3 AA=>aG<|WS fun _ C=>bG 4 U<|RK C<|aq fun _ H=>WS fun _ D=>rP 2 [] mn ?_
 refine RK D<|bV U (aW fun G=>?_) (aV fun G=>?_)
 ·exfalso; omega
 refine WS fun _ E=>rP 3 [] mn ?_
 refine ph 0 U U U U (H6 l lA lC I) U rh U (fun J F=>?_)
 try dsimp only
 refine RK E<|av<|LM hQ J 0 [] mn U U U U ?_
 assumption
theorem Q7 (l:List Int) (lA:OA) (lC:Nat) (hlen:l.length≤12):
 Nb Tryz.prog 145 [(vS lA l.length lC)] [] (own lA lC 3 1 (l.map iC)) (fun (x:(List Int))=>(vT [])) (fun (x:(List Int))=>x.Perm l∧x.Pairwise (· ≤ ·)) (fun (x:(List Int))=>(own lA lC 3 1 (x.map iC))):=by
 refine wh kr Tryz.func145 U U fun F Q hQ hN=>?_
 try dsimp only
 refine WS fun _ A=>bG 3 U<|RK A<|ay<|rP 3 [] mn ?_
 refine rS (SX (qo (m:=(l.length:Int)) U U um SY (BJ (by first|assumption|omega))) U U)<|cX (QR (l.length:Int) I) (aN) U fun E B=>?_
 try dsimp only
 refine ph 0 U U U U (SZ l lA lC E hlen) U rh U (fun D C=>?_)
 try dsimp only
 refine aJ<|LM hN D 0 [] mn U U U U ?_
 assumption
end
section
open Go.RowKit
theorem L_ (nl:List Int) (nlA:OA) (nlC g1:Nat) (hlen:nl.length≤12):
 qB Tryz.prog 157 [(vS none 0 0),(Value.func (.func 146) [].toArray [(vP g1)].toArray)] [(rd nlA nl.length 1 (nl.map iC)),(cv g1 29 [(vS nlA nl.length nlC)])] (fun (x:(OA)×Nat)=>(vS x.1 nl.length x.2)) (fun (x:(OA)×Nat)=>True) (fun (x:(OA)×Nat)=>[(own x.1 x.2 3 1 (nl.map iC))]):=by
 refine fO kr Tryz.func157 U U fun R Q hQ hN=>?_
 try dsimp only
 refine WS fun _ D=>xV U U fun J=>bG 1 U<|RK D<|aq fun _ E=>WS fun _ G=>rP 1 [] mn ?_
 refine RK G<|aG<|jK 1 U (by exact fun _ h=>h)<|jK 3 U (by exact fun _ h=>h)<|e9 3 1 ?_
 refine GC (L0:=[(2,(vP J))]) (F:=[(rd nlA nl.length 1 (nl.map iC)).ro,(cv g1 29 [(vS nlA nl.length nlC)]).ro]) (xs:=(rU nl)) (fun k (y:(OA)×Nat)=>True) (fun k y=>[(own y.1 y.2 3 1 ((nl.take k).map iC)),(cv J 29 [(vS y.1 ((nl.take k).length) y.2)]),(rd nlA nl.length 1 (nl.map iC)).ro]) (fun _ (_:Unit)=>False) (fun _ _=>[]) [0,3,4] [2,1] (none,0) U U (K3 nl nlA nlC g1 (by first|assumption|omega|(simp; done))) U U U (by trivial) (by simp only [List.forall_mem_cons,List.not_mem_nil,false_imp_iff,implies_true,and_true]; exact ⟨⟨_,sm,(dQ (bY _))⟩,⟨_,sm,(dQ (bY _))⟩⟩) (by exact Ff) U (bw U) ?_ ?_ (fun _ _ _ h=>h.elim) (fun _ _ h=>h.elim)
 rotate_left 1
 ·rintro O ⟨a,c⟩ AA
  try dsimp only
  rw [zE]
  refine aO<|KK E<|WS fun _ A=>rP 2 [] (mc 4 U mn) ?_
  refine RK A<|av<|hQ _ _ _ (sf 0 U U<|kp (vs:=[(vS a nl.length c)]) ⟨U,trivial⟩ fun w hs=>Rz (a,c) [3] ?_ ?_ U U U hs)
  ·rfl
  ·trivial
 rintro k x ⟨a,c⟩ l ra rb S T K5 Qr6 hx K H B L M
 obtain ⟨y,hy,rfl⟩:=G4 hx
 try dsimp only
 refine ay<|rP 1 [] mn ?_
 refine aJ<|bj (H _ _ ?_)
 refine aG<|ay<|rP 2 [] (mc 2 U mn) ?_
 refine eJ (xs:=[.tmp 9]) (cs:=[(vI y)]) U dJ kY U U U U (by simp [Value.cells]) U U fun P=>?_
 refine dR (es2:=(List.map iC (nl.take (k+1)))) (m':=(nl.take (k+1)).length) 2 U U U ti U U sm (br (es:=List.map iC [y]) 0 U U (by simp [bR]) U) (lM _) (by simp; omega) (by simp [maxLen]; omega) (by rw [EB hy]; simp) sm U fun N C=>?_
 try dsimp only
 refine XW U IF U U<|aJ<|aO ?_
 exact B (N,C) _ _ (by trivial) (aS [1,2,3,4])
theorem Hq (nl:List Int) (nlA:OA) (nlC g1:Nat) (hlen:nl.length≤12):
 qB Tryz.prog 144 [(Value.func (.func 146) [].toArray [(vP g1)].toArray)] [(rd nlA nl.length 1 (nl.map iC)),(cv g1 29 [(vS nlA nl.length nlC)])] (fun (x:(OA)×Nat)=>(vS x.1 nl.length x.2)) (fun (x:(OA)×Nat)=>True) (fun (x:(OA)×Nat)=>[(own x.1 x.2 3 1 (nl.map iC))]):=by
 refine fO kr Tryz.func144 U U fun G Q hQ hN=>?_
 try dsimp only
 refine WS fun _ A=>bG 1 U<|RK A<|WS fun _ B=>rP 1 [] mn ?_
 refine cX (L_ nl nlA nlC g1 hlen) (bq [0,1]) U fun F E=>?_
 obtain ⟨C,D⟩:=F
 try dsimp only
 refine rP 1 [] mn ?_
 refine RK B<|av<|LX hQ (C,D) [0] [] mn U U U U ?_
 trivial
theorem Jp (nl:List Int) (nlA:OA) (nlC g1:Nat) (hlen:nl.length≤12):
 qB Tryz.prog 124 [(Value.func (.func 146) [].toArray [(vP g1)].toArray)] [(rd nlA nl.length 1 (nl.map iC)),(cv g1 29 [(vS nlA nl.length nlC)])] (fun (x:(OA)×Nat)=>(vS x.1 nl.length x.2)) (fun (x:(OA)×Nat)=>True) (fun (x:(OA)×Nat)=>[(own x.1 x.2 3 1 ((oJ nl).map iC))]):=by
 refine fO kr Tryz.func124 U U fun J Q hQ hN=>?_
 try dsimp only
 refine WS fun _ B=>bG 1 U<|RK B<|WS fun _ C=>rP 1 [] mn ?_
 refine cX (Hq nl nlA nlC g1 hlen) (bq [0,1]) U fun AA H=>?_
 obtain ⟨F,G⟩:=AA
 try dsimp only
 refine bG 1 U<|RK C<|WS fun _ D=>rP 1 [] mn ?_
 refine ph 0 U U U U (Q7 nl F G hlen) U rh U (fun m A=>?_)
 try dsimp only
 refine RK D<|WS fun _ E=>?_
 obtain rfl:=CW A.1 A.2
 skip
 refine rP 2 [] mn ?_
 refine RK E<|av<|LX hQ (F,G) [0] [] mn U U U U ?_
 trivial
end
section
open Go.RowKit
theorem Kj (r:dY) (kA:OA) (kC:Nat) (az:List RA) (cA:OA) (cC:Nat) (bA:OA) (bC:Nat) (slA:OA) (slC:Nat) (drA:OA) (drC:Nat) (ha:List cN) (heA:OA) (heC:Nat) (tz:List RA) (tA:OA) (tC:Nat) (ms:Value) (gw h:Nat) (gm g1 g2:Nat) (hin:lO r az ha) (htz:tz.length=r.aA.length) (hh:h<r.aA.length) (hok:kT r (h+1)):
 Nb Tryz.prog 150 [(vI (h:Int)),(vP g1),(vP g2)] [(rd kA r.ak.aR.length 9 (r.ak.aR.map ar.cells)),(rd cA r.ak.aj.length 2 (List.zipWith ax.cells r.ak.aj az)),(dV (a_ ax.gG r.ak.aj az)),(rd bA r.ak.ab.length 4 (r.ak.ab.map bJ.cells)),(rd slA r.aY.length 1 (r.aY.map iC)),(rd drA r.b_.length 1 (r.b_.map iC)),(rd heA r.aA.length 1 (List.zipWith cq r.aA ha)),(dV (a_ eV r.aA ha)),(rd tA ((gn r).length) 1 (List.zipWith OK (gn r) tz)),(dV (a_ Sv (gn r) tz)),(cv gw 212 (k8.cells (k8.mk (zH r kA kC cA cC bA bC slA slC drA drC heA heC) (bE.mk tA ((gn r).length) tC) ms))),(cv g1 187 [(vP gw)]),(cv g2 153 [(Value.map (some gm))])] (kQ iV gm (cT kl (eH r.ak r.aA r.aY.length h 0))) (fun (x:Unit)=>(vT [])) (fun (x:Unit)=>True) (fun (x:Unit)=>(kQ iV gm (cT kl (eH r.ak r.aA r.aY.length (h+1) 0)))):=by
 have v:=hin.line
 have A2:=hin.iJ
 have A3:=hin.has
 have AO:=hin.iK
 have AC:=hin.draw
 have AR:=kJ (r:=r)
 refine wh kr Tryz.func150 U U fun w0 Q hQ hN=>?_
 try dsimp only
 refine WS fun _ g=>fD 1 [] (mr 12 U mn) U<|rS (SX (cS U U) U U)<|rP 3 [] (mr 11 U mn) ?_
 obtain ⟨ht,B⟩:=aM r.aA h I
 obtain ⟨A,C⟩:=aM ha h I
 have Z:(List.zipWith cq r.aA ha)[h]? =some (cq ht A):=dH B C
 have s:=hin.gM _ _ _ B C
 have AD:=s.n_
 have N:=hok h ht I B
 obtain ⟨tr,G⟩:=aM (gn r) h I
 obtain ⟨tra,F⟩:=aM tz h I
 have c:(List.zipWith OK (gn r) tz)[h]? =some (OK tr tra):=dH G F
 refine rS (IA h U (aF 9 U) MT dc I I)<|rS (hP h 0 (vS tra.1 tr.length tra.2) U cf (aF 9 U) c U dc U) ?_
 have AB:=Ih B G
 have Ae:tr.length=r.aY.length:=by rw [AB,List.length_map]; exact N.1
 have AY:=N.1
 refine rP 2 [] mn ?_
 refine RK g<|aG ?_
 have E:(0≤r.aY.length):=by exact Nat.zero_le _
 refine bS (ι:={z:Nat // (z≤r.aY.length)}) [0,1,2,14,15] [1,2,3,4,5,6,7,8,9,10,11,12,13] U U (fun z=>[(16,(vI (z.1:Int)))]) (fun z=>[(kQ iV gm (cT kl (eH r.ak r.aA r.aY.length h z.1)))]) (fun _=>rfl) (fun _=>rfl) (fun z=>r.aY.length-z.1) ⟨0,E⟩ (bw U) (aS [1,2,3,4,5,6,7,8,9,10,11,12,13,0]) ?_
 clear E
 rintro ⟨i,u⟩ J2 K
 try dsimp only
 have a:i<r.aY.length→(eH r.ak r.aA r.aY.length h i).lookup (i:Int)=ku r.ak r.aA i h:=Jb
 refine WS fun _ k=>rP 1 [] mn ?_
 refine RK k<|aq fun _ m=>bV U (aW fun h5=>?_) (aV fun h5=>?_)
 ·refine bL<|ai<|ai<|aI ?_
  rw [show (eH r.ak r.aA r.aY.length h i)=(eH r.ak r.aA r.aY.length (h+1) 0) from by rw [show i=r.aY.length by omega]; exact NK]
  refine LM hN () 13 [] mn U U U U ?_
  trivial
 refine WK m<|aq fun _ L=>aG<|WS fun _ n=>rP 1 [] mn ?_
 obtain ⟨x,hx⟩:=aM tr i I
 have y:=bQ ag.cells hx
 refine rS (IA i U (show jC _ (rd tra.1 tr.length 2 (tr.map ag.cells)).holds from (cW 9 U (bT G F (by simp [Sv])))) lU dc I I)<|rS (mq i 0 (ag.cells x) U cf (show jC _ (rd tra.1 tr.length 2 (tr.map ag.cells)).holds from (cW 9 U (bT G F (by simp [Sv])))) y U dc U U)<|AL U ej fun b8=>bG 1 U<|gl U c_ U<|RK n<|WS fun _ o=>fD 2 [] (mr 13 U mn) U<|rS (SX (tR (kV:=iV) (x:=(i:Int)) (l:=(eH r.ak r.aA r.aY.length h i)) (f:=kl) (z:=(ag.mk 0 0)) U U U tx (jg um) WH (by exact aF 14 U)) U U)<|bG 3 U<|AL U ej fun A0=>gl U c_ U<|bG 1 U<|RK o<|aq fun _ P=>WS fun _ H=>fD 1 [] (mr 13 U mn) U<|rS (SX (cS U U) U U)<|fD 4 [] (mr 12 U mn) U<|rS (IA h U (aF 8 U) oQ dc I I)<|rS (hP h 0 (vS A.1.1 ht.length A.1.2) U cf (aF 8 U) Z U dc U)<|rP 1 [] mn ?_
 obtain ⟨d,hd⟩:=aM ht i I
 obtain ⟨da,p⟩:=aM A.2 i I
 have q:(List.zipWith ao.cells ht A.2)[i]? =some (ao.cells d da):=dH hd p
 refine rS (IA i U (show jC _ (rd A.1.1 ht.length 7 (List.zipWith ao.cells ht A.2)).holds from (cW 9 U (bT B C cD))) r8 dc I I)<|rS (nv (i*7) U (show jC _ (rd A.1.1 ht.length 7 (List.zipWith ao.cells ht A.2)).holds from (cW 9 U (bT B C cD))) (Nat.mul_pos I dc) eP U)<|rS (hP i 0 (vB d.Out) U cf (show jC _ (rd A.1.1 ht.length 7 (List.zipWith ao.cells ht A.2)).holds from (cW 9 U (bT B C cD))) q U dc U)<|rP 1 [] mn ?_
 refine cg (t:=39) U (fun J=>?_) (fun J=>?_)
 ·refine bG 3 U<|RK H<|aU U<|WS fun _ R=>rP 2 [] (mr 14 U mn) ?_
  have T:(fH (eH r.ak r.aA r.aY.length h i) (i:Int))=(eH r.ak r.aA r.aY.length h (i+1)):=by exact Gr (by exact Ie B hd J)
  refine ud (kV:=iV) (x:=(i:Int)) (C':=[_,_,_,_,_,_,_,_,_,_,_,_,_,_,_,(kQ iV gm (cT kl (eH r.ak r.aA r.aY.length h (i+1))))]) 15 U U U U tx (jg um) U ((oL _ _ _).symm.trans (congrArg _ T)) U<|RK R<|bL<|ai<|aI<|KK L<|ay<|rP 2 [] mn ?_
  refine aJ ?_
  have AA:(vI (((i+1):Nat):Int))=(vI ((i:Int)+1)):=by exact cI I
  refine bj (K ⟨(i+1),(by first|omega|(simp only []; omega))⟩ _ _ _ U os (cQ 5<|bk U AA<|dx.nil _) (aS [2,3,4,5,6,7,8,9,10,11,12,13,14,15]))
 refine rP 3 [] mn ?_
 refine RK H<|cG U (fun D=>?_) (fun D=>?_)
 ·rw [Bool.not_eq_true'] at D
  refine WS fun _ S=>rP 2 [] (mr 14 U mn) ?_
  have V:(fH (eH r.ak r.aA r.aY.length h i) (i:Int))=(eH r.ak r.aA r.aY.length h (i+1)):=by exact Gr (by exact EV ((a I).symm.trans (Option.not_isSome_iff_eq_none.1 (by rw [D]; decide))))
  refine ud (kV:=iV) (x:=(i:Int)) (C':=[_,_,_,_,_,_,_,_,_,_,_,_,_,_,_,(kQ iV gm (cT kl (eH r.ak r.aA r.aY.length h (i+1))))]) 15 U U U U tx (jg um) U ((oL _ _ _).symm.trans (congrArg _ V)) U<|RK S<|bL<|ai<|aI<|KK L<|ay<|rP 2 [] mn ?_
  refine aJ ?_
  have W:(vI (((i+1):Nat):Int))=(vI ((i:Int)+1)):=by exact cI I
  refine bj (K ⟨(i+1),(by first|omega|(simp only []; omega))⟩ _ _ _ U os (cQ 5<|bk U W<|dx.nil _) (aS [2,3,4,5,6,7,8,9,10,11,12,13,14,15]))
 rw [Bool.not_eq_false'] at D
 refine WK P<|ay ?_
 obtain ⟨O,b⟩:=Option.isSome_iff_exists.1 D
 have M:ku r.ak r.aA i h=some O:=(a I).symm.trans b
 have e:=Q_ AB hx hd
 have A4:=GB (fun j x hj hx=>hok j x I hx) I M
 have w:=Gy (N.2 d (aQ hd))
 rw [← e] at w
 rw [show ((List.lookup (i:Int) (eH r.ak r.aA r.aY.length h i)).getD (ag.mk 0 0))=O from by rw [b]; rfl]
 refine fD 6 [0,1,2] (mr 14 U (mc 0 U (mc 1 U mn))) U<|rS (BI U (ur I I I))<|fD 5 [0,1] (mc 0 U (mc 1 U mn)) U<|rS (BI U (ur I I I))<|rP 1 [] mn ?_
 refine rS (SX (bp (xs:=[(0,.tmp 52),(1,.tmp 58)]) (cs:=(ag.cells (ag.mk (O.Lo+(x.Lo/10)) (O.Hi+(x.Hi/10))))) U U (bo hU U)) U U) ?_
 have X:(eA (eH r.ak r.aA r.aY.length h i) (i:Int) (ag.mk (O.Lo+(x.Lo/10)) (O.Hi+(x.Hi/10))))=(eH r.ak r.aA r.aY.length h (i+1)):=by exact O7 I (by rw [M]; rfl) (by rw [e]; exact Fl B hd (by rw [J]; decide) M)
 refine jt (kV:=iV) (x:=(i:Int)) (C':=[_,_,_,_,_,_,_,_,_,_,_,_,_,_,_,(kQ iV gm (cT kl (eH r.ak r.aA r.aY.length h (i+1))))]) 15 U U U U tx (jg um) U ((g6 _ _ _ _).symm.trans (congrArg _ X)) U<|aJ<|aO<|KK L<|ay<|rP 2 [] mn ?_
 refine aJ ?_
 have Y:(vI (((i+1):Nat):Int))=(vI ((i:Int)+1)):=by exact cI I
 refine bj (K ⟨(i+1),(by first|omega|(simp only []; omega))⟩ _ _ _ U os (cQ 5<|bk U Y<|dx.nil _) (aS [2,3,4,5,6,7,8,9,10,11,12,13,14,15]))
theorem TZ (r:dY) (kA:OA) (kC:Nat) (az:List RA) (cA:OA) (cC:Nat) (bA:OA) (bC:Nat) (slA:OA) (slC:Nat) (drA:OA) (drC:Nat) (ha:List cN) (heA:OA) (heC:Nat) (tz:List RA) (tA:OA) (tC:Nat) (ms:Value) (gw n:Nat) (hin:lO r az ha) (htz:tz.length=r.aA.length) (hn:n≤r.aA.length) (hok:kT r n):
 qB Tryz.prog 128 [(vP gw),(vI (n:Int))] [(rd kA r.ak.aR.length 9 (r.ak.aR.map ar.cells)),(rd cA r.ak.aj.length 2 (List.zipWith ax.cells r.ak.aj az)),(dV (a_ ax.gG r.ak.aj az)),(rd bA r.ak.ab.length 4 (r.ak.ab.map bJ.cells)),(rd slA r.aY.length 1 (r.aY.map iC)),(rd drA r.b_.length 1 (r.b_.map iC)),(rd heA r.aA.length 1 (List.zipWith cq r.aA ha)),(dV (a_ eV r.aA ha)),(rd tA ((gn r).length) 1 (List.zipWith OK (gn r) tz)),(dV (a_ Sv (gn r) tz)),(cv gw 212 (k8.cells (k8.mk (zH r kA kC cA cC bA bC slA slC drA drC heA heC) (bE.mk tA ((gn r).length) tC) ms)))] (fun (x:Nat)=>(Value.map (some x))) (fun (x:Nat)=>True) (fun (x:Nat)=>[(kQ iV x (cT kl (CV r n)))]):=by
 have c:=hin.line
 have m:=hin.iJ
 have o:=hin.has
 have e:=hin.iK
 have d:=hin.draw
 have f:=kJ (r:=r)
 refine fO kr Tryz.func128 U U fun q Q hQ hN=>?_
 try dsimp only
 refine WS fun _ V=>xV U U fun k=>rP 1 [] mn ?_
 refine RK V<|WS fun _ W=>nq (kV:=iV) U U fun B=>?_
 try dsimp only
 refine AL U TP fun l=>OR U F4 U U<|RK W<|aq fun _ X=>WS fun _ Y=>fD 1 [] (mc 2 U mn) U<|rS (SX (cS U U) U U)<|rP 5 [] (mr 13 U mn) ?_
 refine RK Y<|aG ?_
 skip
 have A:(0≤r.aY.length):=by exact Nat.zero_le _
 refine bS (ι:={z:Nat // (z≤r.aY.length)}) [1,2,5,15] [0,2,3,4,5,6,7,8,9,10,11,12,13] U U (fun z=>[(16,(vI (z.1:Int)))]) (fun z=>[(kQ iV B (cT kl (eH r.ak r.aA z.1 0 0)))]) (fun _=>rfl) (fun _=>rfl) (fun z=>r.aY.length-z.1) ⟨0,A⟩ (bw U) (aS [0,2,3,4,5,6,7,8,9,10,11,12,13,1]) ?_
 clear A
 rintro ⟨i,a⟩ J8 AA
 try dsimp only
 refine WS fun _ Z=>rP 1 [] mn ?_
 refine RK Z<|aq fun _ D=>cG U (aV fun S=>?_) (aW fun S=>?_)
 ·refine WK D<|aq fun _ E=>aG<|WS fun _ F=>bG 2 U<|RK F<|ay<|rP 2 [] (mc 0 U mn) ?_
  refine rS (SX (bp (xs:=[]) (cs:=(ag.cells (ag.mk 0 0))) U U (bo hU U)) U U) ?_
  have O:(eA (eH r.ak r.aA i 0 0) (i:Int) (ag.mk 0 0))=(eH r.ak r.aA (i+1) 0 0):=by exact OV
  refine jt (kV:=iV) (x:=(i:Int)) (C':=[_,_,_,_,_,_,_,_,_,_,_,_,_,(kQ iV B (cT kl (eH r.ak r.aA (i+1) 0 0)))]) 13 U U U U tx (jg um) U ((g6 _ _ _ _).symm.trans (congrArg _ O)) U<|aJ<|aO<|KK E<|ay<|rP 2 [] mn ?_
  refine aJ ?_
  have P:(vI (((i+1):Nat):Int))=(vI ((i:Int)+1)):=by exact cI I
  refine bj (AA ⟨(i+1),(by first|omega|(simp only []; omega))⟩ _ _ _ U os (cQ 4<|bk U P<|dx.nil _) (aS [0,1,2,3,4,5,6,7,8,9,10,11,12,13]))
 refine bL<|ai<|ai<|aI<|KK X<|WS fun _ G=>rS (FU U)<|bG 1 U<|RK G<|aq fun _ H=>WS fun _ AB=>rP 2 [] mn ?_
 refine RK AB<|aG ?_
 rw [show (eH r.ak r.aA i 0 0)=(eH r.ak r.aA r.aY.length 0 0) from by rw [show i=r.aY.length by omega]]
 have A:(0≤n):=by exact Nat.zero_le _
 refine bS (ι:={z:Nat // (z≤n)}) [2,5,7,24] [0,1,2,3,4,5,6,7,8,9,10,11,12] U U (fun z=>[(25,(vI (z.1:Int)))]) (fun z=>[(kQ iV B (cT kl (eH r.ak r.aA r.aY.length z.1 0)))]) (fun _=>rfl) (fun _=>rfl) (fun z=>n-z.1) ⟨0,A⟩ (bw U) (aS [0,1,2,3,4,5,6,7,8,9,10,11,12,13]) ?_
 clear A
 rintro ⟨h,b⟩ J19 C
 try dsimp only
 refine WS fun _ J=>rP 1 [] mn ?_
 refine RK J<|aq fun _ K=>bV U (aW fun T=>?_) (aV fun T=>?_)
 ·refine bL<|ai<|ai<|aI<|KK H<|aq fun _ N=>?_
  rw [show (eH r.ak r.aA r.aY.length h 0)=(CV r n) from by rw [show h=n by omega]; exact Od]
  refine ay<|rP 2 [] (mc 0 U mn) ?_
  refine RK N<|av<|LX hQ B [13] [] mn U U U U ?_
  trivial
 refine WK K<|aq fun _ L=>aG<|WS fun _ M=>bG 2 U<|RK M<|ay<|rP 2 [] mn ?_
 refine ph 13 U U U U (Kj r kA kC az cA cC bA bC slA slC drA drC ha heA heC tz tA tC ms gw h B k l hin htz I (by exact fun j x hj hx=>hok j x I hx)) U (eC 2 U U (dQ (bY _)) (eC 3 U U (dQ (bY _)) (eC 4 U U (dQ (bY _)) (eC 5 U U (dQ (bY _)) (eC 6 U U (dQ (bY _)) (eC 7 U U (dQ (bY _)) (eC 8 U U (dQ (bY _)) (eC 9 U U (dQ (bY _)) (eC 10 U U (dQ (bY _)) (eC 11 U U (dQ (bY _)) (eC 12 U U (dQ (bY _)) (eC 1 U U (bY _) (eC 0 U U (bY _) rh))))))))))))) U (fun p g=>?_)
 try dsimp only
 refine aJ<|aO<|KK L<|ay<|rP 2 [] mn ?_
 refine aJ ?_
 have R:(vI (((h+1):Nat):Int))=(vI ((h:Int)+1)):=by exact cI I
 refine bj (C ⟨(h+1),(by first|omega|(simp only []; omega))⟩ _ _ _ U os (cQ 4<|bk U R<|dx.nil _) (aS [0,1,2,3,4,5,6,7,8,9,10,11,12,13]))
end
section
open Go.RowKit
theorem Pj (r:dY) (kA:OA) (kC:Nat) (az:List RA) (cA:OA) (cC:Nat) (bA:OA) (bC:Nat) (slA:OA) (slC:Nat) (drA:OA) (drC:Nat) (ha:List cN) (heA:OA) (heC:Nat) (hin:lO r az ha):
 qB Tryz.prog 103 [(vA (fu.cells (zH r kA kC cA cC bA bC slA slC drA drC heA heC)))] [(rd gK 3 2 fK),(rd kA r.ak.aR.length 9 (r.ak.aR.map ar.cells)),(rd cA r.ak.aj.length 2 (List.zipWith ax.cells r.ak.aj az)),(dV (a_ ax.gG r.ak.aj az)),(rd bA r.ak.ab.length 4 (r.ak.ab.map bJ.cells)),(rd slA r.aY.length 1 (r.aY.map iC)),(rd drA r.b_.length 1 (r.b_.map iC)),(rd heA r.aA.length 1 (List.zipWith cq r.aA ha)),(dV (a_ eV r.aA ha))] (fun (x:Bool×Int×Nat×Nat×(OA)×Nat×(List RA))=>bif x.1 then (vT [(Value.pointer (some ⟨x.2.2.1,0,none⟩)),(vI 0)]) else (vT [(Value.pointer none),(vI x.2.1)])) (fun (x:Bool×Int×Nat×Nat×(OA)×Nat×(List RA))=>(x.1=true→(il r=0∧x.2.2.2.2.2.2.length=r.aA.length))∧(x.1=false→(x.2.1=il r∧ ¬ il r=0))) (fun (x:Bool×Int×Nat×Nat×(OA)×Nat×(List RA))=>bif x.1 then [(cv x.2.2.1 212 (k8.cells (k8.mk (zH r kA kC cA cC bA bC slA slC drA drC heA heC) (bE.mk x.2.2.2.2.1 ((gn r).length) x.2.2.2.2.2.1) (Value.map (some x.2.2.2.1))))),(own x.2.2.2.2.1 x.2.2.2.2.2.1 204 1 (List.zipWith OK (gn r) x.2.2.2.2.2.2)),(bK (a_ GV (gn r) x.2.2.2.2.2.2)),(kQ iV x.2.2.2.1 (cT kl (nx r)))] else []):=by
 have K0:=hin.line
 have Or:=hin.iJ
 have Os:=hin.has
 have Lk:=hin.iK
 have La:=hin.draw
 have Fd:=kJ (r:=r)
 refine fO kr Tryz.func103 U U fun w0 Q hQ hN=>?_
 try dsimp only
 refine WS fun _ J2=>eT U fun b2=>bG 2 U<|RK J2<|aq fun _ J3=>WS fun _ J4=>bG 1 U<|rS (LP (cw.cells (kj r.ak kA kC cA cC bA bC)) 0 U cf U U U)<|rS (CL (zt r.ak kA kC az cA cC bA bC asm) (bq [2,3,4,5]) U)<|bG 1 U<|RK J4<|WS fun _ J5=>rP 2 [] mn ?_
 refine RK J5<|cG U (bB fun B=>?_) (bx fun B=>?_)
 ·refine WS fun _ J6=>rP 3 [] mn ?_
  refine RK J6<|av<|LX hQ (false,(dw r.ak),0,0,none,0,[]) [] [] mn U (by rfl) U U ?_
  exact xJ<|FP (zU B) B
 refine WK J3<|WS fun _ J7=>fD 4 [] (mc 0 U mn) U<|RK J7<|WS fun _ J8=>rP 2 [] (mc 0 U mn) ?_
 refine cX (Jw drA r.b_.length drC) (aN) U fun Go Lo=>?_
 try dsimp only
 refine cX (Jp r.b_ drA drC Go asm) (bq [8,0]) U fun LT L0=>?_
 obtain ⟨L3,Op⟩:=LT
 try dsimp only
 refine bG 1 U<|RK J8<|aq fun _ e=>WS fun _ H=>rP 1 [] mn ?_
 refine eJ (xs:=[.tmp 29]) (cs:=[(vI (r.aY.length:Int))]) U dJ kY U U U U (by simp [Value.cells]) U U fun Gq=>?_
 refine rS (CL (dN.eq (vn 1 5 ([(r.aY.length:Int)]) (some ⟨Gq,0,none⟩) 1 (by (simp; done))) cH) (aD (br 0 U U (by simp [bR]) U)<|aN) U) ?_
 refine rP 2 [] mn ?_
 refine cg (t:=33) U (bB fun IO=>?_) (bx fun IO=>?_)
 ·refine bG 26 U<|RK H<|aU U<|WS fun _ f=>rP 2 [] mn ?_
  refine RK f<|av<|LX hQ (false,60,0,0,none,0,[]) [] [] mn U (by rfl) U U ?_
  exact xJ<|oP (lE B (fun q:fZ r=>by have q1:=q.num; have q2:=q.BE; have q3:=q.nh; have q4:=q.AR; omega))
 refine rP 6 [] mn ?_
 refine cg (t:=39) U (bB fun IR=>?_) (bx fun IR=>?_)
 ·refine bG 20 U<|RK H<|aU U<|WS fun _ g=>rP 2 [] mn ?_
  refine RK g<|av<|LX hQ (false,60,0,0,none,0,[]) [] [] mn U (by rfl) U U ?_
  exact xJ<|oP (lE B (fun q:fZ r=>by have q1:=q.num; have q2:=q.BE; have q3:=q.nh; have q4:=q.AR; omega))
 refine rP 2 [] (mc 3 U mn) ?_
 refine eJ (xs:=[.tmp 41]) (cs:=[(vI r.lG)]) U dJ kY U U U U (by simp [Value.cells]) U U fun Hi=>?_
 refine rS (CL (dN.eq (vn 0 5 ([r.lG]) (some ⟨Hi,0,none⟩) 1 (by (simp; done))) cH) (aD (br 0 U U (by simp [bR]) U)<|aN) U) ?_
 refine rP 3 [] mn ?_
 refine cg (t:=46) U (bB fun Id=>?_) (bx fun Id=>?_)
 ·refine bG 13 U<|RK H<|aU U<|WS fun _ k=>rP 2 [] mn ?_
  refine RK k<|av<|LX hQ (false,60,0,0,none,0,[]) [] [] mn U (by rfl) U U ?_
  exact xJ<|oP (lE B (fun q:fZ r=>by have q1:=q.num; have q2:=q.BE; have q3:=q.nh; have q4:=q.AR; omega))
 refine rP 3 [] (mc 4 U mn) ?_
 refine eJ (xs:=[.tmp 49]) (cs:=[(vI (r.aA.length:Int))]) U dJ kY U U U U (by simp [Value.cells]) U U fun H1=>?_
 refine rS (CL (dN.eq (vn 1 3 ([(r.aA.length:Int)]) (some ⟨H1,0,none⟩) 1 (by (simp; done))) cH) (aD (br 0 U U (by simp [bR]) U)<|aN) U) ?_
 refine rP 3 [] mn ?_
 refine cg (t:=54) U (bB fun If=>?_) (bx fun If=>?_)
 ·refine bG 5 U<|RK H<|aU U<|WS fun _ l=>rP 2 [] mn ?_
  refine RK l<|av<|LX hQ (false,60,0,0,none,0,[]) [] [] mn U (by rfl) U U ?_
  exact xJ<|oP (lE B (fun q:fZ r=>by have q1:=q.num; have q2:=q.BE; have q3:=q.nh; have q4:=q.AR; omega))
 refine fD 2 [] (mc 5 U mn) U<|rS (CL (vn 0 9999 r.aY slA slC asm) (bq [11]) U)<|rP 2 [] mn ?_
 refine RK H<|cG U (fun N=>?_) (fun N=>?_)
 ·rw [Bool.not_eq_true'] at N
  refine WS fun _ m=>rP 2 [] mn ?_
  refine RK m<|av<|LX hQ (false,60,0,0,none,0,[]) [] [] mn U (by rfl) U U ?_
  exact xJ<|oP (lE B (fun q:fZ r=>by exact absurd (q.ins.symm.trans N) dc))
 rw [Bool.not_eq_false'] at N
 refine WK e<|aq fun _ o=>WS fun _ p=>?_
 have Ox:(oJ r.b_).length=r.aY.length:=by rw [uC]; omega
 refine rP 2 [] mn ?_
 refine RK p<|aG ?_
 have A:(0≤r.aY.length)∧(sU r 0):=by exact ⟨Nat.zero_le _,Fz⟩
 refine bS (ι:={z:Nat // (z≤r.aY.length)∧(sU r z)}) [1,5,6,60] [3,5,6,7,8,9,10,11,12,13,14] U U (fun z=>[(61,(vI (z.1:Int)))]) (fun z=>[]) (fun _=>rfl) (fun _=>rfl) (fun z=>r.aY.length-z.1) ⟨0,A⟩ (bw U) (aS [3,5,6,7,8,9,10,11,12,13,14]) ?_
 clear A
 rintro ⟨i,⟨Ky,J⟩⟩ J28 V
 try dsimp only
 refine WS fun _ s=>rP 1 [] mn ?_
 refine RK s<|aq fun _ w=>cG U (aV fun JJ=>?_) (aW fun JJ=>?_)
 ·refine WK w<|aq fun _ W=>aG<|WS fun _ AC=>bG 2 U<|RK AC<|aq fun _ O=>dy cy 24 kr<|dP 2 [] mn ?_
  obtain ⟨x,hx⟩:=aM (oJ r.b_) i I
  have K4:=bQ iC hx
  refine dS (IA i U (au (n:=r.b_.length) 0 U sq) dJ dc I I) ?_
  refine dS (hP i 0 (vI x) U cf (au (n:=(oJ r.b_).length) 0 U sm) K4 U dc U)<|dP 3 [] mn ?_
  refine iu (t:=70) U (bB fun S=>?_) (bx fun S=>?_)
  ·refine lP 17 U<|cO<|RK O<|aU U<|WS fun _ AD=>rP 2 [] mn ?_
   refine RK AD<|av<|LX hQ (false,60,0,0,none,0,[]) [] [] mn U (by rfl) U U ?_
   exact xJ<|oP (lE B (fun q:fZ r=>by exact absurd (q.drawn hx) S))
  refine dP 3 [] mn ?_
  refine j0 (t:=73) U (aW fun JR=>?_) (aV fun JR=>?_)
  ·refine lP 14 U<|cO<|RK O<|ct U<|cx<|aO<|KK W<|ay<|rP 2 [] mn ?_
   refine aJ ?_
   have Di:(vI (((i+1):Nat):Int))=(vI ((i:Int)+1)):=by exact cI I
   refine bj (V ⟨(i+1),⟨I,yx J hx S (fun u v hu hv hw=>by omega)⟩⟩ _ _ _ U os (cQ 4<|bk U Di<|dx.nil _) (aS [0,1,2,3,4,5,6,7,8,9,10]))
  refine dP 3 [] (mc 1 U mn) ?_
  obtain ⟨y,hy⟩:=aM r.aY i I
  have K5:=bQ iC hy
  refine dS (IA i U (aF 7 U) dJ dc I I)<|dS (hP i 0 (vI y) U cf (aF 7 U) K5 U dc U)<|dP 4 [] (mc 1 U mn) ?_
  obtain ⟨z,hz⟩:=aM r.aY (i-1) I
  have K8:=bQ iC hz
  refine dS (IA (i-1) U (aF 7 U) dJ dc I I)<|dS (hP (i-1) 0 (vI z) U cf (aF 7 U) K8 U dc U)<|dP 3 [] mn ?_
  refine cO<|RK O<|bV U (aW fun Jr=>?_) (aV fun Jr=>?_)
  ·refine cx<|aO<|KK W<|ay<|rP 2 [] mn ?_
   refine aJ ?_
   have C3:(vI (((i+1):Nat):Int))=(vI ((i:Int)+1)):=by exact cI I
   refine bj (V ⟨(i+1),⟨I,yx J hx S (fun u v hu hv hw=>by (rw [hy] at hu; cases hu; rw [hz] at hw; cases hw; omega))⟩⟩ _ _ _ rfl os (cQ 4<|bk rfl C3<|dx.nil _) (aS [0,1,2,3,4,5,6,7,8,9,10]))
  refine WS fun _ AO=>rP 2 [] mn ?_
  refine RK AO<|av<|LX hQ (false,60,0,0,none,0,[]) [] [] mn U (by rfl) U U ?_
  exact xJ<|oP (lE B (fun q:fZ r=>by have q1:=(q.ids i y hy).2 z I hz; omega))
 refine bL<|ai<|ai<|aI<|KK o<|WS fun _ AY=>fD 1 [] (mc 1 U mn) U<|rS (SX (bp (xs:=[(0,.tmp 89)]) (cs:=(k8.cells (k8.mk (zH r kA kC cA cC bA bC slA slC drA drC heA heC) (bE.mk none 0 0) (Value.map none)))) U U (bo SM U)) U U)<|eT U fun L=>bG 1 U<|RK AY<|aq fun _ Ae=>WS fun _ A0=>rP 4 [] (mc 2 U mn) ?_
 refine RK A0<|aG<|e9 204 1<|oM ?_
 have A:(0≤r.aA.length)∧(([]:List RA).length=0)∧(kT r 0):=by exact ⟨Nat.zero_le _,rfl,yO⟩
 refine bS (ι:={z:Nat×(List RA)×(OA)×Nat // (z.1≤r.aA.length)∧(z.2.1.length=z.1)∧(kT r z.1)}) [1,5,8,93,94] [3,4,5,6,7,8,9,10,11,12,13] U U (fun z=>[(95,(vI (z.1.1:Int)))]) (fun z=>[(bK (a_ GV (hG r z.1.1) z.1.2.1)),(own z.1.2.2.1 z.1.2.2.2 204 1 (List.map sC (List.zipWith Dm (hG r z.1.1) z.1.2.1))),(cv L 212 (k8.cells (k8.mk (zH r kA kC cA cC bA bC slA slC drA drC heA heC) (bE.mk z.1.2.2.1 ((List.zipWith Dm (hG r z.1.1) z.1.2.1).length) z.1.2.2.2) (Value.map none))))]) (fun _=>rfl) (fun _=>rfl) (fun z=>r.aA.length-z.1.1) ⟨(0,([]:List RA),none,0),A⟩ (bw U) (aS [3,4,5,6,7,8,9,10,11,12,13,0,1,2]) ?_
 clear A
 rintro ⟨⟨h,tz,a,c⟩,⟨T,C,E⟩⟩ J42 Z
 try dsimp only at T C E
 try dsimp only
 refine WS fun _ A1=>rP 1 [] mn ?_
 refine RK A1<|aq fun _ A2=>bV U (aW fun J1=>?_) (aV fun J1=>?_)
 ·refine bL<|ai<|ai<|aI<|KK Ae<|aq fun _ C1=>?_
  have Kc:hG r h=gn r:=by unfold gn; rw [show h=r.aA.length by omega]
  have Fn:tz.length=r.aA.length:=by omega
  rw [Kc,z8,show (List.zipWith Dm (gn r) tz).length=(gn r).length from by rw [List.length_zipWith]; omega]
  have X:fZ r:=Jl (n:=i) I I I I I N J E I
  refine ay<|rP 5 [] (mc 1 U mn) ?_
  refine cX (TZ r kA kC az cA cC bA bC slA slC drA drC ha heA heC tz a c (Value.map none) L r.aA.length hin asm I (by exact X.OY)) (pC [3,4,5,6,7,8,9,10]<|aD (au (n:=(gn r).length) 12 U (Pa (by rw [Fd]; exact Fn)))<|aD (e7 11 U US)<|gX 13 U U<|aN) U fun K L2=>?_
  try dsimp only
  refine rS (SX (cS U U) U U)<|rP 1 [] mn ?_
  refine iT (vs:=[(Value.map (some K))]) (cs':=(k8.cells (k8.mk (zH r kA kC cA cC bA bC slA slC drA drC heA heC) (bE.mk a ((gn r).length) c) (Value.map (some K))))) (C':=[_,_,_,_,_,_,_,_,_,_,_,_,_,_,(cv L 212 (k8.cells (k8.mk (zH r kA kC cA cC bA bC slA slC drA drC heA heC) (bE.mk a ((gn r).length) c) (Value.map (some K)))))]) 14 U U U F4 U U U U U U U<|RK C1<|aq fun _ C2=>?_
  rw [show CV r r.aA.length=nx r from rfl]
  refine ay<|rP 3 [] mn ?_
  refine RK C2<|av ?_
  refine LX hQ (true,0,L,K,a,c,tz) [14,13,12,0] [] mn U (by (show List.all _ _=true; simp only [cond_true,fE,List.all_nil,E5,Bool.and_true]; rfl)) U U ?_
  exact ⟨fun _=>⟨D0 B X,Fn⟩,Su⟩
 refine WK A2<|aq fun _ A3=>aG<|WS fun _ A4=>?_
 obtain ⟨ht,D⟩:=aM r.aA h I
 obtain ⟨G,AB⟩:=aM ha h I
 have FS:(List.zipWith cq r.aA ha)[h]? =some (cq ht G):=dH D AB
 refine rS (IA h U (aF 9 U) oQ dc I I)<|rS (hP h 0 (vS G.1.1 ht.length G.1.2) U cf (aF 9 U) FS U dc U)<|rP 1 [] mn ?_
 refine RK A4<|aq fun _ A5=>WS fun _ A6=>?_
 have E1:=hin.gM _ _ _ D AB
 have Li:=E1.n_
 refine rP 4 [] mn ?_
 refine RK A6<|cG U (bB fun Y=>?_) (bx fun Y=>?_)
 ·refine WS fun _ A7=>rP 2 [] mn ?_
  refine RK A7<|av<|LX hQ (false,60,0,0,none,0,[]) [] [] mn U (by rfl) U U ?_
  exact xJ<|oP (lE B (fun q:fZ r=>by have q1:=(q.gM ht (aQ D)).1; omega))
 refine WK A5<|WS fun _ A8=>bG 1 U<|RK A8<|aq fun _ A9=>WS fun _ Bc=>rP 3 [] mn ?_
 refine RK Bc<|aG<|e9 53 2 ?_
 have A:(0≤ht.length)∧(o7 r.ak ht 0):=by exact ⟨Nat.zero_le _,xx⟩
 refine bS (ι:={z:Nat×(OA)×Nat // (z.1≤ht.length)∧(o7 r.ak ht z.1)}) [1,5,8,10,93,94,95,103,104] [1,2,3,4,5,6,7,8,9,10,11,12,13,14] U U (fun z=>[(11,(vS z.1.2.1 (((ht.take z.1.1).map (gr r.ak)).length) z.1.2.2)),(105,(vI (z.1.1:Int)))]) (fun z=>[(own z.1.2.1 z.1.2.2 53 2 (((ht.take z.1.1).map (gr r.ak)).map ag.cells))]) (fun _=>rfl) (fun _=>rfl) (fun z=>ht.length-z.1.1) ⟨(0,none,0),A⟩ (bw U) (aS [1,2,3,4,5,6,7,8,9,10,11,12,13,14,0]) ?_
 clear A
 rintro ⟨⟨j,la,lc⟩,⟨AA,F⟩⟩ J53 b
 try dsimp only at AA F
 try dsimp only
 refine WS fun _ B3=>rP 1 [] mn ?_
 refine RK B3<|aq fun _ B9=>bV U (aW fun In=>?_) (aV fun In=>?_)
 ·refine bL<|ai<|ai<|aI<|KK A9<|ay<|bG 2 U<|rS (SX (cS U U) U U)<|rP 2 [] (mc 13 U mn) ?_
  rw [show ((ht.take j).map (gr r.ak))=ht.map (gr r.ak) from by rw [List.take_of_length_le I]]
  refine rP 1 [] mn ?_
  refine eJ (xs:=[.tmp 128]) (cs:=[(vS la ((ht.map (gr r.ak)).length) lc)]) U MT PF U U U U (by simp [Value.cells]) U U fun Ne=>?_
  refine dR (es2:=(List.map sC (List.zipWith Dm (hG r (h+1)) (tz++[(la,lc)])))) (m':=(List.zipWith Dm (hG r (h+1)) (tz++[(la,lc)])).length) 13 U U U Qb U U sm (br (es:=List.map sC [(bE.mk la ((ht.map (gr r.ak)).length) lc)]) 0 U U (by simp [Ay]) U) (KG _) (by rw [List.length_zipWith,lR I]; omega) (by rw [List.length_zipWith,lR I]; simp only [maxLen]; omega) (by rw [uS D C,List.map_append]; rfl) (by rw [uS D C]; simp) U fun P R=>?_
  try dsimp only
  refine rS (SX (cS U U) U U)<|bG 1 U<|iT (vs:=[(vS P ((List.zipWith Dm (hG r (h+1)) (tz++[(la,lc)])).length) R)]) (cs':=(k8.cells (k8.mk (zH r kA kC cA cC bA bC slA slC drA drC heA heC) (bE.mk P ((List.zipWith Dm (hG r (h+1)) (tz++[(la,lc)])).length) R) (Value.map none)))) (C':=[_,_,_,_,_,_,_,_,_,_,_,_,_,_,(cv L 212 (k8.cells (k8.mk (zH r kA kC cA cC bA bC slA slC drA drC heA heC) (bE.mk P ((List.zipWith Dm (hG r (h+1)) (tz++[(la,lc)])).length) R) (Value.map none)))),_]) 14 U U U TB U U U U U U U<|aJ<|aO<|KK A3<|ay<|rP 2 [] mn ?_
  refine aJ<|y7 (X':=a_ GV (hG r (h+1)) (tz++[(la,lc)])) 12 15 U U (CZ (a:=(la,lc)) D C) ?_
  have EQ:(vI (((h+1):Nat):Int))=(vI ((h:Int)+1)):=by exact cI I
  refine bj (Z ⟨((h+1),(tz++[(la,lc)]),P,R),⟨I,by simp; omega,yr E D (Gi I F I)⟩⟩ _ _ _ U os (cQ 5<|bk U EQ<|dx.nil _) (aS [2,3,4,5,6,7,8,9,10,11,12,0,13,14]))
 refine WK B9<|aq fun _ Ci=>aG<|WS fun _ Ck=>?_
 obtain ⟨d,hd⟩:=aM ht j I
 obtain ⟨da,Eq⟩:=aM G.2 j I
 have J9:(List.zipWith ao.cells ht G.2)[j]? =some (ao.cells d da):=dH hd Eq
 refine rS (IA j U (show jC _ (rd G.1.1 ht.length 7 (List.zipWith ao.cells ht G.2)).holds from (cW 10 U (bT D AB cD))) r8 dc I I)<|rS (mq j 0 (aP.cells (aP.mk d.Out d.cY d.Time (cM.mk d.aZ.Start d.aZ.fI (bE.mk da.1 d.aZ.aa.length da.2)))) U cf (show jC _ (rd G.1.1 ht.length 7 (List.zipWith ao.cells ht G.2)).holds from (cW 10 U (bT D AB cD))) J9 U dc U U)<|AL U BZ fun Mn=>gl U Ht U<|RK Ck<|WS fun _ Cl=>bG 1 U<|rS (LP (cw.cells (kj r.ak kA kC cA cC bA bC)) 2 U cf U U U)<|rP 1 [] (mc 0 U mn) ?_
 have PP:=E1.sig d (aQ hd)
 refine rS (CL (Ep r.ak kA kC az cA cC bA bC d da.1 da.2 asm asm) (pC [3,4,5,6,7]<|aD (show jC _ (rd da.1 d.aZ.aa.length 2 (d.aZ.aa.map aH.cells)).holds from (cW 11 U (bT D AB (dU _ (bT hd Eq (by simp [ao.gG]))))))<|aN) U)<|bG 3 U<|AL U ej fun M2=>gl U c_ U<|bG 1 U<|RK Cl<|aq fun _ Cp=>WS fun _ Cx=>rP 2 [] mn ?_
 refine RK Cx<|bV U (bx fun M=>?_) (bB fun M=>?_)
 ·refine WK Cp<|ay<|rP 2 [] (mc 0 U mn) ?_
  refine eJ (xs:=[.tmp 119]) (cs:=(ag.cells (gr r.ak d))) U lU ej U U U U (by simp [Value.cells,ag.bf]) U U fun NE=>?_
  refine dR (es2:=(List.map ag.cells ((ht.take (j+1)).map (gr r.ak)))) (m':=((ht.take (j+1)).map (gr r.ak)).length) 17 U U U Gu U U sm (br (es:=List.map ag.cells [(gr r.ak d)]) 0 U U (by simp [ag.bf]) U) (lI _) (by simp only [List.length_map,List.length_take]; omega) (by simp only [maxLen,List.length_map,List.length_take]; omega) (by rw [List.take_add_one,hd]; simp) sq U fun GT ID=>?_
  try dsimp only
  refine bG 1 U<|aJ<|aO<|KK Ci<|ay<|rP 2 [] mn ?_
  refine aJ ?_
  have Do:(vI (((j+1):Nat):Int))=(vI ((j:Int)+1)):=by exact cI I
  refine bj (b ⟨((j+1),GT,ID),⟨I,w5 F hd M⟩⟩ _ _ _ U os (cQ 10<|bk U Do<|dx.nil _) (aS [3,4,5,6,7,8,9,10,11,12,13,14,15,16,17]))
 refine WS fun _ C0=>rP 2 [] mn ?_
 refine RK C0<|av<|LX hQ (false,60,0,0,none,0,[]) [] [] mn U (by rfl) U U ?_
 exact xJ<|oP (lE B (fun q:fZ r=>by exact M ((q.gM ht (aQ D)).2 d (aQ hd))))
end
section
open Go.RowKit
theorem I8 (r:dY) (kA:OA) (kC:Nat) (az:List RA) (cA:OA) (cC:Nat) (bA:OA) (bC:Nat) (slA:OA) (slC:Nat) (drA:OA) (drC:Nat) (ha:List cN) (heA:OA) (heC:Nat) (hin:lO r az ha):
 dN Tryz.prog 79 [(vA (fu.cells (zH r kA kC cA cC bA bC slA slC drA drC heA heC)))] [(rd gK 3 2 fK),(rd kA r.ak.aR.length 9 (r.ak.aR.map ar.cells)),(rd cA r.ak.aj.length 2 (List.zipWith ax.cells r.ak.aj az)),(dV (a_ ax.gG r.ak.aj az)),(rd bA r.ak.ab.length 4 (r.ak.ab.map bJ.cells)),(rd slA r.aY.length 1 (r.aY.map iC)),(rd drA r.b_.length 1 (r.b_.map iC)),(rd heA r.aA.length 1 (List.zipWith cq r.aA ha)),(dV (a_ eV r.aA ha))] (vI (il r)):=by
 have H:=hin.line
 have R:=hin.iJ
 have S:=hin.has
 have J:=hin.iK
 have AB:=hin.draw
 have K:=kJ (r:=r)
 refine bH kr Tryz.func79 U U fun X Q hQ hN=>?_
 try dsimp only
 refine WS fun _ G=>eT U fun W=>bG 1 U<|RK G<|WS fun _ C=>rP 1 [] (mc 0 U mn) ?_
 refine cX (Pj r kA kC az cA cC bA bC slA slC drA drC ha heA heC hin) (bq [1,2,3,4,5,6,7,8,9]) U fun V E=>?_
 obtain ⟨F,N,P,O,AA,L,M⟩:=V
 cases F
 rotate_left 1
 ·obtain ⟨he,T⟩:=E.1 rfl
  try dsimp only [cond_true,cond_false,List.cons_append,List.nil_append]
  refine bG 5 U<|RK C<|WS fun _ B=>rP 2 [] mn ?_
  refine RK B<|av<|Q1 hQ U U U ?_
  first|rfl|(rw [he])
 obtain ⟨D,he⟩:=E.2 rfl
 try dsimp only at D he
 subst D
 try dsimp only [cond_true,cond_false,List.cons_append,List.nil_append]
 refine bG 5 U<|RK C<|WS fun _ A=>rP 2 [] mn ?_
 refine RK A<|av<|Q1 hQ U U U ?_
 first|rfl|(rw [he])
end
section
open Go.RowKit
theorem Je (j:cR) (kA:OA) (kC:Nat) (az:List RA) (cA:OA) (cC:Nat) (bA:OA) (bC:Nat) (slA:OA) (slC:Nat) (drA:OA) (drC:Nat) (ha:List cN) (heA:OA) (heC:Nat) (faA:OA) (faC:Nat) (prA:OA) (prC:Nat) (hin:gY j az ha):
 dN Tryz.prog 52 [(vA (eD.cells (nN j kA kC cA cC bA bC slA slC drA drC heA heC faA faC prA prC)))] [(rd gK 3 2 fK),(rd kA j.Race.ak.aR.length 9 (j.Race.ak.aR.map ar.cells)),(rd cA j.Race.ak.aj.length 2 (List.zipWith ax.cells j.Race.ak.aj az)),(dV (a_ ax.gG j.Race.ak.aj az)),(rd bA j.Race.ak.ab.length 4 (j.Race.ak.ab.map bJ.cells)),(rd slA j.Race.aY.length 1 (j.Race.aY.map iC)),(rd drA j.Race.b_.length 1 (j.Race.b_.map iC)),(rd heA j.Race.aA.length 1 (List.zipWith cq j.Race.aA ha)),(dV (a_ eV j.Race.aA ha)),(rd faA j.aC.length 4 (j.aC.map aL.cells)),(rd prA j.aw.length 5 (j.aw.map aT.cells))] (vI (di j)):=by
 have E1:=hin.race
 have J7:=hin.race.line
 have OY:=hin.race.iJ
 have Op:=hin.race.has
 have Lo:=hin.race.iK
 have LT:=hin.nf
 have Lk:=hin.np
 refine bH kr Tryz.func52 U U fun w0 Q hQ hN=>?_
 try dsimp only
 refine WS fun _ In=>eT U fun b2=>bG 1 U<|RK In<|BB U<|aq fun _ JJ=>WS fun _ JR=>bG 1 U<|rS (LP (fu.cells (zH j.Race kA kC cA cC bA bC slA slC drA drC heA heC)) 0 U cf U U U)<|rS (CL (I8 j.Race kA kC az cA cC bA bC slA slC drA drC ha heA heC asm) (bq [1,2,3,4,5,6,7,8,9]) U)<|bG 1 U<|RK JR<|WS fun _ Jr=>rP 2 [] mn ?_
 refine RK Jr<|cG U (bB fun A=>?_) (bx fun A=>?_)
 ·refine WS fun _ J1=>rP 2 [] mn ?_
  refine RK J1<|av<|Q1 hQ U U U ?_
  exact cI (zO A).symm
 refine WK JJ<|WS fun _ J2=>rP 2 [] (mc 0 U mn) ?_
 refine rS (FU U) ?_
 refine cX (Nm j.aC faA faC (Value.func (.func 81) [].toArray [(vP b2)].toArray) (fun u8 u9=>(decide (¬ pA j.Race.ak.bM u9))) (dV [(cv b2 36 (eD.cells (nN j kA kC cA cC bA bC slA slC drA drC heA heC faA faC prA prC)))]) (by intro u8 u9 J8; exact lJ (fi:=[]) (ca:=[(vP b2)]) (kh (JQ u8 u9 j kA kC cA cC bA bC slA slC drA drC heA heC faA faC prA prC b2 (by (obtain ⟨i_,_,J5⟩:=J8; exact hin.kind _ (aQ J5)))) (bq [0]))) asm) (gX 10 rfl rfl<|aD (kg (bq [0]))<|aN) rfl fun K5 L0=>?_
 obtain ⟨L3,NE⟩:=K5
 try dsimp only
 refine bG 1 U<|RK J2<|aq fun _ b=>WS fun _ G=>rP 5 [] (mc 1 U mn) ?_
 refine cg (t:=25) U (aV fun H1=>?_) (aW fun H1=>?_)
 ·refine bG 24 U<|RK G<|aU U<|WS fun _ c=>rP 1 [] mn ?_
  refine RK c<|av<|Q1 hQ U U U ?_
  exact cI (j9 A (fun q=>by have AA:=q.nf; have O:=q.min_; have V:=q.ui; have W:=q.np; omega)).symm
 refine rP 5 [] mn ?_
 refine cg (t:=30) U (aV fun S=>?_) (aW fun S=>?_)
 ·refine bG 19 U<|RK G<|aU U<|WS fun _ e=>rP 1 [] mn ?_
  refine RK e<|av<|Q1 hQ U U U ?_
  exact cI (j9 A (ED S)).symm
 refine rP 2 [] (mc 1 U mn) ?_
 refine eJ (xs:=[.tmp 32]) (cs:=[(vI j.eh)]) U dJ kY U U U U (by simp [Value.cells]) U U fun Fd=>?_
 refine rS (CL (dN.eq (jk 0 60 ([j.eh]) (some ⟨Fd,0,none⟩) 1 (by (simp; done))) cH) (aD (br 0 U U (by simp [bR]) U)<|aN) U) ?_
 refine rP 3 [] mn ?_
 refine cg (t:=37) U (bB fun IO=>?_) (bx fun IO=>?_)
 ·refine bG 12 U<|RK G<|aU U<|WS fun _ f=>rP 1 [] mn ?_
  refine RK f<|av<|Q1 hQ U U U ?_
  exact cI (j9 A (fun q=>by have AA:=q.nf; have O:=q.min_; have V:=q.ui; have W:=q.np; omega)).symm
 refine rP 2 [] (mc 2 U mn) ?_
 refine eJ (xs:=[.tmp 39]) (cs:=[(vI j.xA)]) U dJ kY U U U U (by simp [Value.cells]) U U fun Fn=>?_
 refine rS (CL (dN.eq (jk 0 100000 ([j.xA]) (some ⟨Fn,0,none⟩) 1 (by (simp; done))) cH) (aD (br 0 U U (by simp [bR]) U)<|aN) U) ?_
 refine rP 3 [] mn ?_
 refine cg (t:=44) U (bB fun IR=>?_) (bx fun IR=>?_)
 ·refine bG 5 U<|RK G<|aU U<|WS fun _ g=>rP 1 [] mn ?_
  refine RK g<|av<|Q1 hQ U U U ?_
  exact cI (j9 A (fun q=>by have AA:=q.nf; have O:=q.min_; have V:=q.ui; have W:=q.np; omega)).symm
 refine rP 5 [] (mc 3 U mn) ?_
 refine RK G<|cG U (aV fun If=>?_) (aW fun If=>?_)
 ·refine WS fun _ h=>rP 1 [] mn ?_
  refine RK h<|av<|Q1 hQ U U U ?_
  exact cI (j9 A (fun q=>by have AA:=q.nf; have O:=q.min_; have V:=q.ui; have W:=q.np; omega)).symm
 refine WK b<|WS fun _ l=>bG 1 U<|RK l<|WS fun _ m=>bG 1 U<|RK m<|aq fun _ n=>AN<|KK n<|aq fun _ C=>WS fun _ o=>rP 4 [] (mc 3 U mn) ?_
 refine RK o<|aG ?_
 have N:(0≤j.aw.length)∧(o8 j 0):=by exact ⟨Nat.zero_le _,y_⟩
 refine bS (ι:={z:Nat // (z≤j.aw.length)∧(o8 j z)}) [1,5,51,52] [2,3,4,5,6,7,8,9,10,11,12,13,14] U U (fun z=>[(6,(vI (qh j z.1))),(53,(vI (z.1:Int)))]) (fun z=>[]) (fun _=>rfl) (fun _=>rfl) (fun z=>j.aw.length-z.1) ⟨0,N⟩ (bw U) (aS [2,3,4,5,6,7,8,9,10,11,12,13,14]) ?_
 clear N
 rintro ⟨k,⟨B,D⟩⟩ J28 P
 try dsimp only
 refine WS fun _ r=>rP 1 [] mn ?_
 refine RK r<|aq fun _ s=>bV U (aW fun ID=>?_) (aV fun ID=>?_)
 ·refine bL<|ai<|ai<|aI<|KK C<|WS fun _ Cx=>rP 2 [] mn ?_
  refine RK Cx<|av<|Q1 hQ U U U ?_
  exact cI (yP A ⟨I,Dt S,I,I,I,fun i p hi=>D i p (by have:=(aX.1 hi).1; omega) hi⟩).symm
 refine WK s<|aq fun _ R=>aG<|WS fun _ u=>?_
 obtain ⟨p,hp⟩:=aM j.aw k I
 have J9:=bQ aT.cells hp
 refine rS (IA k U (aF 12 U) zI dc I I)<|rS (mq k 0 (aT.cells p) U cf (aF 12 U) J9 U dc U U)<|AL U O_ fun Mn=>gl U QN U<|RK u<|WS fun _ AB=>rP 1 [] mn ?_
 have J6:=Nh D B
 refine rP 3 [] (mc 0 U mn) ?_
 refine eJ (xs:=[.tmp 60]) (cs:=[(vI p.Id)]) U dJ kY U U U U (by simp [Value.cells]) U U fun GE=>?_
 refine rS (CL (dN.eq (jk ((qh j k)+1) 9999 ([p.Id]) (some ⟨GE,0,none⟩) 1 (by (simp; done))) cH) (aD (br 0 U U (by simp [bR]) U)<|aN) U) ?_
 refine rP 1 [] mn ?_
 refine cu (t:=63) U (aW fun Y=>?_) (aV fun Y=>?_)
 ·refine bG 32 U<|RK AB<|aq fun _ B9=>WS fun _ Ci=>bG 1 U<|RK Ci<|ct U<|WK B9<|aq fun _ LE=>WS fun _ Ck=>bG 2 U<|RK Ck<|aU U<|WS fun _ Cl=>bG 1 U<|RK Cl<|bL<|ai<|fM U<|ai<|ai<|aI<|KK C<|WS fun _ Cp=>rP 2 [] mn ?_
  refine RK Cp<|av<|Q1 hQ U U U ?_
  exact cI (j9 A (sY hp (fun q=>by have q0:=xR q B; have AA:=q.id; have O:=q.l7; have V:=q.gM; have W:=q.fault; simp only [qS] at O; omega))).symm
 refine rP 7 [0,1] (mc 3 U (mc 1 U mn)) ?_
 refine eJ (xs:=[.tmp 70]) (cs:=[(vI p.iX)]) U dJ kY U U U U (by simp [Value.cells]) U U fun GT=>?_
 refine rS (CL (dN.eq (jk 0 ((j.Race.aY.length:Int)-1) ([p.iX]) (some ⟨GT,0,none⟩) 1 (by (simp; done))) cH) (aD (br 0 U U (by simp [bR]) U)<|aN) U) ?_
 refine rP 2 [] mn ?_
 refine cu (t:=74) U (aW fun Z=>?_) (aV fun Z=>?_)
 ·refine bG 21 U<|RK AB<|aq fun _ A8=>WS fun _ A9=>bG 1 U<|RK A9<|ct U<|WK A8<|aq fun _ LB=>WS fun _ BE=>bG 2 U<|RK BE<|aU U<|WS fun _ Bc=>bG 1 U<|RK Bc<|bL<|ai<|fM U<|ai<|ai<|aI<|KK C<|WS fun _ B3=>rP 2 [] mn ?_
  refine RK B3<|av<|Q1 hQ U U U ?_
  exact cI (j9 A (sY hp (fun q=>by have q0:=xR q B; have AA:=q.id; have O:=q.l7; have V:=q.gM; have W:=q.fault; simp only [qS] at O; omega))).symm
 refine rP 7 [0,1] (mc 4 U (mc 2 U mn)) ?_
 refine eJ (xs:=[.tmp 81]) (cs:=[(vI p.jo)]) U dJ kY U U U U (by simp [Value.cells]) U U fun Go=>?_
 refine rS (CL (dN.eq (jk 0 ((j.Race.aA.length:Int)-1) ([p.jo]) (some ⟨Go,0,none⟩) 1 (by (simp; done))) cH) (aD (br 0 U U (by simp [bR]) U)<|aN) U) ?_
 refine rP 2 [] mn ?_
 refine cu (t:=85) U (aW fun a=>?_) (aV fun a=>?_)
 ·refine bG 10 U<|RK AB<|aq fun _ A3=>WS fun _ A4=>bG 1 U<|RK A4<|ct U<|WK A3<|aq fun _ LA=>WS fun _ A5=>bG 2 U<|RK A5<|aU U<|WS fun _ A6=>bG 1 U<|RK A6<|bL<|ai<|fM U<|ai<|ai<|aI<|KK C<|WS fun _ A7=>rP 2 [] mn ?_
  refine RK A7<|av<|Q1 hQ U U U ?_
  exact cI (j9 A (sY hp (fun q=>by have q0:=xR q B; have AA:=q.id; have O:=q.l7; have V:=q.gM; have W:=q.fault; simp only [qS] at O; omega))).symm
 refine rP 6 [0,1] (mc 5 U (mc 3 U mn)) ?_
 refine eJ (xs:=[.tmp 91]) (cs:=[(vI p.iM)]) U dJ kY U U U U (by simp [Value.cells]) U U fun Gq=>?_
 refine rS (CL (dN.eq (jk 0 ((j.aC.length:Int)-1) ([p.iM]) (some ⟨Gq,0,none⟩) 1 (by (simp; done))) cH) (aD (br 0 U U (by simp [bR]) U)<|aN) U) ?_
 refine bG 2 U<|RK AB<|aq fun _ L=>WS fun _ v=>rP 1 [] mn ?_
 refine RK v<|bV U (aW fun T=>?_) (aV fun T=>?_)
 ·refine WK L<|aq fun _ Ae=>WS fun _ A0=>rP 2 [] mn ?_
  refine RK A0<|bV U (bx fun F=>?_) (bB fun F=>?_)
  ·refine WK Ae<|ay<|fD 3 [] (mc 4 U mn) U<|aJ<|aO<|KK R<|ay<|rP 2 [] mn ?_
   refine aJ ?_
   have Di:(vI (qh j (k+1)))=(vI p.Id):=by exact cI (oR hp)
   have Do:(vI (((k+1):Nat):Int))=(vI ((k:Int)+1)):=by exact cI I
   refine bj (P ⟨(k+1),(by exact absurd F T)⟩ _ _ _ U os (cQ 4<|bk U Di<|bk U Do<|dx.nil _) (aS [5,6,7,8,9,10,11,12,13,14,15,16,17]))
  refine WS fun _ A1=>bG 1 U<|RK A1<|bL<|ai<|fM U<|ai<|ai<|aI<|KK C<|WS fun _ A2=>rP 2 [] mn ?_
  refine RK A2<|av<|Q1 hQ U U U ?_
  exact cI (j9 A (sY hp (fun q=>by have q0:=xR q B; have AA:=q.id; have O:=q.l7; have V:=q.gM; have W:=q.fault; simp only [qS] at O; omega))).symm
 refine aq fun _ w=>dT cy [11,12] [] [] [0,1,2,3,4,5,6,7,8,9,10,11,12,13,14,15,16,17] [] U U U U U<|eS U (FA 0 U eP U)<|eS U (FA 10 U eP U)<|eS U (L1 (vS heA j.Race.aA.length heC) 6 U cf U U)<|eS U (FA 2 U eP U)<|eS U (L1 (vI p.jo) 4 U cf U U) ?_
 have Kc:=(d_ A).2
 obtain ⟨ht,K⟩:=aM j.Race.aA ((p.jo).toNat) I
 obtain ⟨E,J⟩:=aM ha ((p.jo).toNat) I
 have Eq:(List.zipWith cq j.Race.aA ha)[(p.jo).toNat]? =some (cq ht E):=dH K J
 refine eS U (IA ((p.jo).toNat) U (aF 14 U) oQ dc I I)<|eS U (hP ((p.jo).toNat) 0 (vS E.1.1 ht.length E.1.2) U cf (aF 14 U) Eq U dc U)<|eS U (FA 1 U eP U) ?_
 have EQ:=E1.gM _ _ _ K J
 have La:=EQ.n_
 have Li:=(Kc.gM ht (aQ K)).1
 refine eS U (L1 (vI p.iX) 4 U cf U U) ?_
 obtain ⟨d,hd⟩:=aM ht ((p.iX).toNat) I
 obtain ⟨da,J3⟩:=aM E.2 ((p.iX).toNat) I
 have J4:(List.zipWith ao.cells ht E.2)[(p.iX).toNat]? =some (ao.cells d da):=dH hd J3
 refine eS U (IA ((p.iX).toNat) U (show jC _ (rd E.1.1 ht.length 7 (List.zipWith ao.cells ht E.2)).holds from (cW 15 U (bT K J cD))) r8 dc I I) ?_
 have M:=p_ (j:=j) (p:=p) K hd
 have Or:=EQ.sig d (aQ hd)
 refine eS U (mq ((p.iX).toNat) 0 (aP.cells (aP.mk d.Out d.cY d.Time (cM.mk d.aZ.Start d.aZ.fI (bE.mk da.1 d.aZ.aa.length da.2)))) U cf (show jC _ (rd E.1.1 ht.length 7 (List.zipWith ao.cells ht E.2)).holds from (cW 15 U (bT K J cD))) J4 U dc U U)<|eN U<|cm U fun T43 C0=>AL U BZ fun M2=>aJ (C0 _ _ (aS [1,2,3,4,5,6,7,8,9,10,11,12,13,14,15,16,17,18]) ?_)
 refine cm U fun T45 C1=>gl U Ht U<|aJ (C1 _ _ (aS [1,2,3,4,5,6,7,8,9,10,11,12,13,14,15,16,17,18]) ?_)
 refine f_ U<|KK w<|ay<|fD 1 [] (mc 0 U mn) U<|rS (CL (vi d.Out d.cY d.Time (cM.mk d.aZ.Start d.aZ.fI (bE.mk da.1 d.aZ.aa.length da.2))) (aN) U)<|rP 1 [] mn ?_
 refine cu (t:=109) U (aW fun H=>?_) (aV fun H=>?_)
 ·refine bG 9 U<|RK L<|aq fun _ K8=>WS fun _ AO=>bG 2 U<|RK AO<|aU U<|WS fun _ AR=>bG 1 U<|RK AR<|bL<|ai<|fM U<|ai<|ai<|aI<|KK C<|WS fun _ AY=>rP 2 [] mn ?_
  refine RK AY<|av<|Q1 hQ U U U ?_
  exact cI (j9 A (sY hp (fun q=>by obtain ⟨d2,X,r1,r2⟩:=q.jL; rw [M] at X; cases X; first|exact H r1|omega))).symm
 refine rP 5 [0,1] (mc 0 U (mc 5 U mn)) ?_
 refine eJ (xs:=[.tmp 114]) (cs:=[(vI p.At)]) U dJ kY U U U U (by simp [Value.cells]) U U fun Hi=>?_
 refine rS (CL (dN.eq (jk d.aZ.Start 86400000 ([p.At]) (some ⟨Hi,0,none⟩) 1 (by (simp; done))) cH) (aD (br 0 U U (by simp [bR]) U)<|aN) U) ?_
 refine bG 2 U<|RK L<|aq fun _ x=>WS fun _ y=>rP 2 [] mn ?_
 refine RK y<|bV U (bx fun F=>?_) (bB fun F=>?_)
 ·refine WK x<|ay<|fD 3 [] (mc 6 U mn) U<|aJ<|aO<|KK R<|ay<|rP 2 [] mn ?_
  refine aJ ?_
  have C2:(vI (qh j (k+1)))=(vI p.Id):=by exact cI (oR hp)
  have C3:(vI (((k+1):Nat):Int))=(vI ((k:Int)+1)):=by exact cI I
  refine bj (P ⟨(k+1),(by exact ⟨I,ub D hp (OZ hp Y J6.1 Z a T M H F)⟩)⟩ _ _ _ U os (cQ 4<|bk U C2<|bk U C3<|dx.nil _) (aS [7,8,9,10,11,12,13,14,15,16,17,18,19]))
 refine WS fun _ AC=>bG 1 U<|RK AC<|bL<|ai<|fM U<|ai<|ai<|aI<|KK C<|WS fun _ AD=>rP 2 [] mn ?_
 refine RK AD<|av<|Q1 hQ U U U ?_
 exact cI (j9 A (sY hp (fun q=>by obtain ⟨d2,X,r1,r2⟩:=q.jL; rw [M] at X; cases X; first|exact H r1|omega))).symm
theorem vf (j:cR) (kA:OA) (kC:Nat) (az:List RA) (cA:OA) (cC:Nat) (bA:OA) (bC:Nat) (slA:OA) (slC:Nat) (drA:OA) (drC:Nat) (ha:List cN) (heA:OA) (heC:Nat) (faA:OA) (faC:Nat) (prA:OA) (prC:Nat) (hin:gY j az ha):
 dN Tryz.prog 29 [(vA (eD.cells (nN j kA kC cA cC bA bC slA slC drA drC heA heC faA faC prA prC)))] [(rd gK 3 2 fK),(rd kA j.Race.ak.aR.length 9 (j.Race.ak.aR.map ar.cells)),(rd cA j.Race.ak.aj.length 2 (List.zipWith ax.cells j.Race.ak.aj az)),(dV (a_ ax.gG j.Race.ak.aj az)),(rd bA j.Race.ak.ab.length 4 (j.Race.ak.ab.map bJ.cells)),(rd slA j.Race.aY.length 1 (j.Race.aY.map iC)),(rd drA j.Race.b_.length 1 (j.Race.b_.map iC)),(rd heA j.Race.aA.length 1 (List.zipWith cq j.Race.aA ha)),(dV (a_ eV j.Race.aA ha)),(rd faA j.aC.length 4 (j.aC.map aL.cells)),(rd prA j.aw.length 5 (j.aw.map aT.cells))] (vT [(vA (db.cells (db.mk (nN j kA kC cA cC bA bC slA slC drA drC heA heC faA faC prA prC)))),(vI (di j))]):=by
 refine bH kr Tryz.func29 U U fun E Q hQ hN=>?_
 try dsimp only
 refine WS fun _ A=>eT U fun C=>AL U HM fun D=>bG 1 U<|RK A<|aq fun _ B=>dy cy 4 kr<|mz 1 [] (mc 1 U mn) U<|dS (SX (bp (xs:=[(0,.tmp 4)]) (cs:=(db.cells (db.mk (nN j kA kC cA cC bA bC slA slC drA drC heA heC faA faC prA prC)))) U U (bo VU U)) U U)<|mz 1 [] (mc 1 U mn) U<|dS (CL (Je j kA kC az cA cC bA bC slA slC drA drC ha heA heC faA faC prA prC hin) (bq [2,3,4,5,6,7,8,9,10,11,12]) U)<|cO<|gl U HJ U<|rP 1 [] mn ?_
 refine RK B<|av<|nE hQ [0] (mc 0 U mn) U ?_
 rfl
end
section
open Go.RowKit
theorem Bn (j:cR) (kA:OA) (kC:Nat) (az:List RA) (cA:OA) (cC:Nat) (bA:OA) (bC:Nat) (slA:OA) (slC:Nat) (drA:OA) (drC:Nat) (ha:List cN) (heA:OA) (heC:Nat) (faA:OA) (faC:Nat) (prA:OA) (prC:Nat) (kq hq sq:Int) (hin:gY j az ha):
 dN Tryz.prog 12 [(vA (eD.cells (nN j kA kC cA cC bA bC slA slC drA drC heA heC faA faC prA prC))),(vI kq),(vI hq),(vI sq)] [(rd gK 3 2 fK),(rd kA j.Race.ak.aR.length 9 (j.Race.ak.aR.map ar.cells)),(rd cA j.Race.ak.aj.length 2 (List.zipWith ax.cells j.Race.ak.aj az)),(dV (a_ ax.gG j.Race.ak.aj az)),(rd bA j.Race.ak.ab.length 4 (j.Race.ak.ab.map bJ.cells)),(rd slA j.Race.aY.length 1 (j.Race.aY.map iC)),(rd drA j.Race.b_.length 1 (j.Race.b_.map iC)),(rd heA j.Race.aA.length 1 (List.zipWith cq j.Race.aA ha)),(dV (a_ eV j.Race.aA ha)),(rd faA j.aC.length 4 (j.aC.map aL.cells)),(rd prA j.aw.length 5 (j.aw.map aT.cells))] (vT [(Value.int .u8 (nJ j kq hq sq)),(vI (mo j kq hq sq))]):=by
 have O:=hin.race
 have n:=hin.race.line
 have AC:=hin.race.iJ
 have AD:=hin.race.has
 have x:=hin.race.iK
 have r:=hin.nf
 have w:=hin.np
 refine bH kr Tryz.func12 U U fun w0 Q hQ hN=>?_
 try dsimp only
 refine WS fun _ W=>eT U fun b2=>bG 2 U<|RK W<|WS fun _ X=>fD 1 [] (mc 0 U mn) U<|rS (CL (vf j kA kC az cA cC bA bC slA slC drA drC ha heA heC faA faC prA prC hin) (bq [1,2,3,4,5,6,7,8,9,10,11]) U)<|bG 3 U<|AL U HM fun b4=>gl U HJ U<|bG 1 U<|RK X<|aq fun _ Y=>WS fun _ Z=>rP 2 [] mn ?_
 refine RK Z<|cG U (bB fun B=>?_) (bx fun B=>?_)
 ·refine WS fun _ a=>rP 3 [] mn ?_
  refine RK a<|av<|Q2 hQ U U U U ?_
  (have e:=Iu (k:=kq) (h:=hq) (s:=sq) B; rw [e.1,e.2]; done)
 refine WK Y<|aq fun _ b=>WS fun _ E=>rP 5 [] (mc 1 U mn) ?_
 refine eJ (xs:=[.tmp 24]) (cs:=[(vI kq)]) U dJ kY U U U U (by simp [Value.cells]) U U fun P=>?_
 refine rS (CL (dN.eq (jk 0 ((j.aC.length:Int)-1) ([kq]) (some ⟨P,0,none⟩) 1 (by (simp; done))) cH) (aD (br 0 U U (by simp [bR]) U)<|aN) U) ?_
 refine rP 2 [] mn ?_
 refine cg (t:=28) U (bB fun T=>?_) (bx fun T=>?_)
 ·refine bG 21 U<|RK E<|aU U<|WS fun _ F=>rP 2 [] mn ?_
  refine RK F<|av<|Q2 hQ U U U U ?_
  (have e:=v8 (k:=kq) (h:=hq) (s:=sq) B (fun q=>by unfold ko at q; omega); rw [e.1,e.2]; done)
 refine rP 6 [] (mc 2 U mn) ?_
 refine eJ (xs:=[.tmp 34]) (cs:=[(vI hq)]) U dJ kY U U U U (by simp [Value.cells]) U U fun R=>?_
 refine rS (CL (dN.eq (jk 0 ((j.Race.aA.length:Int)-1) ([hq]) (some ⟨R,0,none⟩) 1 (by (simp; done))) cH) (aD (br 0 U U (by simp [bR]) U)<|aN) U) ?_
 refine rP 3 [] mn ?_
 refine cg (t:=39) U (bB fun AA=>?_) (bx fun AA=>?_)
 ·refine bG 10 U<|RK E<|aU U<|WS fun _ G=>rP 2 [] mn ?_
  refine RK G<|av<|Q2 hQ U U U U ?_
  (have e:=v8 (k:=kq) (h:=hq) (s:=sq) B (fun q=>by unfold ko at q; omega); rw [e.1,e.2]; done)
 refine rP 6 [] (mc 3 U mn) ?_
 refine eJ (xs:=[.tmp 45]) (cs:=[(vI sq)]) U dJ kY U U U U (by simp [Value.cells]) U U fun S=>?_
 refine rS (CL (dN.eq (jk 0 ((j.Race.aY.length:Int)-1) ([sq]) (some ⟨S,0,none⟩) 1 (by (simp; done))) cH) (aD (br 0 U U (by simp [bR]) U)<|aN) U) ?_
 refine rP 2 [] mn ?_
 refine RK E<|cG U (bB fun V=>?_) (bx fun V=>?_)
 ·refine WS fun _ H=>rP 2 [] mn ?_
  refine RK H<|av<|Q2 hQ U U U U ?_
  (have e:=v8 (k:=kq) (h:=hq) (s:=sq) B (fun q=>by unfold ko at q; omega); rw [e.1,e.2]; done)
 refine WK b<|aq fun _ AB=>dy cy 18 kr<|dP 4 [0,1] (mc 3 U (mc 4 U mn)) ?_
 have N:=(dF B).1
 have l:=(dF B).2
 have m:=(d_ N).1
 have o:=(d_ N).2
 have i:=(dq m).2.head
 unfold eY at i
 obtain ⟨f,hf⟩:=aM j.aC ((kq).toNat) I
 have g:=bQ aL.cells hf
 refine dS (IA ((kq).toNat) U (aF 14 U) vV dc I I)<|dS (mq ((kq).toNat) 0 (aL.cells f) U cf (aF 14 U) g U dc U U)<|dP 4 [] (mc 4 U mn) ?_
 obtain ⟨ht,D⟩:=aM j.Race.aA ((hq).toNat) I
 obtain ⟨A,C⟩:=aM ha ((hq).toNat) I
 have M:(List.zipWith cq j.Race.aA ha)[(hq).toNat]? =some (cq ht A):=dH D C
 refine dS (IA ((hq).toNat) U (aF 12 U) oQ dc I I) ?_
 have L:=O.gM _ _ _ D C
 have u:=L.n_
 have v:=(o.gM ht (aQ D)).1
 refine dS (hP ((hq).toNat) 0 (vS A.1.1 ht.length A.1.2) U cf (aF 12 U) M U dc U)<|dP 1 [] mn ?_
 have p:=L.sig
 have K:=l.fault f (aQ hf)
 have z:0≤f.eW∧f.eW≤1000000:=by have y:=K.2.2; split at y<;>omega
 obtain ⟨d,hd⟩:=aM ht ((sq).toNat) I
 obtain ⟨da,J⟩:=aM A.2 ((sq).toNat) I
 have c:(List.zipWith ao.cells ht A.2)[(sq).toNat]? =some (ao.cells d da):=dH hd J
 refine dS (IA ((sq).toNat) U (show jC _ (rd A.1.1 ht.length 7 (List.zipWith ao.cells ht A.2)).holds from (cW 13 U (bT D C cD))) r8 dc I I)<|dS (mq ((sq).toNat) 0 (aP.cells (aP.mk d.Out d.cY d.Time (cM.mk d.aZ.Start d.aZ.fI (bE.mk da.1 d.aZ.aa.length da.2)))) U cf (show jC _ (rd A.1.1 ht.length 7 (List.zipWith ao.cells ht A.2)).holds from (cW 13 U (bT D C cD))) c U dc U U) ?_
 have AO:=p d (aQ hd)
 refine dS (CL (Bk j kA kC az cA cC bA bC slA slC drA drC ha heA heC faA faC prA prC f d da.1 da.2 hin (by exact K.1) asm asm) (pC [6,7,8,9,10,11,12,13,14,15]<|aD (show jC _ (rd da.1 d.aZ.aa.length 2 (d.aZ.aa.map aH.cells)).holds from (cW 13 U (bT D C (dU _ (bT hd J (by simp [ao.gG]))))))<|aN) U)<|dP 2 [] mn ?_
 refine cO<|RK AB<|av<|Q2 hQ U U U U ?_
 (have e:=vx (k:=kq) (h:=hq) (s:=sq) B (by unfold ko; omega) hf D hd; rw [e.1,e.2]; done)
theorem R_ (j:cR) (kA:OA) (kC:Nat) (az:List RA) (cA:OA) (cC:Nat) (bA:OA) (bC:Nat) (slA:OA) (slC:Nat) (drA:OA) (drC:Nat) (ha:List cN) (heA:OA) (heC:Nat) (faA:OA) (faC:Nat) (prA:OA) (prC:Nat) (iq:Int) (hin:gY j az ha):
 dN Tryz.prog 13 [(vA (eD.cells (nN j kA kC cA cC bA bC slA slC drA drC heA heC faA faC prA prC))),(vI iq)] [(rd gK 3 2 fK),(rd kA j.Race.ak.aR.length 9 (j.Race.ak.aR.map ar.cells)),(rd cA j.Race.ak.aj.length 2 (List.zipWith ax.cells j.Race.ak.aj az)),(dV (a_ ax.gG j.Race.ak.aj az)),(rd bA j.Race.ak.ab.length 4 (j.Race.ak.ab.map bJ.cells)),(rd slA j.Race.aY.length 1 (j.Race.aY.map iC)),(rd drA j.Race.b_.length 1 (j.Race.b_.map iC)),(rd heA j.Race.aA.length 1 (List.zipWith cq j.Race.aA ha)),(dV (a_ eV j.Race.aA ha)),(rd faA j.aC.length 4 (j.aC.map aL.cells)),(rd prA j.aw.length 5 (j.aw.map aT.cells))] (vT [(Value.int .u8 (wU j iq)),(vI (u0 j iq))]):=by
 have R:=hin.race
 have M:=hin.race.line
 have T:=hin.race.iJ
 have AA:=hin.race.has
 have S:=hin.race.iK
 have O:=hin.nf
 have P:=hin.np
 refine bH kr Tryz.func13 U U fun X Q hQ hN=>?_
 try dsimp only
 refine WS fun _ F=>eT U fun V=>bG 2 U<|RK F<|WS fun _ G=>fD 1 [] (mc 0 U mn) U<|rS (CL (vf j kA kC az cA cC bA bC slA slC drA drC ha heA heC faA faC prA prC hin) (bq [1,2,3,4,5,6,7,8,9,10,11]) U)<|bG 3 U<|AL U HM fun W=>gl U HJ U<|bG 1 U<|RK G<|aq fun _ H=>WS fun _ AB=>rP 2 [] mn ?_
 refine RK AB<|cG U (bB fun A=>?_) (bx fun A=>?_)
 ·refine WS fun _ J=>rP 3 [] mn ?_
  refine RK J<|av<|Q2 hQ U U U U ?_
  (have e:=M3 (i:=iq) A; rw [e.1,e.2]; done)
 refine WK H<|aq fun _ K=>WS fun _ L=>rP 5 [] (mc 1 U mn) ?_
 refine eJ (xs:=[.tmp 20]) (cs:=[(vI iq)]) U dJ kY U U U U (by simp [Value.cells]) U U fun D=>?_
 refine rS (CL (dN.eq (jk 0 ((j.aw.length:Int)-1) ([iq]) (some ⟨D,0,none⟩) 1 (by (simp; done))) cH) (aD (br 0 U U (by simp [bR]) U)<|aN) U) ?_
 refine rP 1 [] mn ?_
 refine RK L<|cG U (bB fun E=>?_) (bx fun E=>?_)
 ·refine WS fun _ B=>rP 2 [] mn ?_
  refine RK B<|av<|Q2 hQ U U U U ?_
  (have e:=JV (i:=iq) A I; rw [e.1,e.2]; done)
 refine WK K<|aq fun _ C=>dy cy 9 kr<|dP 4 [0,1] (mc 1 U (mc 2 U mn)) ?_
 obtain ⟨p,hp⟩:=aM j.aw ((iq).toNat) I
 have N:=bQ aT.cells hp
 refine dS (IA ((iq).toNat) U (aF 13 U) zI dc I I)<|dS (mq ((iq).toNat) 0 (aT.cells p) U cf (aF 13 U) N U dc U U)<|dS (CL (Ks j kA kC az cA cC bA bC slA slC drA drC ha heA heC faA faC prA prC p hin asm (by exact ⟨_,hp⟩)) (bq [4,5,6,7,8,9,10,11,12,13]) U)<|dP 2 [] mn ?_
 refine cO<|RK C<|av<|Q2 hQ U U U U ?_
 (have e:=Bx (i:=iq) A I hp; rw [e.1,e.2]; done)
theorem vy (j:cR) (kA:OA) (kC:Nat) (az:List RA) (cA:OA) (cC:Nat) (bA:OA) (bC:Nat) (slA:OA) (slC:Nat) (drA:OA) (drC:Nat) (ha:List cN) (heA:OA) (heC:Nat) (faA:OA) (faC:Nat) (prA:OA) (prC:Nat) (hin:gY j az ha):
 qB Tryz.prog 10 [(vA (eD.cells (nN j kA kC cA cC bA bC slA slC drA drC heA heC faA faC prA prC)))] [(rd gK 3 2 fK),(rd kA j.Race.ak.aR.length 9 (j.Race.ak.aR.map ar.cells)),(rd cA j.Race.ak.aj.length 2 (List.zipWith ax.cells j.Race.ak.aj az)),(dV (a_ ax.gG j.Race.ak.aj az)),(rd bA j.Race.ak.ab.length 4 (j.Race.ak.ab.map bJ.cells)),(rd slA j.Race.aY.length 1 (j.Race.aY.map iC)),(rd drA j.Race.b_.length 1 (j.Race.b_.map iC)),(rd heA j.Race.aA.length 1 (List.zipWith cq j.Race.aA ha)),(dV (a_ eV j.Race.aA ha)),(rd faA j.aC.length 4 (j.aC.map aL.cells)),(rd prA j.aw.length 5 (j.aw.map aT.cells))] (fun (x:(OA)×Nat)=>(vT [(vS x.1 ((iE j).length) x.2),(vI (di j))])) (fun (x:(OA)×Nat)=>True) (fun (x:(OA)×Nat)=>[(own x.1 x.2 3 1 ((iE j).map iC))]):=by
 have S:=hin.race
 have L:=hin.race.line
 have V:=hin.race.iJ
 have W:=hin.race.has
 have T:=hin.race.iK
 have P:=hin.nf
 have R:=hin.np
 refine fO kr Tryz.func10 U U fun a Q hQ hN=>?_
 try dsimp only
 refine WS fun _ E=>eT U fun Y=>bG 1 U<|bG 1 U<|RK E<|WS fun _ F=>fD 1 [] (mc 0 U mn) U<|rS (CL (vf j kA kC az cA cC bA bC slA slC drA drC ha heA heC faA faC prA prC hin) (bq [1,2,3,4,5,6,7,8,9,10,11]) U)<|bG 3 U<|AL U HM fun Z=>gl U HJ U<|bG 1 U<|RK F<|aq fun _ G=>WS fun _ H=>rP 2 [] mn ?_
 refine RK H<|cG U (bB fun A=>?_) (bx fun A=>?_)
 ·refine WS fun _ AB=>lY 3 1 ?_
  rw [show (own none 0 3 1 ([]:List (List Value)))=own none 0 3 1 ((iE j).map iC) from by rw [yJ A]; rfl]
  refine bG 2 U<|rP 1 [] mn ?_
  refine RK AB<|av ?_
  refine LX hQ (none,0) [0] [] mn U U U ?_ ?_
  ·(rw [yJ A]; rfl)
  ·trivial
 refine WK G<|WS fun _ J=>rP 3 [0,1] (mc 1 U (mc 0 U mn)) ?_
 refine rS (FU U) ?_
 refine cX (AH j.aw prA prC (Value.func (.func 31) [(vA (db.cells (db.mk (nN j kA kC cA cC bA bC slA slC drA drC heA heC faA faC prA prC))))].toArray [].toArray) (fun N B=>(gO j B)) (dV [(rd kA j.Race.ak.aR.length 9 (j.Race.ak.aR.map ar.cells)),(rd cA j.Race.ak.aj.length 2 (List.zipWith ax.cells j.Race.ak.aj az)),(dV (a_ ax.gG j.Race.ak.aj az)),(rd bA j.Race.ak.ab.length 4 (j.Race.ak.ab.map bJ.cells)),(rd slA j.Race.aY.length 1 (j.Race.aY.map iC)),(rd drA j.Race.b_.length 1 (j.Race.b_.map iC)),(rd heA j.Race.aA.length 1 (List.zipWith cq j.Race.aA ha)),(dV (a_ eV j.Race.aA ha)),(rd faA j.aC.length 4 (j.aC.map aL.cells)),(rd prA j.aw.length 5 (j.aw.map aT.cells))]) (by intro N B M; exact lJ (fi:=[(vA (db.cells (db.mk (nN j kA kC cA cC bA bC slA slC drA drC heA heC faA faC prA prC))))]) (ca:=[]) (kh (wB j kA kC az cA cC bA bC slA slC drA drC ha heA heC faA faC prA prC N B asm asm (by (obtain ⟨X,_,K⟩:=M; exact ⟨X,K⟩))) (bq [0,1,2,3,4,5,6,7,8,9]))) asm) (gX 12 rfl rfl<|aD (kg (bq [3,4,5,6,7,8,9,10,11,12]))<|aN) rfl fun O AA=>?_
 obtain ⟨C,D⟩:=O
 try dsimp only
 refine rP 1 [] mn ?_
 rw [show (mA (iL j.aw (fun N B=>(gO j B))) j.aw.length)=iE j from by rw [j2 A]; rfl]
 refine rP 1 [] mn ?_
 refine RK J<|av ?_
 refine LX hQ (C,D) [0] [] mn U U U ?_ ?_
 ·(rw [A]; rfl)
 ·trivial
theorem Bl (j:cR) (kA:OA) (kC:Nat) (az:List RA) (cA:OA) (cC:Nat) (bA:OA) (bC:Nat) (slA:OA) (slC:Nat) (drA:OA) (drC:Nat) (ha:List cN) (heA:OA) (heC:Nat) (faA:OA) (faC:Nat) (prA:OA) (prC:Nat) (hin:gY j az ha):
 dN Tryz.prog 15 [(vA (eD.cells (nN j kA kC cA cC bA bC slA slC drA drC heA heC faA faC prA prC)))] [(rd gK 3 2 fK),(rd kA j.Race.ak.aR.length 9 (j.Race.ak.aR.map ar.cells)),(rd cA j.Race.ak.aj.length 2 (List.zipWith ax.cells j.Race.ak.aj az)),(dV (a_ ax.gG j.Race.ak.aj az)),(rd bA j.Race.ak.ab.length 4 (j.Race.ak.ab.map bJ.cells)),(rd slA j.Race.aY.length 1 (j.Race.aY.map iC)),(rd drA j.Race.b_.length 1 (j.Race.b_.map iC)),(rd heA j.Race.aA.length 1 (List.zipWith cq j.Race.aA ha)),(dV (a_ eV j.Race.aA ha)),(rd faA j.aC.length 4 (j.aC.map aL.cells)),(rd prA j.aw.length 5 (j.aw.map aT.cells))] (vT [(vI (wm j)),(vI (wc j)),(vI (di j))]):=by
 have R:=hin.race
 have M:=hin.race.line
 have Y:=hin.race.iJ
 have Z:=hin.race.has
 have S:=hin.race.iK
 have O:=hin.nf
 have P:=hin.np
 refine bH kr Tryz.func15 U U fun k Q hQ hN=>?_
 try dsimp only
 refine WS fun _ G=>eT U fun f=>bG 3 U<|RK G<|WS fun _ H=>rP 1 [] (mc 0 U mn) ?_
 refine cX (vy j kA kC az cA cC bA bC slA slC drA drC ha heA heC faA faC prA prC hin) (bq [1,2,3,4,5,6,7,8,9,10,11]) U fun c b=>?_
 obtain ⟨d,g⟩:=c
 try dsimp only
 refine bG 5 U<|RK H<|aq fun _ AB=>WS fun _ J=>rP 2 [] mn ?_
 refine RK J<|cG U (bB fun A=>?_) (bx fun A=>?_)
 ·refine WS fun _ D=>rP 4 [] mn ?_
  refine RK D<|av<|Q3 hQ U U U U U ?_
  (have e:=HY A; rw [e.1,e.2]; done)
 refine WK AB<|WS fun _ E=>?_
 have C:=(dF A).2
 have X:(iE j).length≤8:=by have h:=C.np; have i:=x8 (j:=j); rw [j2 A]; omega
 have B:=C.ui
 have N:=C.np
 have K:=Fx (a:=((iE j).length:Int)) ⟨I,I⟩ B
 have L:=Fx (a:=(j.aw.length:Int)) ⟨I,I⟩ B
 have T:=Int.mul_le_mul_of_nonneg_right (show (0:Int)≤((iE j).length:Int) by omega) B.1
 have AA:=Int.mul_le_mul_of_nonneg_right (show ((iE j).length:Int)≤8 by omega) B.1
 have V:=Int.mul_le_mul_of_nonneg_right (show (0:Int)≤(j.aw.length:Int) by omega) B.1
 have W:=Int.mul_le_mul_of_nonneg_right N B.1
 refine fD 4 [] (mc 1 U mn) U<|rS (BI U (uT K))<|bG 1 U<|RK E<|aq fun _ F=>dy cy 12 kr<|mz 6 [] (mc 1 U mn) U<|dS (BI U (uT L))<|dP 5 [] mn ?_
 refine cO<|RK F<|av<|Q3 hQ U U U U U ?_
 (have e:=oB A; rw [e.1,e.2,A,j2 A]; rfl)
theorem Mx (i:Int) (p:aT) (sq:Int) (g1:Nat) (j:cR) (kA:OA) (kC:Nat) (az:List RA) (cA:OA) (cC:Nat) (bA:OA) (bC:Nat) (slA:OA) (slC:Nat) (drA:OA) (drC:Nat) (ha:List cN) (heA:OA) (heC:Nat) (faA:OA) (faC:Nat) (prA:OA) (prC g2:Nat) (hin:gY j az ha) (hok:di j=0) (hp: ∃ i:Nat,j.aw[i]? =some p):
 dN Tryz.prog 36 [(vI i),(vA (aT.cells p)),(vP g1),(vP g2)] [(cv g1 3 [(vI sq)]),(rd kA j.Race.ak.aR.length 9 (j.Race.ak.aR.map ar.cells)),(rd cA j.Race.ak.aj.length 2 (List.zipWith ax.cells j.Race.ak.aj az)),(dV (a_ ax.gG j.Race.ak.aj az)),(rd bA j.Race.ak.ab.length 4 (j.Race.ak.ab.map bJ.cells)),(rd slA j.Race.aY.length 1 (j.Race.aY.map iC)),(rd drA j.Race.b_.length 1 (j.Race.b_.map iC)),(rd heA j.Race.aA.length 1 (List.zipWith cq j.Race.aA ha)),(dV (a_ eV j.Race.aA ha)),(rd faA j.aC.length 4 (j.aC.map aL.cells)),(rd prA j.aw.length 5 (j.aw.map aT.cells)),(cv g2 93 (db.cells (db.mk (nN j kA kC cA cC bA bC slA slC drA drC heA heC faA faC prA prC))))] (vB (AW j sq p)):=by
 refine bH kr Tryz.func36 U U fun E Q hQ hN=>?_
 try dsimp only
 refine WS fun _ C=>eT U fun D=>bG 1 U<|RK C<|WS fun _ B=>rP 5 [0,1] (mc 0 U (mr 1 U mn)) ?_
 refine cu (t:=11) U (aW fun A=>?_) (aV fun A=>?_)
 ·refine rP 7 [] mn ?_
  refine RK B<|av<|Q1 hQ U U U ?_
  (rw [OQ A]; done)
 refine fD 3 [0,1] (mr 12 U (mc 0 U mn)) U<|rS (CL (wB j kA kC az cA cC bA bC slA slC drA drC ha heA heC faA faC prA prC i p hin hok hp) (bq [2,3,4,5,6,7,8,9,10,11]) U)<|rP 3 [] mn ?_
 refine RK B<|av<|Q1 hQ U U U ?_
 (rw [Js A]; done)
theorem Nx (j:cR) (kA:OA) (kC:Nat) (az:List RA) (cA:OA) (cC:Nat) (bA:OA) (bC:Nat) (slA:OA) (slC:Nat) (drA:OA) (drC:Nat) (ha:List cN) (heA:OA) (heC:Nat) (faA:OA) (faC:Nat) (prA:OA) (prC:Nat) (sq:Int) (hin:gY j az ha):
 dN Tryz.prog 16 [(vA (eD.cells (nN j kA kC cA cC bA bC slA slC drA drC heA heC faA faC prA prC))),(vI sq)] [(rd gK 3 2 fK),(rd kA j.Race.ak.aR.length 9 (j.Race.ak.aR.map ar.cells)),(rd cA j.Race.ak.aj.length 2 (List.zipWith ax.cells j.Race.ak.aj az)),(dV (a_ ax.gG j.Race.ak.aj az)),(rd bA j.Race.ak.ab.length 4 (j.Race.ak.ab.map bJ.cells)),(rd slA j.Race.aY.length 1 (j.Race.aY.map iC)),(rd drA j.Race.b_.length 1 (j.Race.b_.map iC)),(rd heA j.Race.aA.length 1 (List.zipWith cq j.Race.aA ha)),(dV (a_ eV j.Race.aA ha)),(rd faA j.aC.length 4 (j.aC.map aL.cells)),(rd prA j.aw.length 5 (j.aw.map aT.cells))] (vT [(vI (tT j sq)),(vI (r9 j sq))]):=by
 have c:=hin.race
 have W:=hin.race.line
 have i:=hin.race.iJ
 have k:=hin.race.has
 have d:=hin.race.iK
 have Z:=hin.nf
 have b:=hin.np
 refine bH kr Tryz.func16 U U fun q Q hQ hN=>?_
 try dsimp only
 refine WS fun _ M=>eT U fun o=>xV U U fun AB=>bG 2 U<|RK M<|WS fun _ N=>fD 1 [] (mc 1 U mn) U<|rS (CL (vf j kA kC az cA cC bA bC slA slC drA drC ha heA heC faA faC prA prC hin) (bq [2,3,4,5,6,7,8,9,10,11,12]) U)<|bG 3 U<|AL U HM fun J=>gl U HJ U<|bG 1 U<|RK N<|aq fun _ O=>WS fun _ P=>rP 2 [] mn ?_
 refine RK P<|cG U (bB fun A=>?_) (bx fun A=>?_)
 ·refine WS fun _ R=>rP 3 [] mn ?_
  refine RK R<|av<|Q2 hQ U U U U ?_
  (have e:=HR (s:=sq) A; rw [e.1,e.2]; done)
 refine WK O<|aq fun _ S=>WS fun _ C=>rP 6 [0,1] (mc 2 U (mc 1 U mn)) ?_
 refine eJ (xs:=[.tmp 22]) (cs:=[(vI sq)]) U dJ kY U U U U (by simp [Value.cells]) U U fun K=>?_
 refine rS (CL (dN.eq (jk 0 ((j.Race.aY.length:Int)-1) ([sq]) (some ⟨K,0,none⟩) 1 (by (simp; done))) cH) (aD (br 0 U U (by simp [bR]) U)<|aN) U) ?_
 refine rP 1 [] mn ?_
 refine RK C<|cG U (bB fun L=>?_) (bx fun L=>?_)
 ·refine WS fun _ D=>rP 2 [] mn ?_
  refine RK D<|av<|Q2 hQ U U U U ?_
  (have e:=G7 (s:=sq) A I; rw [e.1,e.2]; done)
 refine WK S<|WS fun _ E=>rP 2 [] (mc 3 U mn) ?_
 refine rS (FU U) ?_
 refine cX (AH j.aw prA prC (Value.func (.func 36) [].toArray [(vP AB),(vP J)].toArray) (fun H B=>(AW j sq B)) (dV [(cv AB 3 [(vI sq)]),(rd kA j.Race.ak.aR.length 9 (j.Race.ak.aR.map ar.cells)),(rd cA j.Race.ak.aj.length 2 (List.zipWith ax.cells j.Race.ak.aj az)),(dV (a_ ax.gG j.Race.ak.aj az)),(rd bA j.Race.ak.ab.length 4 (j.Race.ak.ab.map bJ.cells)),(rd slA j.Race.aY.length 1 (j.Race.aY.map iC)),(rd drA j.Race.b_.length 1 (j.Race.b_.map iC)),(rd heA j.Race.aA.length 1 (List.zipWith cq j.Race.aA ha)),(dV (a_ eV j.Race.aA ha)),(rd faA j.aC.length 4 (j.aC.map aL.cells)),(rd prA j.aw.length 5 (j.aw.map aT.cells)),(cv J 93 (db.cells (db.mk (nN j kA kC cA cC bA bC slA slC drA drC heA heC faA faC prA prC))))]) (by intro H B X; exact lJ (fi:=[]) (ca:=[(vP AB),(vP J)]) (kh (Mx H B sq AB j kA kC az cA cC bA bC slA slC drA drC ha heA heC faA faC prA prC J asm asm (by (obtain ⟨n,_,V⟩:=X; exact ⟨n,V⟩))) (bq [0,1,2,3,4,5,6,7,8,9,10,11]))) asm) (gX 14 rfl rfl<|aD (kg (bq [2,5,6,7,8,9,10,11,12,13,14,1]))<|aN) rfl fun Y f=>?_
 obtain ⟨g,h⟩:=Y
 try dsimp only
 refine bG 1 U<|RK E<|WS fun _ F=>rP 1 [] mn ?_
 have G:=(dF A).2
 have m:=G.np
 have AA:=G.ui
 have l:(mA (iL j.aw fun _ p=>AW j sq p) j.aw.length).length≤8:=Nat.le_trans pG I
 have T:=Fx (a:= -(((mA (iL j.aw fun _ p=>AW j sq p) j.aw.length).length:Nat):Int)) ⟨I,I⟩ AA
 refine bG 1 U<|rS (NG U ⟨I,I⟩)<|fD 2 [] (mc 4 U mn) U<|rS (BI U (uT T))<|rP 2 [] mn ?_
 refine RK F<|av<|Q2 hQ U U U U ?_
 (have e:=Kp (s:=sq) A I; rw [e.1,e.2]; done)
end
section
open Go.RowKit
theorem KZ (l:List aL) (lA:OA) (lC:Nat) (f:Value) (p:aL→Bool) (X:aB) (hf: ∀ x0,x0∈l→EF Tryz.prog f [.agg (aL.cells x0).toArray] [X] (.bool (p x0))) (hlen:l.length≤1000000):
 dN Tryz.prog 90 [(vS lA l.length lC),f] [(rd lA l.length 4 (l.map aL.cells)),X] (vI (tF p l)):=by
 refine bH kr Tryz.func90 U U fun R Q hQ hN=>?_
 try dsimp only
 refine WS fun _ G=>bG 1 U<|RK G<|aq fun _ H=>WS fun _ AA=>rP 3 [] mn ?_
 refine RK AA<|aG ?_
 have B:(0≤l.length)∧((l.take 0).any p=false):=by simp
 refine bS (ι:={z:Nat // (z≤l.length)∧((l.take z).any p=false)}) [0,1,7] [0,1] U U (fun z=>[(8,(vI (z.1:Int)))]) (fun z=>[]) (fun _=>rfl) (fun _=>rfl) (fun z=>l.length-z.1) ⟨0,B⟩ (bw U) (aS [0,1]) ?_
 clear B
 rintro ⟨i,⟨N,A⟩⟩ J4 F
 try dsimp only
 refine WS fun _ J=>rP 1 [] mn ?_
 refine RK J<|aq fun _ K=>bV U (aW fun P=>?_) (aV fun P=>?_)
 ·refine bL<|ai<|ai<|aI<|KK H<|WS fun _ E=>rP 1 [] mn ?_
  refine RK E<|av<|Q1 hQ U U U ?_
  exact cI (qq I A).symm
 refine WK K<|aq fun _ L=>aG<|WS fun _ M=>bG 2 U<|RK M<|WS fun _ C=>rP 3 [] mn ?_
 obtain ⟨x,hx⟩:=aM l i I
 have O:=bQ aL.cells hx
 refine rS (IA i U (aF 0 U) vV dc I I)<|rS (mq i 0 (aL.cells x) U cf (aF 0 U) O U dc U U)<|rS (SX (qL U U U (hf x (aQ hx)) (bq [1])) U U)<|RK C<|cG U (fun hp=>?_) (fun hp=>?_)
 ·refine WS fun _ D=>rP 2 [] mn ?_
  refine RK D<|av<|Q1 hQ U U U ?_
  exact cI (uP hx hp A).symm
 refine cx<|aO<|KK L<|ay<|rP 2 [] mn ?_
 refine aJ ?_
 refine bj (F ⟨(i+1),⟨I,vq hx A hp⟩⟩ _ _ _ U os (bw U) (aS [0,1]))
theorem CN (l:List aL) (lA:OA) (lC:Nat) (f:Value) (p:aL→Bool) (X:aB) (hf: ∀ x0,x0∈l→EF Tryz.prog f [.agg (aL.cells x0).toArray] [X] (.bool (p x0))) (hlen:l.length≤1000000):
 dN Tryz.prog 62 [(vS lA l.length lC),f] [(rd lA l.length 4 (l.map aL.cells)),X] (vB (l.any p)):=by
 refine bH kr Tryz.func62 U U fun C Q hQ hN=>?_
 try dsimp only
 refine WS fun _ A=>bG 1 U<|RK A<|WS fun _ B=>bG 2 U<|rS (CL (KZ l lA lC f p X (by exact hf) hlen) (bq [0,1]) U)<|rP 2 [] mn ?_
 refine RK B<|av<|Q1 hQ U U U ?_
 exact cB sQ
theorem QL (f:aL) (fm:List (Int×Bool)) (gm:Nat) (j:cR) (kA:OA) (kC:Nat) (az:List RA) (cA:OA) (cC:Nat) (bA:OA) (bC:Nat) (slA:OA) (slC:Nat) (drA:OA) (drC:Nat) (ha:List cN) (heA:OA) (heC:Nat) (faA:OA) (faC:Nat) (prA:OA) (prC:Nat) (d:ao) (sgA:OA) (sgC g1:Nat) (g2 g3:Nat) (hin:gY j az ha) (hok:di j=0) (hfm:f∈j.aC) (hsl:d.aZ.aa.length≤1000000):
 dN Tryz.prog 63 [(vA (aL.cells f)),(vP g1),(vP g2),(vP g3)] [(kQ iV gm (cT vB fm)),(rd kA j.Race.ak.aR.length 9 (j.Race.ak.aR.map ar.cells)),(rd cA j.Race.ak.aj.length 2 (List.zipWith ax.cells j.Race.ak.aj az)),(dV (a_ ax.gG j.Race.ak.aj az)),(rd bA j.Race.ak.ab.length 4 (j.Race.ak.ab.map bJ.cells)),(rd slA j.Race.aY.length 1 (j.Race.aY.map iC)),(rd drA j.Race.b_.length 1 (j.Race.b_.map iC)),(rd heA j.Race.aA.length 1 (List.zipWith cq j.Race.aA ha)),(dV (a_ eV j.Race.aA ha)),(rd faA j.aC.length 4 (j.aC.map aL.cells)),(rd prA j.aw.length 5 (j.aw.map aT.cells)),(rd sgA d.aZ.aa.length 2 (d.aZ.aa.map aH.cells)),(cv g1 45 [(Value.map (some gm))]),(cv g2 93 (db.cells (db.mk (nN j kA kC cA cC bA bC slA slC drA drC heA heC faA faC prA prC)))),(cv g3 58 (aP.cells (aP.mk d.Out d.cY d.Time (jI d.aZ sgA sgC))))] (vB (((List.lookup (pE j.aC f) fm).getD false)&& !decide (gf j.Race.ak f d=0))):=by
 have L:=hin.race
 have AB:=hin.race.line
 have P:=hin.race.iJ
 have R:=hin.race.has
 have M:=hin.race.iK
 have J:=hin.nf
 have K:=hin.np
 have D:=(dF hok).1
 have G:=(dF hok).2
 have H:=(d_ D).1
 have S:=(d_ D).2
 have F:=(dq H).2.head
 unfold eY at F
 have C:=G.fault f hfm
 have O:0≤f.eW∧f.eW≤1000000:=by have N:=C.2.2; split at N<;>omega
 refine bH kr Tryz.func63 U U fun AA Q hQ hN=>?_
 try dsimp only
 refine WS fun _ E=>eT U fun T=>bG 1 U<|RK E<|aq fun _ B=>dy cy 15 kr<|mz 5 [0,1,2] (mr 13 U (mr 14 U (mc 0 U mn))) U<|dS (CL (CB j.aC faA faC f asm) (bq [10]) U)<|dS (SX (w7 (kV:=iV) (x:=(pE j.aC f)) (l:=fm) (f:=Value.bool) (z:=false) U U U LD (jg um) XA (by exact OM 1 U)) U U)<|dP 1 [] mn ?_
 refine j0 (t:=13) U (fun A=>?_) (fun A=>?_)
 ·refine dP 7 [] mn ?_
  refine cO<|RK B<|av<|Q1 hQ U U U ?_
  (rw [A,Bool.false_and]; done)
 refine mz 3 [0,1,2] (mr 14 U (mc 0 U (mr 15 U mn))) U<|dS (CL (Bk j kA kC az cA cC bA bC slA slC drA drC ha heA heC faA faC prA prC f d sgA sgC hin (by exact C.1) asm hsl) (bq [2,3,4,5,6,7,8,9,10,11,12]) U)<|dS (BI U xo)<|dP 2 [] mn ?_
 refine cO<|RK B<|av<|Q1 hQ U U U ?_
 (rw [A,Bool.true_and]; done)
end
section
open Go.RowKit
theorem NP (fm:List (Int×Bool)) (gm:Nat) (j:cR) (kA:OA) (kC:Nat) (az:List RA) (cA:OA) (cC:Nat) (bA:OA) (bC:Nat) (slA:OA) (slC:Nat) (drA:OA) (drC:Nat) (ha:List cN) (heA:OA) (heC:Nat) (faA:OA) (faC:Nat) (prA:OA) (prC g1 g2:Nat) (hin:gY j az ha) (hok:di j=0):
 Qz Tryz.prog 61 [] [(vP g1),(vP g2)] [(kQ iV gm (cT vB fm)),(rd kA j.Race.ak.aR.length 9 (j.Race.ak.aR.map ar.cells)),(rd cA j.Race.ak.aj.length 2 (List.zipWith ax.cells j.Race.ak.aj az)),(dV (a_ ax.gG j.Race.ak.aj az)),(rd bA j.Race.ak.ab.length 4 (j.Race.ak.ab.map bJ.cells)),(rd slA j.Race.aY.length 1 (j.Race.aY.map iC)),(rd drA j.Race.b_.length 1 (j.Race.b_.map iC)),(rd heA j.Race.aA.length 1 (List.zipWith cq j.Race.aA ha)),(dV (a_ eV j.Race.aA ha)),(rd faA j.aC.length 4 (j.aC.map aL.cells)),(rd prA j.aw.length 5 (j.aw.map aT.cells)),(cv g1 93 (db.cells (db.mk (nN j kA kC cA cC bA bC slA slC drA drC heA heC faA faC prA prC)))),(cv g2 45 [(Value.map (some gm))])] ((0:Nat)) (LF (im j (mm j.aC fm))) (fun k=>k=j.Race.aA.length):=by
 have B9:=hin.race
 have Gq:=hin.race.line
 have JR:=hin.race.iJ
 have Jr:=hin.race.has
 have Id:=hin.race.iK
 have H1:=hin.nf
 have IR:=hin.np
 have B3:=(dF hok).1
 have J1:=(dF hok).2
 have Go:=(d_ B3).1
 have Hi:=(d_ B3).2
 have GE:=(dq Go).2.head
 unfold eY at GE
 refine Pn kr Tryz.func61 U U fun l J Z A0 w0 Q hY C3 C2 hQ hN=>?_
 try dsimp only
 refine WS fun _ Do=>rP 6 [] (mr 12 U mn) ?_
 refine RK Do<|aG ?_
 have B:(0≤j.Race.aA.length)∧(J 0 A0)∧(Fo A0 w0 A0):=by exact ⟨Nat.zero_le _,C3,C2⟩
 refine bS (ι:={z:Nat×aB // (z.1≤j.Race.aA.length)∧(J z.1 z.2)∧(Fo A0 w0 z.2)}) [0,1,2,15,16] [1,2,3,4,5,6,7,8,9,10,11,12,13] U U (fun z=>[(17,(vI (z.1.1:Int)))]) (fun z=>[z.1.2]) (fun _=>rfl) (fun _=>rfl) (fun z=>j.Race.aA.length-z.1.1) ⟨(0,A0),B⟩ (bw U) (aS [1,2,3,4,5,6,7,8,9,10,11,12,13,0]) ?_
 clear B
 rintro ⟨⟨h,A⟩,⟨X,F,G⟩⟩ J2 Di
 try dsimp only at X F G
 try dsimp only
 refine WS fun _ EQ=>rP 1 [] mn ?_
 refine RK EQ<|aq fun _ Eq=>bV U (aW fun h5=>?_) (aV fun h5=>?_)
 ·refine bL<|ai<|ai<|aI ?_
  refine hN _ _ _ (kp (vs:=[]) trivial fun w hs=>Ry 13 U (by show h=j.Race.aA.length; omega) F G hs)
 refine WK Eq<|aq fun _ E1=>aG<|WS fun _ FS=>?_
 obtain ⟨ht,E⟩:=aM j.Race.aA h I
 obtain ⟨C,D⟩:=aM ha h I
 have Bc:(List.zipWith cq j.Race.aA ha)[h]? =some (cq ht C):=dH E D
 refine rS (IA h U (aF 7 U) oQ dc I I) ?_
 have BE:=B9.gM _ _ _ E D
 have ID:=BE.n_
 have IO:=(Hi.gM ht (aQ E)).1
 refine rS (hP h 0 (vS C.1.1 ht.length C.1.2) U cf (aF 7 U) Bc U dc U)<|rP 1 [] mn ?_
 refine RK FS<|WS fun _ Fd=>nq (kV:=iV) U U fun b9=>?_
 try dsimp only
 refine bG 1 U<|RK Fd<|aq fun _ b=>WS fun _ e=>rP 3 [] mn ?_
 refine RK e<|aG ?_
 skip
 have B:(0≤ht.length):=by exact Nat.zero_le _
 refine bS (ι:={z:Nat // (z≤ht.length)}) [0,1,2,5,6,15,16,17,23] [1,2,3,4,5,6,7,8,9,10,11,12,13,14] U U (fun z=>[(24,(vI (z.1:Int)))]) (fun z=>[(kQ iV b9 (cT vB (iH (l6 j.Race.ak j.aC fm ht) z.1 0)))]) (fun _=>rfl) (fun _=>rfl) (fun z=>ht.length-z.1) ⟨0,B⟩ (bw U) (aS [1,2,3,4,5,6,7,8,9,10,11,12,13,14,0]) ?_
 clear B
 rintro ⟨q,GT⟩ J12 Y
 try dsimp only
 refine WS fun _ g=>rP 1 [] mn ?_
 refine RK g<|aq fun _ i=>cG U (aV fun Cx=>?_) (aW fun Cx=>?_)
 ·refine WK i<|aq fun _ m=>aG<|WS fun _ o=>bG 2 U<|RK o<|ay<|rP 2 [] mn ?_
  have A1:(eA (iH (l6 j.Race.ak j.aC fm ht) q 0) (q:Int) true)=(iH (l6 j.Race.ak j.aC fm ht) (q+1) 0):=by exact Jn
  refine jt (kV:=iV) (x:=(q:Int)) (C':=[_,_,_,_,_,_,_,_,_,_,_,_,_,_,(kQ iV b9 (cT vB (iH (l6 j.Race.ak j.aC fm ht) (q+1) 0)))]) 14 U U U U LD (jg um) U ((g6 _ _ _ _).symm.trans (congrArg _ A1)) U<|aJ<|aO<|KK m<|ay<|rP 2 [] mn ?_
  refine aJ ?_
  have A2:(vI (((q+1):Nat):Int))=(vI ((q:Int)+1)):=by exact cI I
  refine bj (Y ⟨(q+1),(by first|omega|(simp only []; omega))⟩ _ _ _ U os (cQ 9<|bk U A2<|dx.nil _) (aS [0,1,2,3,4,5,6,7,8,9,10,11,12,13,14]))
 refine bL<|ai<|ai<|aI<|KK b<|aq fun _ p=>WS fun _ r=>rP 3 [] mn ?_
 refine RK r<|aG ?_
 rw [show (iH (l6 j.Race.ak j.aC fm ht) q 0)=(iH (l6 j.Race.ak j.aC fm ht) ht.length 0) from by rw [show q=ht.length by omega]]
 have B:(0≤ht.length):=by exact Nat.zero_le _
 refine bS (ι:={z:Nat // (z≤ht.length)}) [0,1,2,5,6,15,16,17,30,31] [0,1,2,3,4,5,6,7,8,9,10,11,12,13] U U (fun z=>[(32,(vI (z.1:Int)))]) (fun z=>[(kQ iV b9 (cT vB (iH (l6 j.Race.ak j.aC fm ht) ht.length z.1)))]) (fun _=>rfl) (fun _=>rfl) (fun z=>ht.length-z.1) ⟨0,B⟩ (bw U) (aS [0,1,2,3,4,5,6,7,8,9,10,11,12,13,14]) ?_
 clear B
 rintro ⟨q,Ck⟩ J22 R
 try dsimp only
 refine WS fun _ s=>rP 1 [] mn ?_
 refine RK s<|aq fun _ t=>bV U (aW fun C0=>?_) (aV fun C0=>?_)
 ·refine bL<|ai<|ai<|aI<|KK p<|WS fun _ y=>bG 1 U<|RK y<|aq fun _ AC=>WS fun _ AD=>rP 3 [] mn ?_
  refine RK AD<|aG ?_
  rw [show (iH (l6 j.Race.ak j.aC fm ht) ht.length q)=(iH (l6 j.Race.ak j.aC fm ht) ht.length ht.length) from by rw [show q=ht.length by omega]]
  refine e9 3 1 ?_
  have B:(0≤ht.length):=by exact Nat.zero_le _
  refine bS (ι:={z:Nat×(OA)×Nat // (z.1≤ht.length)}) [0,1,2,5,6,15,16,17,47] [1,2,3,4,5,6,7,8,9,10,11,12,13,14,15] U U (fun z=>[(10,(vS z.1.2.1 ((mA (l6 j.Race.ak j.aC fm ht) z.1.1).length) z.1.2.2)),(48,(vI (z.1.1:Int)))]) (fun z=>[(own z.1.2.1 z.1.2.2 3 1 ((mA (l6 j.Race.ak j.aC fm ht) z.1.1).map iC))]) (fun _=>rfl) (fun _=>rfl) (fun z=>ht.length-z.1.1) ⟨(0,none,0),B⟩ (bw U) (aS [1,2,3,4,5,6,7,8,9,10,11,12,13,14,15,0]) ?_
  clear B
  rintro ⟨⟨q,a,c⟩,M⟩ J37 S
  try dsimp only at M
  try dsimp only
  refine WS fun _ AO=>rP 1 [] mn ?_
  refine RK AO<|aq fun _ AR=>bV U (aW fun C1=>?_) (aV fun C1=>?_)
  ·refine bL<|ai<|ai<|aI<|KK AC<|aq fun _ V=>?_
   rw [show (mA (l6 j.Race.ak j.aC fm ht) q)=(mA (l6 j.Race.ak j.aC fm ht) ht.length) from by rw [show q=ht.length by omega]]
   refine ay<|rP 2 [] mn ?_
   refine JN (k:=h) (k':=(h+1)) 13 15 U hY F G U U U ⟨_,_,_,Mo E,U,U,U⟩ U U U U (fun B50 K AB=>?_) (fun B50 K AB=>?_)
   rotate_left 1
   ·refine rP 1 [] mn ?_
    refine RK V<|aU U<|av ?_
    refine hQ _ _ _ (kp (vs:=[]) trivial fun w hs=>Gt 0 U K AB hs)
   refine bG 1 U<|RK V<|ct U<|cx<|aO<|KK E1<|ay<|rP 2 [] mn ?_
   refine aJ ?_
   have A8:(vI (((h+1):Nat):Int))=(vI ((h:Int)+1)):=by exact cI I
   refine bj (Di ⟨((h+1),B50),⟨I,K,AB⟩⟩ _ _ _ U os (cQ 5<|bk U A8<|dx.nil _) (aS [1,2,3,4,5,6,7,8,9,10,11,12,13,0]))
  refine WK AR<|aq fun _ AA=>aG<|WS fun _ AY=>bG 2 U<|RK AY<|WS fun _ Ae=>rP 2 [] mn ?_
  refine rS (SX (w7 (kV:=iV) (x:=(q:Int)) (l:=(iH (l6 j.Race.ak j.aC fm ht) ht.length ht.length)) (f:=Value.bool) (z:=false) U U U LD (jg um) XA (by exact aF 14 U)) U U)<|RK Ae<|bV U (fun W=>?_) (fun W=>?_)
  ·refine cx<|aO<|KK AA<|ay<|rP 2 [] mn ?_
   refine aJ ?_
   rw [show (mA (l6 j.Race.ak j.aC fm ht) q)=(mA (l6 j.Race.ak j.aC fm ht) (q+1)) from (tq (by rw [← Aq (P:=(l6 j.Race.ak j.aC fm ht)) (show q<ht.length by omega)]; simpa using W)).symm]
   have A7:(vI (((q+1):Nat):Int))=(vI ((q:Int)+1)):=by exact cI I
   refine bj (S ⟨((q+1),a,c),(by first|omega|(simp only []; omega))⟩ _ _ _ U os (cQ 10<|bk U A7<|dx.nil _) (aS [0,1,2,3,4,5,6,7,8,9,10,11,12,13,14,15]))
  refine ay<|rP 2 [] mn ?_
  refine eJ (xs:=[.tmp 55]) (cs:=[(vI (q:Int))]) U dJ kY U U U U (by simp [Value.cells]) U U fun In=>?_
  refine dR (es2:=(List.map iC (mA (l6 j.Race.ak j.aC fm ht) (q+1)))) (m':=(mA (l6 j.Race.ak j.aC fm ht) (q+1)).length) 16 U U U ti U U sm (br (es:=List.map iC [(q:Int)]) 0 U U (by simp [bR]) U) (lM _) (by have:=pG (P:=(l6 j.Race.ak j.aC fm ht)) (n:=q); omega) (by have:=pG (P:=(l6 j.Race.ak j.aC fm ht)) (n:=q); simp only [maxLen]; omega) (by rw [yW (by rw [← Aq (P:=(l6 j.Race.ak j.aC fm ht)) (show q<ht.length by omega)]; exact W)]; simp) sm U fun Cl Cp=>?_
  try dsimp only
  refine bG 1 U<|aJ<|aO<|KK AA<|ay<|rP 2 [] mn ?_
  refine aJ ?_
  have A6:(vI (((q+1):Nat):Int))=(vI ((q:Int)+1)):=by exact cI I
  refine bj (S ⟨((q+1),Cl,Cp),(by first|omega|(simp only []; omega))⟩ _ _ _ U os (cQ 10<|bk U A6<|dx.nil _) (aS [1,2,3,4,5,6,7,8,9,10,11,12,13,14,15,16]))
 refine WK t<|aq fun _ T=>aG<|WS fun _ u=>rP 1 [] mn ?_
 obtain ⟨d,hd⟩:=aM ht q I
 obtain ⟨da,A9⟩:=aM C.2 q I
 have Fn:(List.zipWith ao.cells ht C.2)[q]? =some (ao.cells d da):=dH hd A9
 refine rS (IA q U (show jC _ (rd C.1.1 ht.length 7 (List.zipWith ao.cells ht C.2)).holds from (cW 8 U (bT E D cD))) r8 dc I I) ?_
 have J3:=BE.sig d (aQ hd)
 refine rS (mq q 0 (aP.cells (aP.mk d.Out d.cY d.Time (cM.mk d.aZ.Start d.aZ.fI (bE.mk da.1 d.aZ.aa.length da.2)))) U cf (show jC _ (rd C.1.1 ht.length 7 (List.zipWith ao.cells ht C.2)).holds from (cW 8 U (bT E D cD))) Fn U dc U U)<|AL U BZ fun L=>bG 1 U<|gl U Ht U<|RK u<|WS fun _ v=>rP 3 [] (mr 12 U mn) ?_
 refine rS (FU U) ?_
 refine rS (CL (CN j.aC faA faC (Value.func (.func 63) [].toArray [(vP g2),(vP g1),(vP L)].toArray) (fun O=>(((List.lookup (pE j.aC O) fm).getD false)&& !decide (gf j.Race.ak O d=0))) (dV [(kQ iV gm (cT vB fm)),(rd kA j.Race.ak.aR.length 9 (j.Race.ak.aR.map ar.cells)),(rd cA j.Race.ak.aj.length 2 (List.zipWith ax.cells j.Race.ak.aj az)),(dV (a_ ax.gG j.Race.ak.aj az)),(rd bA j.Race.ak.ab.length 4 (j.Race.ak.ab.map bJ.cells)),(rd slA j.Race.aY.length 1 (j.Race.aY.map iC)),(rd drA j.Race.b_.length 1 (j.Race.b_.map iC)),(rd heA j.Race.aA.length 1 (List.zipWith cq j.Race.aA ha)),(dV (a_ eV j.Race.aA ha)),(rd faA j.aC.length 4 (j.aC.map aL.cells)),(rd prA j.aw.length 5 (j.aw.map aT.cells)),(rd da.1 d.aZ.aa.length 2 (d.aZ.aa.map aH.cells)),(cv g2 45 [(Value.map (some gm))]),(cv g1 93 (db.cells (db.mk (nN j kA kC cA cC bA bC slA slC drA drC heA heC faA faC prA prC)))),(cv L 58 (aP.cells (aP.mk d.Out d.cY d.Time (cM.mk d.aZ.Start d.aZ.fI (bE.mk da.1 d.aZ.aa.length da.2)))))]) (by intro O N; exact lJ (fi:=[]) (ca:=[(vP g2),(vP g1),(vP L)]) (kh (QL O fm gm j kA kC az cA cC bA bC slA slC drA drC ha heA heC faA faC prA prC d da.1 da.2 g2 g1 L (by first|assumption|exact N|omega) (by first|assumption|exact N|omega) (by first|assumption|exact N|omega) (by first|assumption|exact N|omega)) (bq [0,1,2,3,4,5,6,7,8,9,10,11,12,13,14]))) asm) (gX 10 U U<|aD (kg (pC [1,2,3,4,5,6,7,8,9,10,11]<|aD (show jC _ (rd da.1 d.aZ.aa.length 2 (d.aZ.aa.map aH.cells)).holds from (cW 9 U (bT E D (dU _ (bT hd A9 (by simp [ao.gG]))))))<|gX 13 U U<|gX 12 U U<|gX 0 U U<|aN))<|aN) U) ?_
 refine rP 1 [] mn ?_
 refine RK v<|bV U (fun H=>?_) (fun H=>?_)
 ·rw [Bool.not_eq_false'] at H
  refine cx<|aO<|KK T<|ay<|rP 2 [] mn ?_
  refine aJ ?_
  rw [show (iH (l6 j.Race.ak j.aC fm ht) ht.length q)=(iH (l6 j.Race.ak j.aC fm ht) ht.length (q+1)) from Ho (by rw [Gl hd]; simpa using H)]
  have A5:(vI (((q+1):Nat):Int))=(vI ((q:Int)+1)):=by exact cI I
  refine bj (R ⟨(q+1),(by first|omega|(simp only []; omega))⟩ _ _ _ U os (cQ 10<|bk U A5<|dx.nil _) (aS [1,2,3,4,5,6,7,8,9,10,11,12,13,14,15]))
 rw [Bool.not_eq_true'] at H
 refine ay<|rP 2 [] mn ?_
 have A3:(fH (iH (l6 j.Race.ak j.aC fm ht) ht.length q) (q:Int))=(iH (l6 j.Race.ak j.aC fm ht) ht.length (q+1)):=by exact JA (by rw [Gl hd]; exact H)
 refine ud (kV:=iV) (x:=(q:Int)) (C':=[_,_,_,_,_,_,_,_,_,_,_,_,_,_,_,(kQ iV b9 (cT vB (iH (l6 j.Race.ak j.aC fm ht) ht.length (q+1))))]) 15 U U U U LD (jg um) U ((oL _ _ _).symm.trans (congrArg _ A3)) U<|aJ<|aO<|KK T<|ay<|rP 2 [] mn ?_
 refine aJ ?_
 have A4:(vI (((q+1):Nat):Int))=(vI ((q:Int)+1)):=by exact cI I
 refine bj (R ⟨(q+1),(by first|omega|(simp only []; omega))⟩ _ _ _ U os (cQ 10<|bk U A4<|dx.nil _) (aS [1,2,3,4,5,6,7,8,9,10,11,12,13,14,15]))
end
section
open Go.RowKit
theorem Qu (gm:Nat) (j:cR) (kA:OA) (kC:Nat) (cA:OA) (cC:Nat) (bA:OA) (bC:Nat) (slA:OA) (slC:Nat) (drA:OA) (drC:Nat) (heA:OA) (heC:Nat) (faA:OA) (faC:Nat) (prA:OA) (prC:Nat):
 qB Tryz.prog 40 [(vA (db.cells (db.mk (nN j kA kC cA cC bA bC slA slC drA drC heA heC faA faC prA prC)))),(Value.map (some gm))] [] (fun (x:Nat×Nat)=>(Value.func (.func 61) [].toArray [(Value.pointer (some ⟨x.1,0,none⟩)),(Value.pointer (some ⟨x.2,0,none⟩))].toArray)) (fun (x:Nat×Nat)=>True) (fun (x:Nat×Nat)=>[(cv x.1 93 (db.cells (db.mk (nN j kA kC cA cC bA bC slA slC drA drC heA heC faA faC prA prC)))),(cv x.2 45 [(Value.map (some gm))])]):=by
 refine fO kr Tryz.func40 U U fun E Q hQ hN=>?_
 try dsimp only
 refine WS fun _ A=>eT U fun C=>xV U U fun D=>bG 1 U<|RK A<|WS fun _ B=>rS (FU U)<|rP 1 [] mn ?_
 refine RK B<|av<|LX hQ (C,D) [1,0] [] mn U U U U ?_
 trivial
theorem Nj (fm:List (Int×Bool)) (gm:Nat) (j:cR) (kA:OA) (kC:Nat) (az:List RA) (cA:OA) (cC:Nat) (bA:OA) (bC:Nat) (slA:OA) (slC:Nat) (drA:OA) (drC:Nat) (ha:List cN) (heA:OA) (heC:Nat) (faA:OA) (faC:Nat) (prA:OA) (prC g1 g2:Nat) (hin:gY j az ha) (hok:di j=0):
 qB Tryz.prog 60 [(vS none 0 0),(Value.func (.func 61) [].toArray [(vP g1),(vP g2)].toArray)] [(kQ iV gm (cT vB fm)),(rd kA j.Race.ak.aR.length 9 (j.Race.ak.aR.map ar.cells)),(rd cA j.Race.ak.aj.length 2 (List.zipWith ax.cells j.Race.ak.aj az)),(dV (a_ ax.gG j.Race.ak.aj az)),(rd bA j.Race.ak.ab.length 4 (j.Race.ak.ab.map bJ.cells)),(rd slA j.Race.aY.length 1 (j.Race.aY.map iC)),(rd drA j.Race.b_.length 1 (j.Race.b_.map iC)),(rd heA j.Race.aA.length 1 (List.zipWith cq j.Race.aA ha)),(dV (a_ eV j.Race.aA ha)),(rd faA j.aC.length 4 (j.aC.map aL.cells)),(rd prA j.aw.length 5 (j.aw.map aT.cells)),(cv g1 93 (db.cells (db.mk (nN j kA kC cA cC bA bC slA slC drA drC heA heC faA faC prA prC)))),(cv g2 45 [(Value.map (some gm))])] (fun (x:(List RA)×(OA)×Nat)=>(vS x.2.1 ((im j (mm j.aC fm)).length) x.2.2)) (fun (x:(List RA)×(OA)×Nat)=>x.1.length=(im j (mm j.aC fm)).length) (fun (x:(List RA)×(OA)×Nat)=>[(own x.2.1 x.2.2 29 1 (List.zipWith zL (im j (mm j.aC fm)) x.1)),(bK (a_ I7 (im j (mm j.aC fm)) x.1))]):=by
 have W:=hin.race
 have P:=hin.race.line
 have g:=hin.race.iJ
 have m:=hin.race.has
 have X:=hin.race.iK
 have AA:=hin.nf
 have V:=hin.np
 have f:(im j (mm j.aC fm)).length=j.Race.aA.length:=by unfold im; rw [List.length_map]
 refine fO kr Tryz.func60 U U fun s Q hQ hN=>?_
 try dsimp only
 refine WS fun _ K=>xV U U fun T=>bG 1 U<|RK K<|aq fun _ L=>WS fun _ M=>rP 1 [] mn ?_
 refine RK M<|aG<|jK 1 U (by exact fun _ h=>h)<|jK 3 U (by exact fun _ h=>h)<|jK 5 U (by exact fun _ h=>h)<|jK 7 U (by exact fun _ h=>h)<|jK 9 U (by exact fun _ h=>h)<|jK 11 U (by exact fun _ h=>h)<|jK 13 U (by exact fun _ h=>h)<|jK 15 U (by exact fun _ h=>h)<|jK 17 U (by exact fun _ h=>h)<|jK 19 U (by exact fun _ h=>h)<|jK 21 U (by exact fun _ h=>h)<|jK 23 U (by exact fun _ h=>h)<|jK 25 U (by exact fun _ h=>h)<|e9 29 1<|oM ?_
 refine MC (L0:=[(2,(vP T))]) (F:=[(kQ iV gm (cT vB fm)).ro,(rd kA j.Race.ak.aR.length 9 (j.Race.ak.aR.map ar.cells)).ro,(rd cA j.Race.ak.aj.length 2 (List.zipWith ax.cells j.Race.ak.aj az)).ro,(dV (a_ ax.gG j.Race.ak.aj az)).ro,(rd bA j.Race.ak.ab.length 4 (j.Race.ak.ab.map bJ.cells)).ro,(rd slA j.Race.aY.length 1 (j.Race.aY.map iC)).ro,(rd drA j.Race.b_.length 1 (j.Race.b_.map iC)).ro,(rd heA j.Race.aA.length 1 (List.zipWith cq j.Race.aA ha)).ro,(dV (a_ eV j.Race.aA ha)).ro,(rd faA j.aC.length 4 (j.aC.map aL.cells)).ro,(rd prA j.aw.length 5 (j.aw.map aT.cells)).ro,(cv g1 93 (db.cells (db.mk (nN j kA kC cA cC bA bC slA slC drA drC heA heC faA faC prA prC)))).ro,(cv g2 45 [(Value.map (some gm))]).ro]) (fun k (y:(List RA)×(OA)×Nat)=>(y.1.length=k)) (fun k y=>[(bK (a_ I7 (List.take k (im j (mm j.aC fm))) y.1)),(own y.2.1 y.2.2 29 1 (List.zipWith zL (List.take k (im j (mm j.aC fm))) y.1)),(cv T 42 [(vS y.2.1 ((List.take k (im j (mm j.aC fm))).length) y.2.2)]),(kQ iV gm (cT vB fm)).ro,(rd kA j.Race.ak.aR.length 9 (j.Race.ak.aR.map ar.cells)).ro,(rd cA j.Race.ak.aj.length 2 (List.zipWith ax.cells j.Race.ak.aj az)).ro,(dV (a_ ax.gG j.Race.ak.aj az)).ro,(rd bA j.Race.ak.ab.length 4 (j.Race.ak.ab.map bJ.cells)).ro,(rd slA j.Race.aY.length 1 (j.Race.aY.map iC)).ro,(rd drA j.Race.b_.length 1 (j.Race.b_.map iC)).ro,(rd heA j.Race.aA.length 1 (List.zipWith cq j.Race.aA ha)).ro,(dV (a_ eV j.Race.aA ha)).ro,(rd faA j.aC.length 4 (j.aC.map aL.cells)).ro,(rd prA j.aw.length 5 (j.aw.map aT.cells)).ro]) (fun _ (_:Unit)=>False) (fun _ _=>[]) [0,1,15,16,17,18,19,20,21,22,23,24,25,26] [14,13,12,11,10,9,8,7,6,5,4,3,2] (([]:List RA),none,0) rfl rfl (NP fm gm j kA kC az cA cC bA bC slA slC drA drC ha heA heC faA faC prA prC g1 g2 (by first|assumption|omega|(simp; done)) (by first|assumption|omega|(simp; done))) rfl rfl rfl (by exact rfl) (by simp only [List.forall_mem_cons,List.not_mem_nil,false_imp_iff,implies_true,and_true]; exact ⟨⟨_,aQ (i:=0) rfl,(dQ (bY _))⟩,⟨_,aQ (i:=1) rfl,(dQ (bY _))⟩,⟨_,aQ (i:=2) rfl,(dQ (bY _))⟩,⟨_,aQ (i:=3) rfl,(dQ (bY _))⟩,⟨_,aQ (i:=4) rfl,(dQ (bY _))⟩,⟨_,aQ (i:=5) rfl,(dQ (bY _))⟩,⟨_,aQ (i:=6) rfl,(dQ (bY _))⟩,⟨_,aQ (i:=7) rfl,(dQ (bY _))⟩,⟨_,aQ (i:=8) rfl,(dQ (bY _))⟩,⟨_,aQ (i:=9) rfl,(dQ (bY _))⟩,⟨_,aQ (i:=10) rfl,(dQ (bY _))⟩,⟨_,aQ (i:=11) rfl,(dQ (bY _))⟩,⟨_,aQ (i:=12) rfl,(dQ (bY _))⟩⟩) (by rintro k x R0 p ⟨_,_,_,_,rfl,_,_⟩; rfl) rfl (bw rfl) ?_ ?_ (fun _ _ _ h=>h.elim) (fun _ _ h=>h.elim)
 rotate_left 1
 ·rintro q k ⟨gz,a,c⟩ B C
  have D:=C
  try dsimp only at D
  try dsimp only
  rw [show (List.take k (im j (mm j.aC fm)))=(im j (mm j.aC fm)) from List.take_of_length_le (by have d:k=j.Race.aA.length:=B; omega)]
  have O:gz.length=(im j (mm j.aC fm)).length:=by have d:k=j.Race.aA.length:=B; omega
  refine aO<|KK L<|WS fun _ G=>rP 2 [] (mc 16 U mn) ?_
  refine RK G<|av ?_
  refine hQ _ _ _ (sf 0 U U<|kp (vs:=[(vS a ((im j (mm j.aC fm)).length) c)]) ⟨U,trivial⟩ fun w hs=>Rz (gz,a,c) [15,14] ?_ ?_ U U (by show List.all _ _=true; simp only [fE,List.all_nil,zo,Bool.and_true]; rfl) hs)
  ·rfl
  ·exact O
 rintro k x R0 p ⟨gz,a,c⟩ l ra rb S t K5 Qr6 o hx AB N H Y Z
 obtain ⟨xa,xc,row,A,rfl,rfl,rfl⟩:=hx
 have D:=AB
 try dsimp only at D
 try dsimp only
 have n:=(aX.1 A).1
 have E:gz.length=(List.take k (im j (mm j.aC fm))).length:=by rw [List.length_take]; omega
 have R:(List.take (k+1) (im j (mm j.aC fm))).length=k+1:=by rw [List.length_take]; omega
 refine ay<|rP 1 [] mn ?_
 refine aJ<|bj (N _ _ ?_)
 refine aG<|ay<|rP 2 [] (mc 3 U mn) ?_
 refine eJ (xs:=[.tmp 9]) (cs:=[(vS xa row.length xc)]) U Oz Tp U U U U (by simp [Value.cells]) U U fun r=>?_
 refine dR (es2:=(List.zipWith zL (List.take (k+1) (im j (mm j.aC fm))) (gz++[(xa,xc)]))) (m':=(List.take (k+1) (im j (mm j.aC fm))).length) 3 rfl rfl rfl VX rfl rfl (vC E).symm (br (es:=List.zipWith zL [row] [(xa,xc)]) 0 rfl rfl (by intro e he; simp [zL] at he; subst he; rfl) rfl) (OI _ _) I (by simp only [maxLen]; omega) (by rw [yH A]; exact G8 E.symm) (by exact vC (by rw [R]; simp; omega)) rfl fun b J=>?_
 try dsimp only
 refine QT (Y':=a_ I7 (List.take (k+1) (im j (mm j.aC fm))) (gz++[(xa,xc)])) 2 16 U U (by rw [yH A]; exact Fa E.symm U) ?_
 refine XU U VB U U<|aJ<|aO ?_
 exact H ((gz++[(xa,xc)]),b,J) _ _ (by (rw [List.length_append]; simp; omega)) (aS [2,0,3,4,5,6,7,8,9,10,11,12,13,14,15])
theorem Nr (fm:List (Int×Bool)) (gm:Nat) (j:cR) (kA:OA) (kC:Nat) (az:List RA) (cA:OA) (cC:Nat) (bA:OA) (bC:Nat) (slA:OA) (slC:Nat) (drA:OA) (drC:Nat) (ha:List cN) (heA:OA) (heC:Nat) (faA:OA) (faC:Nat) (prA:OA) (prC g1 g2:Nat) (hin:gY j az ha) (hok:di j=0):
 qB Tryz.prog 39 [(Value.func (.func 61) [].toArray [(vP g1),(vP g2)].toArray)] [(kQ iV gm (cT vB fm)),(rd kA j.Race.ak.aR.length 9 (j.Race.ak.aR.map ar.cells)),(rd cA j.Race.ak.aj.length 2 (List.zipWith ax.cells j.Race.ak.aj az)),(dV (a_ ax.gG j.Race.ak.aj az)),(rd bA j.Race.ak.ab.length 4 (j.Race.ak.ab.map bJ.cells)),(rd slA j.Race.aY.length 1 (j.Race.aY.map iC)),(rd drA j.Race.b_.length 1 (j.Race.b_.map iC)),(rd heA j.Race.aA.length 1 (List.zipWith cq j.Race.aA ha)),(dV (a_ eV j.Race.aA ha)),(rd faA j.aC.length 4 (j.aC.map aL.cells)),(rd prA j.aw.length 5 (j.aw.map aT.cells)),(cv g1 93 (db.cells (db.mk (nN j kA kC cA cC bA bC slA slC drA drC heA heC faA faC prA prC)))),(cv g2 45 [(Value.map (some gm))])] (fun (x:(List RA)×(OA)×Nat)=>(vS x.2.1 ((im j (mm j.aC fm)).length) x.2.2)) (fun (x:(List RA)×(OA)×Nat)=>x.1.length=(im j (mm j.aC fm)).length) (fun (x:(List RA)×(OA)×Nat)=>[(own x.2.1 x.2.2 29 1 (List.zipWith zL (im j (mm j.aC fm)) x.1)),(bK (a_ I7 (im j (mm j.aC fm)) x.1))]):=by
 refine fO kr Tryz.func39 U U fun AA Q hQ hN=>?_
 try dsimp only
 refine WS fun _ B=>bG 1 U<|RK B<|WS fun _ C=>rP 1 [] mn ?_
 refine cX (Nj fm gm j kA kC az cA cC bA bC slA slC drA drC ha heA heC faA faC prA prC g1 g2 hin hok) (bq [0,1,2,3,4,5,6,7,8,9,10,11,12]) U fun H E=>?_
 obtain ⟨A,F,G⟩:=H
 try dsimp only
 have D:=E
 refine rP 1 [] mn ?_
 refine RK C<|av ?_
 refine LX hQ (A,F,G) [0,1] [] mn U (by show List.all _ _=true; simp only [fE,List.all_nil,zo,Bool.and_true]; rfl) U U ?_
 exact D
end
section
open Go.RowKit
theorem Hv (j:cR) (kA:OA) (kC:Nat) (az:List RA) (cA:OA) (cC:Nat) (bA:OA) (bC:Nat) (slA:OA) (slC:Nat) (drA:OA) (drC:Nat) (ha:List cN) (heA:OA) (heC:Nat) (faA:OA) (faC:Nat) (prA:OA) (prC:Nat) (hin:gY j az ha) (hok:di j=0):
 qB Tryz.prog 32 [(vA (db.cells (db.mk (nN j kA kC cA cC bA bC slA slC drA drC heA heC faA faC prA prC))))] [(rd kA j.Race.ak.aR.length 9 (j.Race.ak.aR.map ar.cells)),(rd cA j.Race.ak.aj.length 2 (List.zipWith ax.cells j.Race.ak.aj az)),(dV (a_ ax.gG j.Race.ak.aj az)),(rd bA j.Race.ak.ab.length 4 (j.Race.ak.ab.map bJ.cells)),(rd slA j.Race.aY.length 1 (j.Race.aY.map iC)),(rd drA j.Race.b_.length 1 (j.Race.b_.map iC)),(rd heA j.Race.aA.length 1 (List.zipWith cq j.Race.aA ha)),(dV (a_ eV j.Race.aA ha)),(rd faA j.aC.length 4 (j.aC.map aL.cells)),(rd prA j.aw.length 5 (j.aw.map aT.cells))] (fun (x:(List RA)×(OA)×Nat)=>(vS x.2.1 ((j4 j).length) x.2.2)) (fun (x:(List RA)×(OA)×Nat)=>x.1.length=(j4 j).length) (fun (x:(List RA)×(OA)×Nat)=>[(own x.2.1 x.2.2 29 1 (List.zipWith zL (j4 j) x.1)),(bK (a_ I7 (j4 j) x.1))]):=by
 have AC:=hin.race
 have i:=hin.race.line
 have A1:=hin.race.iJ
 have A2:=hin.race.has
 have AD:=hin.race.iK
 have u:=hin.nf
 have y:=hin.np
 have P:=(dF hok).1
 have O:=(dF hok).2
 have h:=(d_ P).1
 have A5:=(d_ P).2
 have d:=(dq h).2.head
 unfold eY at d
 have A3:=O.np
 have w:=x8 (j:=j)
 refine fO kr Tryz.func32 U U fun w0 Q hQ hN=>?_
 try dsimp only
 refine WS fun _ Y=>eT U fun b2=>rP 1 [] mn ?_
 refine RK Y<|WS fun _ Z=>nq (kV:=iV) U U fun T=>?_
 try dsimp only
 refine bG 1 U<|RK Z<|aq fun _ a=>WS fun _ b=>rP 4 [] (mc 1 U mn) ?_
 refine rS (FU U) ?_
 refine cX (AH j.aw prA prC (Value.func (.func 31) [(vA (db.cells (db.mk (nN j kA kC cA cC bA bC slA slC drA drC heA heC faA faC prA prC))))].toArray [].toArray) (fun q S=>(gO j S)) (dV [(rd kA j.Race.ak.aR.length 9 (j.Race.ak.aR.map ar.cells)),(rd cA j.Race.ak.aj.length 2 (List.zipWith ax.cells j.Race.ak.aj az)),(dV (a_ ax.gG j.Race.ak.aj az)),(rd bA j.Race.ak.ab.length 4 (j.Race.ak.ab.map bJ.cells)),(rd slA j.Race.aY.length 1 (j.Race.aY.map iC)),(rd drA j.Race.b_.length 1 (j.Race.b_.map iC)),(rd heA j.Race.aA.length 1 (List.zipWith cq j.Race.aA ha)),(dV (a_ eV j.Race.aA ha)),(rd faA j.aC.length 4 (j.aC.map aL.cells)),(rd prA j.aw.length 5 (j.aw.map aT.cells))]) (by intro q S k; exact lJ (fi:=[(vA (db.cells (db.mk (nN j kA kC cA cC bA bC slA slC drA drC heA heC faA faC prA prC))))]) (ca:=[]) (kh (wB j kA kC az cA cC bA bC slA slC drA drC ha heA heC faA faC prA prC q S asm asm (by (obtain ⟨i_,_,e⟩:=k; exact ⟨i_,e⟩))) (bq [0,1,2,3,4,5,6,7,8,9]))) asm) (gX 11 rfl rfl<|aD (kg (bq [2,3,4,5,6,7,8,9,10,11]))<|aN) rfl fun y9 AO=>?_
 obtain ⟨AY,Ae⟩:=y9
 try dsimp only
 rw [show (mA (iL j.aw (fun q S=>(gO j S))) j.aw.length)=iQ j from rfl]
 refine rP 2 [] mn ?_
 refine RK b<|aG ?_
 skip
 have A:(0≤(iQ j).length):=by exact Nat.zero_le _
 refine bS (ι:={z:Nat // (z≤(iQ j).length)}) [1,3,12,13] [0,2,3,4,5,6,7,8,9,10,11,12] U U (fun z=>[(14,(vI (z.1:Int)))]) (fun z=>[(kQ iV T (cT vB (xD j.aC (HG j z.1))))]) (fun _=>rfl) (fun _=>rfl) (fun z=>(iQ j).length-z.1) ⟨0,A⟩ (bw U) (aS [0,2,3,4,5,6,7,8,9,10,11,12,1]) ?_
 clear A
 rintro ⟨t,g⟩ J13 E
 try dsimp only
 refine WS fun _ F=>rP 1 [] mn ?_
 refine RK F<|aq fun _ G=>bV U (aW fun X=>?_) (aV fun X=>?_)
 ·refine bL<|ai<|ai<|aI<|KK a<|WS fun _ J=>rP 2 [] (mc 1 U mn) ?_
  refine cX (Qu T j kA kC cA cC bA bC slA slC drA drC heA heC faA faC prA prC) (aN) U fun r AR=>?_
  obtain ⟨V,C⟩:=r
  try dsimp only
  refine cX (Nr (xD j.aC (HG j t)) T j kA kC az cA cC bA bC slA slC drA drC ha heA heC faA faC prA prC V C hin hok) (bq [14,4,5,6,7,8,9,10,11,12,13,0,1]) U fun s R=>?_
  obtain ⟨D,AA,W⟩:=s
  try dsimp only
  have N:=R
  have o:(im j (mm j.aC (xD j.aC (HG j t))))=(j4 j):=by exact FD I
  rw [o] at N ⊢
  refine rP 1 [] mn ?_
  refine RK J<|av ?_
  refine LX hQ (D,AA,W) [0,1] [] mn U (by show List.all _ _=true; simp only [fE,List.all_nil,zo,Bool.and_true]; rfl) U U ?_
  exact N
 refine WK G<|aq fun _ H=>aG<|WS fun _ AB=>?_
 obtain ⟨gi,B⟩:=aM (iQ j) t I
 have M:=bQ iC B
 refine rS (IA t U (au (n:=(iQ j).length) 0 U sm) dJ dc I I)<|rS (hP t 0 (vI gi) U cf (au (n:=(iQ j).length) 0 U sm) M U dc U)<|bG 1 U<|RK AB<|dy cy 17 kr<|dP 10 [] (mc 1 U mn) ?_
 obtain ⟨gk,A0,v⟩:=Hp B
 refine dP 1 [] mn ?_
 obtain ⟨p,hp⟩:=aM j.aw ((gi).toNat) I
 have l:=bQ aT.cells hp
 refine dS (IA ((gi).toNat) U (aF 11 U) zI dc I I)<|dS (nv ((((gi).toNat)*5)+3) U (aF 11 U) (Nat.mul_pos I dc) eP U) ?_
 have m:=O.hE _ p hp
 have A4:=m.fault
 refine dS (hP ((gi).toNat) 3 (vI p.iM) U cf (aF 11 U) l U dc U) ?_
 obtain ⟨f,hf⟩:=aM j.aC ((p.iM).toNat) I
 have c:=bQ aL.cells hf
 refine dS (IA ((p.iM).toNat) U (aF 10 U) vV dc I I)<|dS (mq ((p.iM).toNat) 0 (aL.cells f) U cf (aF 10 U) c U dc U U)<|dS (CL (CB j.aC faA faC f asm) (bq [10]) U)<|cO ?_
 have K:(eA (xD j.aC (HG j t)) (pE j.aC f) true)=(xD j.aC (HG j (t+1))):=by rw [Mp B hp hf,Iq]
 refine jt (kV:=iV) (x:=(pE j.aC f)) (C':=[_,_,_,_,_,_,_,_,_,_,_,_,(kQ iV T (cT vB (xD j.aC (HG j (t+1)))))]) 12 U U U U LD (jg um) U ((g6 _ _ _ _).symm.trans (congrArg _ K)) U<|aJ<|aO<|KK H<|ay<|rP 2 [] mn ?_
 refine aJ ?_
 have L:(vI (((t+1):Nat):Int))=(vI ((t:Int)+1)):=by exact cI I
 refine bj (E ⟨(t+1),(by first|omega|(simp only []; omega))⟩ _ _ _ U os (cQ 4<|bk U L<|dx.nil _) (aS [0,1,2,3,4,5,6,7,8,9,10,11,12]))
theorem vJ (j:cR) (kA:OA) (kC:Nat) (az:List RA) (cA:OA) (cC:Nat) (bA:OA) (bC:Nat) (slA:OA) (slC:Nat) (drA:OA) (drC:Nat) (ha:List cN) (heA:OA) (heC:Nat) (faA:OA) (faC:Nat) (prA:OA) (prC:Nat) (hin:gY j az ha):
 qB Tryz.prog 11 [(vA (eD.cells (nN j kA kC cA cC bA bC slA slC drA drC heA heC faA faC prA prC)))] [(rd gK 3 2 fK),(rd kA j.Race.ak.aR.length 9 (j.Race.ak.aR.map ar.cells)),(rd cA j.Race.ak.aj.length 2 (List.zipWith ax.cells j.Race.ak.aj az)),(dV (a_ ax.gG j.Race.ak.aj az)),(rd bA j.Race.ak.ab.length 4 (j.Race.ak.ab.map bJ.cells)),(rd slA j.Race.aY.length 1 (j.Race.aY.map iC)),(rd drA j.Race.b_.length 1 (j.Race.b_.map iC)),(rd heA j.Race.aA.length 1 (List.zipWith cq j.Race.aA ha)),(dV (a_ eV j.Race.aA ha)),(rd faA j.aC.length 4 (j.aC.map aL.cells)),(rd prA j.aw.length 5 (j.aw.map aT.cells))] (fun (x:(List RA)×(OA)×Nat)=>(vT [(vS x.2.1 ((fY j).length) x.2.2),(vI (di j))])) (fun (x:(List RA)×(OA)×Nat)=>x.1.length=(fY j).length) (fun (x:(List RA)×(OA)×Nat)=>[(own x.2.1 x.2.2 29 1 (List.zipWith zL (fY j) x.1)),(bK (a_ I7 (fY j) x.1))]):=by
 have S:=hin.race
 have N:=hin.race.line
 have AA:=hin.race.iJ
 have V:=hin.race.has
 have T:=hin.race.iK
 have P:=hin.nf
 have R:=hin.np
 refine fO kr Tryz.func11 U U fun Z Q hQ hN=>?_
 try dsimp only
 refine WS fun _ H=>eT U fun X=>bG 1 U<|bG 1 U<|RK H<|WS fun _ AB=>fD 1 [] (mc 0 U mn) U<|rS (CL (vf j kA kC az cA cC bA bC slA slC drA drC ha heA heC faA faC prA prC hin) (bq [1,2,3,4,5,6,7,8,9,10,11]) U)<|bG 3 U<|AL U HM fun Y=>gl U HJ U<|bG 1 U<|RK AB<|aq fun _ J=>WS fun _ K=>rP 2 [] mn ?_
 refine RK K<|cG U (bB fun A=>?_) (bx fun A=>?_)
 ·refine WS fun _ L=>?_
  have C:(fY j)=[]:=wR A
  have B:([]:List RA).length=(fY j).length:=by rw [C]; rfl
  refine lY 29 1<|yf ?_
  rw [show (own none 0 29 1 ([]:List (List Value)))=own none 0 29 1 (List.zipWith zL (fY j) []) from by rw [C]; rfl,show bK []=bK (a_ I7 (fY j) []) from by rw [C]; rfl]
  refine bG 2 U<|rP 1 [] mn ?_
  refine RK L<|av ?_
  refine LX hQ ([],none,0) [1,0] [] mn U (by show List.all _ _=true; simp only [fE,List.all_nil,zo,Bool.and_true]; rfl) U ?_ ?_
  ·(rw [wR A]; rfl)
  ·exact B
 refine WK J<|WS fun _ M=>rP 1 [] (mc 0 U mn) ?_
 refine cX (Hv j kA kC az cA cC bA bC slA slC drA drC ha heA heC faA faC prA prC hin asm) (bq [3,4,5,6,7,8,9,10,11,12]) U fun W E=>?_
 obtain ⟨D,F,G⟩:=W
 try dsimp only
 have B:=E
 refine rP 1 [] mn ?_
 have O:(j4 j)=(fY j):=by exact (l4 A).symm
 rw [O] at B ⊢
 refine rP 1 [] mn ?_
 refine RK M<|av ?_
 refine LX hQ (D,F,G) [0,1] [] mn U (by show List.all _ _=true; simp only [fE,List.all_nil,zo,Bool.and_true]; rfl) U ?_ ?_
 ·(rw [A]; rfl)
 ·exact B
end
section
open Go.RowKit
theorem jB (n lo hi:Int):
 dN Tryz.prog 137 [(vI n),(vI lo),(vI hi)] [] (vB (decide (lo≤n∧n≤hi))):=by
 refine bH kr Tryz.func137 U U fun D Q hQ hN=>?_
 try dsimp only
 refine WS fun _ B=>bG 1 U<|RK B<|WS fun _ A=>rP 4 [] mn ?_
 refine cg (t:=10) U (aV fun C=>?_) (aW fun C=>?_)
 ·refine rP 5 [] mn ?_
  refine RK A<|av<|Q1 hQ U U U ?_
  exact cB (g5.2 I)
 refine rP 5 [] mn ?_
 refine RK A<|av<|Q1 hQ U U U ?_
 exact cB (bI I).symm
theorem Dg (ts:List ar) (tsA:OA) (tsC:Nat) (hst: ∀ x∈ts,bX x) (hlen:ts.length≤12):
 qB Tryz.prog 160 [(vA (bO.cells (bO.mk (bE.mk tsA ts.length tsC))))] [(rd tsA ts.length 9 (ts.map ar.cells))] (fun (x:(OA)×Nat)=>(vS x.1 ((iR ts (ts.length+1)).length) x.2)) (fun (x:(OA)×Nat)=>True) (fun (x:(OA)×Nat)=>[(own x.1 x.2 53 2 ((iR ts (ts.length+1)).map ag.cells))]):=by
 refine fO kr Tryz.func160 U U fun V Q hQ hN=>?_
 try dsimp only
 refine WS fun _ J=>eT U fun AB=>bG 1 U<|RK J<|WS fun _ K=>bG 1 U<|RK K<|aq fun _ L=>WS fun _ M=>rP 1 [] mn ?_
 refine RK M<|aG<|e9 53 2 ?_
 have A:(0≤ts.length+1):=by exact Nat.zero_le _
 refine bS (ι:={z:Nat×(OA)×Nat // (z.1≤ts.length+1)}) [1] [1,2] U U (fun z=>[(3,(vS z.1.2.1 ((iR ts z.1.1).length) z.1.2.2)),(4,(vI (z.1.1:Int)))]) (fun z=>[(own z.1.2.1 z.1.2.2 53 2 ((iR ts z.1.1).map ag.cells))]) (fun _=>rfl) (fun _=>rfl) (fun z=>ts.length+1-z.1.1) ⟨(0,none,0),A⟩ (bw U) (aS [1,2,0]) ?_
 clear A
 rintro ⟨⟨i,a,c⟩,B⟩ J6 AC
 try dsimp only at B
 try dsimp only
 refine aq fun _ N=>WS fun _ O=>rP 5 [] (mc 0 U mn) ?_
 refine RK O<|bV U (aW fun T=>?_) (aV fun T=>?_)
 ·refine bL<|ai<|ai<|aI<|KK L<|WS fun _ E=>?_
  obtain rfl:i=ts.length+1:=by omega
  refine rP 2 [] mn ?_
  refine RK E<|av<|LX hQ (a,c) [2] [] mn U U U U ?_
  trivial
 refine WK N<|aq fun _ C=>aG<|WS fun _ D=>fD 2 [] (mc 0 U mn) U<|rS (CL (AA ts tsA tsC 0 (i:Int) hst hlen I) (bq [1]) U)<|bG 3 U<|AL U ej fun P=>AL U ej fun R=>rV U c_ U<|gl U c_ U<|RK D<|ay<|rP 2 [] (mc 1 U mn) ?_
 refine eJ (xs:=[.tmp 21]) (cs:=(ag.cells (eO ts (0:Int).toNat ((i:Int)-0).toNat))) U lU ej U U U U (by simp [Value.cells,ag.bf]) U U fun S=>?_
 refine dR (es2:=(List.map ag.cells (iR ts (i+1)))) (m':=(iR ts (i+1)).length) 5 U U U Gu U U sm (br (es:=List.map ag.cells [(eO ts (0:Int).toNat ((i:Int)-0).toNat)]) 0 U U (by simp [ag.bf]) U) (lI _) (by simp only [py]; omega) (by simp only [maxLen,py]; omega) (by rw [DI]; simp) sm U fun G H=>?_
 try dsimp only
 refine bG 1 U<|aJ<|aO<|KK C<|ay<|rP 3 [] mn ?_
 refine aJ ?_
 have F:(vI (((i+1):Nat):Int))=(vI ((i:Int)+1)):=by exact cI I
 refine bj (AC ⟨((i+1),G,H),(by first|omega|(simp only []; omega))⟩ _ _ _ U os (dx.cons U<|dx.cons U<|bk U F<|dx.nil _) (aS [3,4,5]))
theorem S9 (ts:List ar) (tsA:OA) (tsC:Nat) (s:cK) (hlen:ts.length≤1000000) (hside: ∀ x∈ts,0≤x.jD∧x.jD≤255):
 dN Tryz.prog 153 [(vA (bO.cells (bO.mk (bE.mk tsA ts.length tsC)))),(vA (cK.cells s))] [(rd tsA ts.length 9 (ts.map ar.cells))] (vT [(vA (ag.cells (Q9 ts s))),(vI (GR ts s))]):=by
 refine bH kr Tryz.func153 U U fun r Q hQ hN=>?_
 try dsimp only
 refine WS fun _ R=>eT U fun i=>eT U fun k=>AL U ej fun l=>bG 1 U<|RK R<|aq fun _ S=>WS fun _ T=>fD 1 [] (mc 2 U mn) U<|rS (CL (xQ ts tsA tsC hlen) (bq [3]) U)<|rP 1 [] mn ?_
 refine RK T<|cG U (fun AB=>?_) (fun AB=>?_)
 ·rw [Bool.not_eq_true'] at AB
  refine WS fun _ AA=>rS (SX (bp (xs:=[]) (cs:=(ag.cells (ag.mk 0 0))) U U (bo hU U)) U U)<|gl U c_ U<|rP 1 [] mn ?_
  refine RK AA<|av<|nE hQ [0] (mc 0 U mn) U ?_
  (have e:=JF (s:=s) (by simpa using AB); rw [e.1,e.2]<;>rfl)
 rw [Bool.not_eq_false'] at AB
 refine WK S<|aq fun _ V=>WS fun _ W=>?_
 have M:=kH AB
 have Z:=lQ AB
 refine fD 2 [0,1] (mc 2 U (mc 1 U mn)) U<|rS (CL (sR ts tsA tsC s asm asm) (bq [3]) U)<|rP 1 [] mn ?_
 refine RK W<|cG U (bB fun D=>?_) (bx fun D=>?_)
 ·refine WS fun _ O=>rS (SX (bp (xs:=[]) (cs:=(ag.cells (ag.mk 0 0))) U U (bo hU U)) U U)<|gl U c_ U<|rP 1 [] mn ?_
  refine RK O<|av<|nE hQ [0] (mc 0 U mn) U ?_
  (have e:=LQ AB D; rw [e.1,e.2]<;>rfl)
 refine WK V<|aq fun _ H=>m7 cy [0,2,3] [1,4,5,6,7] [false,false,false] [] [(cv l 53 (ag.cells (ag.mk 0 0))),(cv k 120 (cK.cells s)),(cv i 24 (bO.cells (bO.mk (bE.mk tsA ts.length tsC)))),(rd tsA ts.length 9 (ts.map ar.cells)).ro] [] kr (aS [0,1,2,3]) (aS []) ?_
 have q:=D.1
 have N:=si M D
 have p:(iR ts (ts.length+1)).length=ts.length+1:=py
 refine eS U (LW 2 U cf U U)<|eS U (FA 0 U eP U)<|eS U (L1 (vI s.bD) 1 U cf U U)<|eN U<|nH [1,6] kr (jc ?_<|jc ?_<|qP)
 rotate_left 1
 ·refine NO U U [1,4,5,7] fun T12 J=>AL U ej fun f=>RD J 1 U<|N1 1<|NO U U [4,5,7] fun T14 P=>cX (Dg ts tsA tsC asm asm) (bq [4]) U fun Y b=>?_
  obtain ⟨d,o⟩:=Y
  try dsimp only
  refine RD P 2 U<|N1 4<|NO U U [5,7] fun T19 E=>?_
  obtain ⟨z,hz⟩:=aM (iR ts (ts.length+1)) ((s.bD).toNat) I
  have A:=bQ ag.cells hz
  refine rS (IA ((s.bD).toNat) U (au (n:=(iR ts (ts.length+1)).length) 0 U sm) lU dc I I)<|RD E 2 U<|N1 5<|NO U U [7] fun T20 F=>rS (mq ((s.bD).toNat) 0 (ag.cells z) U cf (au (n:=(iR ts (ts.length+1)).length) 0 U sm) A U dc U U)<|RD F 2 U<|N1 7<|NO U U [] fun T21 C=>rV U c_ U<|RD C 2 U<|mE<|KK H<|WS fun _ B=>rP 1 [] mn ?_
  have A:=qN hz
  have G:=m6 M 0 s.bD.toNat
  unfold mB at N
  rw [← A] at G
  refine fD 11 [0,1,0,1] (mc 1 U (mc 3 U mn)) U<|rS (SX (bp (xs:=[(0,.tmp 27),(1,.tmp 33)]) (cs:=(ag.cells (ag.mk (z.Lo+s.nB.Lo) (z.Hi+s.nB.Hi)))) U U (bo hU U)) U U)<|G6 U c_ U<|rP 1 [] mn ?_
  refine RK B<|av<|nE hQ [0] (mc 2 U mn) U ?_
  (have e:=yo AB D; subst A; rw [e.1,e.2]<;>rfl)
 refine NO U U [4,5,6,7] fun T12 J=>cX (Dg ts tsA tsC asm asm) (bq [3]) U fun X a=>?_
 obtain ⟨c,m⟩:=X
 try dsimp only
 refine RD J 1 U<|nH [4,6] kr (jc ?_<|jc ?_<|qP)
 rotate_left 1
 ·refine NO U U [4,5,7] fun T17 K=>AL U ej fun g=>RD K 2 U<|N1 4<|NO U U [5,7] fun T19 E=>?_
  obtain ⟨z,hz⟩:=aM (iR ts (ts.length+1)) ((s.bD).toNat) I
  have A:=bQ ag.cells hz
  refine rS (IA ((s.bD).toNat) U (au (n:=(iR ts (ts.length+1)).length) 1 U sm) lU dc I I)<|RD E 2 U<|N1 5<|NO U U [7] fun T20 F=>rS (mq ((s.bD).toNat) 0 (ag.cells z) U cf (au (n:=(iR ts (ts.length+1)).length) 1 U sm) A U dc U U)<|RD F 2 U<|N1 7<|NO U U [] fun T21 C=>gl U c_ U<|RD C 2 U<|mE<|KK H<|WS fun _ B=>rP 1 [] mn ?_
  have A:=qN hz
  have G:=m6 M 0 s.bD.toNat
  unfold mB at N
  rw [← A] at G
  refine fD 11 [0,1,0,1] (mc 0 U (mc 3 U mn)) U<|rS (SX (bp (xs:=[(0,.tmp 27),(1,.tmp 33)]) (cs:=(ag.cells (ag.mk (z.Lo+s.nB.Lo) (z.Hi+s.nB.Hi)))) U U (bo hU U)) U U)<|G6 U c_ U<|rP 1 [] mn ?_
  refine RK B<|av<|nE hQ [0] (mc 2 U mn) U ?_
  (have e:=yo AB D; subst A; rw [e.1,e.2]<;>rfl)
 refine NO U U [5,6,7] fun T17 K=>?_
 obtain ⟨z,hz⟩:=aM (iR ts (ts.length+1)) ((s.bD).toNat) I
 have A:=bQ ag.cells hz
 refine rS (IA ((s.bD).toNat) U (au (n:=(iR ts (ts.length+1)).length) 0 U sm) lU dc I I)<|RD K 1 U<|nH [5,6] kr (jc ?_<|jc ?_<|qP)
 rotate_left 1
 ·refine NO U U [5,7] fun T18 L=>AL U ej fun h=>RD L 2 U<|N1 5<|NO U U [7] fun T20 F=>rS (mq ((s.bD).toNat) 0 (ag.cells z) U cf (au (n:=(iR ts (ts.length+1)).length) 1 U sm) A U dc U U)<|RD F 2 U<|N1 7<|NO U U [] fun T21 C=>gl U c_ U<|RD C 2 U<|mE<|KK H<|WS fun _ B=>rP 1 [] mn ?_
  have A:=qN hz
  have G:=m6 M 0 s.bD.toNat
  unfold mB at N
  rw [← A] at G
  refine fD 11 [0,1,0,1] (mc 0 U (mc 3 U mn)) U<|rS (SX (bp (xs:=[(0,.tmp 27),(1,.tmp 33)]) (cs:=(ag.cells (ag.mk (z.Lo+s.nB.Lo) (z.Hi+s.nB.Hi)))) U U (bo hU U)) U U)<|G6 U c_ U<|rP 1 [] mn ?_
  refine RK B<|av<|nE hQ [0] (mc 2 U mn) U ?_
  (have e:=yo AB D; subst A; rw [e.1,e.2]<;>rfl)
 refine NO U U [6,7] fun T18 L=>rS (mq ((s.bD).toNat) 0 (ag.cells z) U cf (au (n:=(iR ts (ts.length+1)).length) 0 U sm) A U dc U U)<|RD L 1 U<|N1 6<|NO U U [7] fun T19 E=>AL U ej fun j=>RD E 2 U<|N1 7<|NO U U [] fun T21 C=>gl U c_ U<|RD C 2 U<|mE<|KK H<|WS fun _ B=>rP 1 [] mn ?_
 have A:=qN hz
 have G:=m6 M 0 s.bD.toNat
 unfold mB at N
 rw [← A] at G
 refine fD 11 [0,1,0,1] (mc 0 U (mc 3 U mn)) U<|rS (SX (bp (xs:=[(0,.tmp 27),(1,.tmp 33)]) (cs:=(ag.cells (ag.mk (z.Lo+s.nB.Lo) (z.Hi+s.nB.Hi)))) U U (bo hU U)) U U)<|G6 U c_ U<|rP 1 [] mn ?_
 refine RK B<|av<|nE hQ [0] (mc 2 U mn) U ?_
 (have e:=yo AB D; subst A; rw [e.1,e.2]<;>rfl)
theorem HT (ts:List ar) (tsA:OA) (tsC:Nat) (p:cK) (q:cK) (hlen:ts.length≤1000000) (hside: ∀ x∈ts,0≤x.jD∧x.jD≤255) (hord: ¬ q.bD<p.bD):
 dN Tryz.prog 154 [(vA (bO.cells (bO.mk (bE.mk tsA ts.length tsC)))),(vA (cK.cells p)),(vA (cK.cells q))] [(rd tsA ts.length 9 (ts.map ar.cells))] (vT [(vA (ag.cells (lL ts p q))),(vI (mV ts p q))]):=by
 refine bH kr Tryz.func154 U U fun k Q hQ hN=>?_
 try dsimp only
 refine WS fun _ N=>eT U fun f=>eT U fun g=>eT U fun i=>AL U ej fun j=>bG 1 U<|RK N<|aq fun _ O=>WS fun _ P=>fD 1 [] (mc 3 U mn) U<|rS (CL (xQ ts tsA tsC hlen) (bq [4]) U)<|rP 1 [] mn ?_
 refine RK P<|cG U (fun A=>?_) (fun A=>?_)
 ·rw [Bool.not_eq_true'] at A
  refine WS fun _ R=>rS (SX (bp (xs:=[]) (cs:=(ag.cells (ag.mk 0 0))) U U (bo hU U)) U U)<|gl U c_ U<|rP 1 [] mn ?_
  refine RK R<|av<|nE hQ [0] (mc 0 U mn) U ?_
  (have e:=wN (a:=p) (b:=q) (by simpa using A); rw [e.1,e.2]<;>rfl)
 rw [Bool.not_eq_false'] at A
 refine WK O<|aq fun _ S=>WS fun _ E=>?_
 have D:=kH A
 have M:=lQ A
 refine fD 2 [0,1] (mc 3 U (mc 2 U mn)) U<|rS (CL (sR ts tsA tsC p asm asm) (bq [4]) U)<|rP 2 [] mn ?_
 refine cg (t:=20) U (bB fun B=>?_) (bx fun B=>?_)
 ·refine bG 5 U<|RK E<|aU U<|WS fun _ G=>rS (SX (bp (xs:=[]) (cs:=(ag.cells (ag.mk 0 0))) U U (bo hU U)) U U)<|gl U c_ U<|rP 1 [] mn ?_
  refine RK G<|av<|nE hQ [0] (mc 0 U mn) U ?_
  (have e:=p9 (a:=p) (b:=q) A (fun h=>by first|exact B h.1|exact C h.2); rw [e.1,e.2]<;>rfl)
 refine fD 2 [0,1] (mc 3 U (mc 1 U mn)) U<|rS (CL (sR ts tsA tsC q asm asm) (bq [4]) U)<|rP 2 [] mn ?_
 refine RK E<|cG U (bB fun C=>?_) (bx fun C=>?_)
 ·refine WS fun _ H=>rS (SX (bp (xs:=[]) (cs:=(ag.cells (ag.mk 0 0))) U U (bo hU U)) U U)<|gl U c_ U<|rP 1 [] mn ?_
  refine RK H<|av<|nE hQ [0] (mc 0 U mn) U ?_
  (have e:=p9 (a:=p) (b:=q) A (fun h=>by first|exact B h.1|exact C h.2); rw [e.1,e.2]<;>rfl)
 refine WK S<|aq fun _ AC=>WS fun _ J=>?_
 have AB:gh ts p∧gh ts q:=⟨B,C⟩
 have T:=si D B
 have V:=si D C
 have c:=B.1
 have d:=C.1
 have Y:=yz D M C B
 unfold mB at T V
 refine rP 5 [0,1] (mc 1 U (mc 2 U mn)) ?_
 refine RK J<|cG U (aV fun F=>?_) (aW fun F=>?_)
 ·exfalso; omega
 refine WK AC<|WS fun _ K=>rP 2 [] (mc 3 U mn) ?_
 have Z:=m6 D p.bD.toNat (q.bD-p.bD).toNat
 refine fD 3 [0,1] (mc 2 U (mc 1 U mn)) U<|rS (CL (AA ts tsA tsC p.bD q.bD asm asm I) (bq [4]) U)<|bG 3 U<|AL U ej fun W=>AL U ej fun X=>rV U c_ U<|gl U c_ U<|RK K<|WS fun _ L=>fD 20 [0,1,2,0,1,2] (mc 1 U (mc 3 U (mc 4 U mn))) U<|rS (SX (bp (xs:=[(0,.tmp 64),(1,.tmp 74)]) (cs:=(ag.cells (ag.mk ((((eO ts p.bD.toNat (q.bD-p.bD).toNat).Lo)+q.nB.Lo)-p.nB.Hi) ((((eO ts p.bD.toNat (q.bD-p.bD).toNat).Hi)+q.nB.Hi)-p.nB.Lo)))) U U (bo hU U)) U U)<|G6 U c_ U<|rP 1 [] mn ?_
 refine RK L<|av<|nE hQ [0] (mc 2 U mn) U ?_
 (have e:=mj A AB; rw [e.1,e.2,ry F]<;>rfl)
theorem Ki (ts:List ar) (tsA:OA) (tsC:Nat) (p:cK) (q:cK) (hlen:ts.length≤1000000) (hside: ∀ x∈ts,0≤x.jD∧x.jD≤255):
 dN Tryz.prog 154 [(vA (bO.cells (bO.mk (bE.mk tsA ts.length tsC)))),(vA (cK.cells p)),(vA (cK.cells q))] [(rd tsA ts.length 9 (ts.map ar.cells))] (vT [(vA (ag.cells (lL ts p q))),(vI (mV ts p q))]):=by
 refine bH kr Tryz.func154 U U fun u Q hQ hN=>?_
 try dsimp only
 refine WS fun _ S=>eT U fun n=>eT U fun o=>eT U fun r=>AL U ej fun s=>bG 1 U<|RK S<|aq fun _ T=>WS fun _ AB=>fD 1 [] (mc 3 U mn) U<|rS (CL (xQ ts tsA tsC hlen) (bq [4]) U)<|rP 1 [] mn ?_
 refine RK AB<|cG U (fun A=>?_) (fun A=>?_)
 ·rw [Bool.not_eq_true'] at A
  refine WS fun _ V=>rS (SX (bp (xs:=[]) (cs:=(ag.cells (ag.mk 0 0))) U U (bo hU U)) U U)<|gl U c_ U<|rP 1 [] mn ?_
  refine RK V<|av<|nE hQ [0] (mc 0 U mn) U ?_
  (have e:=wN (a:=p) (b:=q) (by simpa using A); rw [e.1,e.2]<;>rfl)
 rw [Bool.not_eq_false'] at A
 refine WK T<|aq fun _ W=>WS fun _ E=>?_
 have D:=kH A
 have P:=lQ A
 refine fD 2 [0,1] (mc 3 U (mc 2 U mn)) U<|rS (CL (sR ts tsA tsC p asm asm) (bq [4]) U)<|rP 2 [] mn ?_
 refine cg (t:=20) U (bB fun B=>?_) (bx fun B=>?_)
 ·refine bG 5 U<|RK E<|aU U<|WS fun _ G=>rS (SX (bp (xs:=[]) (cs:=(ag.cells (ag.mk 0 0))) U U (bo hU U)) U U)<|gl U c_ U<|rP 1 [] mn ?_
  refine RK G<|av<|nE hQ [0] (mc 0 U mn) U ?_
  (have e:=p9 (a:=p) (b:=q) A (fun h=>by first|exact B h.1|exact C h.2); rw [e.1,e.2]<;>rfl)
 refine fD 2 [0,1] (mc 3 U (mc 1 U mn)) U<|rS (CL (sR ts tsA tsC q asm asm) (bq [4]) U)<|rP 2 [] mn ?_
 refine RK E<|cG U (bB fun C=>?_) (bx fun C=>?_)
 ·refine WS fun _ H=>rS (SX (bp (xs:=[]) (cs:=(ag.cells (ag.mk 0 0))) U U (bo hU U)) U U)<|gl U c_ U<|rP 1 [] mn ?_
  refine RK H<|av<|nE hQ [0] (mc 0 U mn) U ?_
  (have e:=p9 (a:=p) (b:=q) A (fun h=>by first|exact B h.1|exact C h.2); rw [e.1,e.2]<;>rfl)
 refine WK W<|aq fun _ AC=>WS fun _ J=>?_
 have R:gh ts p∧gh ts q:=⟨B,C⟩
 have X:=si D B
 have Y:=si D C
 have l:=B.1
 have m:=C.1
 have j:=yz D P C B
 unfold mB at X Y
 refine rP 5 [0,1] (mc 1 U (mc 2 U mn)) ?_
 refine RK J<|cG U (aV fun F=>?_) (aW fun F=>?_)
 ·refine WS fun _ K=>fD 3 [0,1,2] (mc 3 U (mc 1 U (mc 2 U mn))) U<|rS (CL (HT ts tsA tsC q p hlen hside I) (bq [4]) U)<|bG 3 U<|AL U ej fun d=>gl U c_ U<|bG 1 U<|RK K<|WS fun _ L=>rP 2 [] (mc 0 U mn) ?_
  have O:lL ts q p=kK ts q p:=(mj A ⟨C,B⟩).2
  have Z: -400000≤(lL ts q p).Lo∧(lL ts q p).Hi≤400000:=by rw [O]; omega
  have c:(lL ts q p).Lo≤(lL ts q p).Hi:=by rw [O]; omega
  refine rS (NG U ⟨I,I⟩)<|fD 2 [] (mc 0 U mn) U<|rS (NG U ⟨I,I⟩)<|rS (SX (bp (xs:=[(0,.tmp 41),(1,.tmp 44)]) (cs:=(ag.cells (ag.mk (-((lL ts q p).Hi)) (-((lL ts q p).Lo))))) U U (bo hU U)) U U)<|rV U c_ U<|rP 1 [] mn ?_
  refine RK L<|av<|nE hQ [0] (mc 1 U mn) U ?_
  (have e:=mj A R; have i:=mj A ⟨C,B⟩; rw [e.1,e.2,i.2,E7 F]<;>rfl)
 refine WK AC<|WS fun _ M=>rP 2 [] (mc 3 U mn) ?_
 have k:=m6 D p.bD.toNat (q.bD-p.bD).toNat
 refine fD 3 [0,1] (mc 2 U (mc 1 U mn)) U<|rS (CL (AA ts tsA tsC p.bD q.bD asm asm I) (bq [4]) U)<|bG 3 U<|AL U ej fun f=>AL U ej fun g=>rV U c_ U<|gl U c_ U<|RK M<|WS fun _ N=>fD 20 [0,1,2,0,1,2] (mc 1 U (mc 3 U (mc 4 U mn))) U<|rS (SX (bp (xs:=[(0,.tmp 64),(1,.tmp 74)]) (cs:=(ag.cells (ag.mk ((((eO ts p.bD.toNat (q.bD-p.bD).toNat).Lo)+q.nB.Lo)-p.nB.Hi) ((((eO ts p.bD.toNat (q.bD-p.bD).toNat).Hi)+q.nB.Hi)-p.nB.Lo)))) U U (bo hU U)) U U)<|G6 U c_ U<|rP 1 [] mn ?_
 refine RK N<|av<|nE hQ [0] (mc 2 U mn) U ?_
 (have e:=mj A R; rw [e.1,e.2,ry F]<;>rfl)
end
section
open Go.RowKit
theorem LC (l:bg) (kA:OA) (kC:Nat) (az:List RA) (cA:OA) (cC:Nat) (bA:OA) (bC:Nat) (hraw:qm l az):
 dN Tryz.prog 75 [(vA (cw.cells (kj l kA kC cA cC bA bC)))] [(rd kA l.aR.length 9 (l.aR.map ar.cells)),(rd cA l.aj.length 2 (List.zipWith ax.cells l.aj az)),(dV (a_ ax.gG l.aj az)),(rd bA l.ab.length 4 (l.ab.map bJ.cells))] (vB (decide (mM l))):=by
 have e:=hraw.sZ
 have d:=hraw.rn
 have a:=hraw.n_
 have b:=hraw.sB
 refine bH kr Tryz.func75 U U fun g Q hQ hN=>?_
 try dsimp only
 refine WS fun _ O=>eT U fun f=>bG 1 U<|RK O<|aq fun _ P=>WS fun _ D=>bG 1 U<|rS (LP (bO.cells (bO.mk (bE.mk kA l.aR.length kC))) 0 U cf U U U)<|rS (CL (Pe l.aR kA kC) (bq [1]) U)<|rP 1 [] mn ?_
 refine cg (t:=7) U (aV fun Z=>?_) (aW fun Z=>?_)
 ·refine bG 11 U<|RK D<|aU U<|WS fun _ R=>rP 1 [] mn ?_
  refine RK R<|av<|Q1 hQ U U U ?_
  exact cB (dM (.inl I)).symm
 refine rP 6 [] (mc 0 U mn) ?_
 refine cg (t:=13) U (aV fun C=>?_) (aW fun C=>?_)
 ·refine bG 5 U<|RK D<|aU U<|WS fun _ S=>rP 1 [] mn ?_
  refine RK S<|av<|Q1 hQ U U U ?_
  exact cB (dM (.inl I)).symm
 refine rP 5 [] (mc 0 U mn) ?_
 refine RK D<|cG U (aV fun N=>?_) (aW fun N=>?_)
 ·refine WS fun _ T=>rP 1 [] mn ?_
  refine RK T<|av<|Q1 hQ U U U ?_
  exact cB (dM (.inl I)).symm
 refine WK P<|aq fun _ AA=>WS fun _ V=>rP 1 [] mn ?_
 refine RK V<|aG ?_
 have A:(0≤l.aj.length)∧(Ba l 0):=by exact ⟨Nat.zero_le _,fun j c hj=>absurd hj (Nat.not_lt_zero _)⟩
 refine bS (ι:={z:Nat // (z≤l.aj.length)∧(Ba l z)}) [1] [0,1,2,3,4] U U (fun z=>[(3,(vI (z.1:Int)))]) (fun z=>[]) (fun _=>rfl) (fun _=>rfl) (fun z=>l.aj.length-z.1) ⟨0,A⟩ (bw U) (aS [0,1,2,3,4]) ?_
 clear A
 rintro ⟨i,⟨W,B⟩⟩ J10 F
 try dsimp only
 refine aq fun _ G=>WS fun _ H=>rP 5 [] (mc 0 U mn) ?_
 refine RK H<|bV U (aW fun C=>?_) (aV fun C=>?_)
 ·refine bL<|ai<|ai<|aI<|KK AA<|WS fun _ L=>rP 1 [] mn ?_
  refine RK L<|av<|Q1 hQ U U U ?_
  exact cB (bI (Ml I I B)).symm
 refine WK G<|aq fun _ AB=>aG<|WS fun _ J=>rP 3 [] (mc 0 U mn) ?_
 obtain ⟨x,hx⟩:=aM l.aj i I
 obtain ⟨xa,X⟩:=aM az i I
 have Y:(List.zipWith ax.cells l.aj az)[i]? =some (ax.cells x xa):=dH hx X
 refine rS (IA i U (aF 2 U) x9 dc I I)<|rS (nv ((i*2)+1) U (aF 2 U) (Nat.mul_pos I dc) eP U)<|rS (hP i 1 (vS xa.1 x.bu.length xa.2) U cf (aF 2 U) Y U dc U)<|rP 2 [] mn ?_
 refine RK J<|cG U (aV fun E=>?_) (aW fun E=>?_)
 ·refine WS fun _ K=>rP 1 [] mn ?_
  refine RK K<|av<|Q1 hQ U U U ?_
  exact cB (dM (JH hx E)).symm
 refine cx<|aO<|KK AB<|ay<|rP 3 [] mn ?_
 refine aJ ?_
 have M:(vI (((i+1):Nat):Int))=(vI ((i:Int)+1)):=by exact cI I
 refine bj (F ⟨(i+1),⟨I,mH B hx I⟩⟩ _ _ _ U os (dx.cons U<|bk U M<|dx.nil _) (aS [0,1,2,3,4]))
theorem zn (d m:Int) (hd:0≤d∧d≤1000) (hm:0≤m∧m≤90000000):
 dN Tryz.prog 152 [(vI d),(vI m)] [] (vI (pJ (d*m) 1000000)):=by
 have J:=QE (a:=d) (b:=m) (A:=1000) (B:=90000000) hd.1 hd.2 hm.1 hm.2
 refine bH kr Tryz.func152 U U fun K Q hQ hN=>?_
 try dsimp only
 refine WS fun _ C=>bG 1 U<|RK C<|WS fun _ D=>bG 2 U<|rS (BI U (uT ⟨I,I⟩))<|bG 1 U<|RK D<|aq fun _ E=>WS fun _ F=>bG 1 U<|rS (BI U (PD I I))<|rP 1 [] mn ?_
 refine RK F<|cG U (aV fun AA=>?_) (aW fun AA=>?_)
 ·refine WS fun _ G=>bG 1 U<|rS (BI U (ur I I I))<|rP 2 [] mn ?_
  refine RK G<|av<|Q1 hQ U U U ?_
  exact cI (by unfold pJ; omega)
 refine WK E<|WS fun _ H=>bG 1 U<|rS (BI U (ur I I I))<|rP 1 [] mn ?_
 refine RK H<|av<|Q1 hQ U U U ?_
 exact cI (by unfold pJ; omega)
theorem LS (c:ax) (sA:OA) (sC:Nat) (hlen:c.bu.length≤1000000):
 dN Tryz.prog 138 [(vA (dA.cells (dA.mk c.dD (bE.mk sA c.bu.length sC))))] [(rd sA c.bu.length 3 (c.bu.map cz.cells))] (vB (decide (eK c))):=by
 refine bH kr Tryz.func138 U U fun w0 Q hQ hN=>?_
 try dsimp only
 refine WS fun _ C2=>eT U fun b2=>bG 1 U<|RK C2<|aq fun _ C3=>WS fun _ A4=>fD 2 [] (mc 0 U mn) U<|rS (CL (jB c.dD 0 1000) (aN) U)<|rP 2 [] mn ?_
 refine cg (t:=14) U (bB fun B9=>?_) (bx fun B9=>?_)
 ·refine bG 6 U<|RK A4<|aU U<|WS fun _ Di=>rP 1 [] mn ?_
  refine RK Di<|av<|Q1 hQ U U U ?_
  exact cB (bI fun h=>by have q1:=h.tD; have q2:=h.len; omega).symm
 refine fD 3 [] (mc 0 U mn) U<|rS (CL (jB (c.bu.length:Int) 1 5) (aN) U)<|rP 2 [] mn ?_
 refine RK A4<|cG U (bB fun Ci=>?_) (bx fun Ci=>?_)
 ·refine WS fun _ Do=>rP 1 [] mn ?_
  refine RK Do<|av<|Q1 hQ U U U ?_
  exact cB (bI fun h=>by have q1:=h.tD; have q2:=h.len; omega).symm
 refine WK C3<|aq fun _ EQ=>WS fun _ Eq=>rP 1 [] mn ?_
 refine RK Eq<|aG ?_
 have A:(0≤c.bu.length)∧(∀ (j:Nat) y,j<0→c.bu[j]? =some y→fX c j y):=by exact ⟨Nat.zero_le _,fun j y hj=>absurd hj (Nat.not_lt_zero _)⟩
 refine bS (ι:={z:Nat // (z≤c.bu.length)∧(∀ (j:Nat) y,j<z→c.bu[j]? =some y→fX c j y)}) [1] [0,1] U U (fun z=>[(3,(vI (z.1:Int)))]) (fun z=>[]) (fun _=>rfl) (fun _=>rfl) (fun z=>c.bu.length-z.1) ⟨0,A⟩ (bw U) (aS [0,1]) ?_
 clear A
 rintro ⟨i,⟨a,C⟩⟩ J9 f
 try dsimp only
 have GT:=MU a C
 refine aq fun _ g=>WS fun _ l=>rP 5 [] (mc 0 U mn) ?_
 refine RK l<|cG U (aV fun Ck=>?_) (aW fun Ck=>?_)
 ·refine WK g<|aq fun _ AA=>aG<|WS fun _ n=>rP 3 [] (mc 0 U mn) ?_
  obtain ⟨x,hx⟩:=aM c.bu i I
  have b:=bQ cz.cells hx
  refine rS (IA i U (aF 1 U) vM dc I I)<|rS (mq i 0 (cz.cells x) U cf (aF 1 U) b U dc U U)<|AL U zF fun Fn=>gl U BG U<|RK n<|aq fun _ B=>dy cy 41 kr<|mz 2 [] (mc 0 U mn) U<|dS (CL (jB x.At 0 86400000) (aN) U)<|dP 2 [] mn ?_
  refine iu (t:=37) U (bB fun Cl=>?_) (bx fun Cl=>?_)
  ·refine lP 36 U<|cO<|RK B<|aU U<|WS fun _ p=>rP 1 [] mn ?_
   refine RK p<|av<|Q1 hQ U U U ?_
   exact cB (bI fun h=>by have q:=h.sync i x hx; unfold fX at q; (rw [g_ I] at q; omega)).symm
  refine dP 3 [] mn ?_
  refine j0 (t:=40) U (aW fun Cp=>?_) (aV fun Cp=>?_)
  ·refine dP 19 [] (mc 0 U mn) ?_
   refine iu (t:=59) U (aV fun X=>?_) (aW fun X=>?_)
   ·refine lP 14 U<|cO<|RK B<|aU U<|WS fun _ w=>rP 1 [] mn ?_
    refine RK w<|av<|Q1 hQ U U U ?_
    exact cB (bI fun h=>by have q:=h.sync i x hx; unfold fX at q; (rw [g_ I] at q; omega)).symm
   refine dP 9 [] (mc 0 U mn) ?_
   refine iu (t:=68) U (aV fun Y=>?_) (aW fun Y=>?_)
   ·refine lP 5 U<|cO<|RK B<|aU U<|WS fun _ AC=>rP 1 [] mn ?_
    refine RK AC<|av<|Q1 hQ U U U ?_
    exact cB (bI fun h=>by have q:=h.sync i x hx; unfold fX at q; (rw [g_ I] at q; omega)).symm
   refine dP 5 [] (mc 0 U mn) ?_
   refine cO<|RK B<|bV U (aW fun Z=>?_) (aV fun Z=>?_)
   ·refine cx<|aO<|KK AA<|ay<|rP 3 [] mn ?_
    refine aJ ?_
    have A7:(vI (((i+1):Nat):Int))=(vI ((i:Int)+1)):=by exact cI I
    refine bj (f ⟨(i+1),⟨I,mH C hx (by unfold fX; (rw [g_ I]; omega))⟩⟩ _ _ _ U os (dx.cons U<|bk U A7<|dx.nil _) (aS [1,2]))
   refine WS fun _ AD=>rP 1 [] mn ?_
   refine RK AD<|av<|Q1 hQ U U U ?_
   exact cB (bI fun h=>by have q:=h.sync i x hx; unfold fX at q; (rw [g_ I] at q; omega)).symm
  refine dP 6 [0,1] (mc 0 U (mc 1 U mn)) ?_
  obtain ⟨y,hy⟩:=aM c.bu (i-1) I
  have d:=bQ cz.cells hy
  refine dS (IA (i-1) U (aF 2 U) vM dc I I)<|dS (nv ((i-1)*3) U (aF 2 U) (Nat.mul_pos I dc) eP U)<|dS (hP (i-1) 0 (vI y.At) U cf (aF 2 U) d U dc U)<|dP 4 [] mn ?_
  refine iu (t:=53) U (aV fun Cx=>?_) (aW fun Cx=>?_)
  ·refine lP 20 U<|cO<|RK B<|aU U<|WS fun _ r=>rP 1 [] mn ?_
   refine RK r<|av<|Q1 hQ U U U ?_
   exact cB (bI fun h=>by have q:=h.sync i x hx; unfold fX at q; (rw [yk I hy] at q; omega)).symm
  refine dP 6 [] (mc 0 U mn) ?_
  refine iu (t:=59) U (aV fun X=>?_) (aW fun X=>?_)
  ·refine lP 14 U<|cO<|RK B<|aU U<|WS fun _ s=>rP 1 [] mn ?_
   refine RK s<|av<|Q1 hQ U U U ?_
   exact cB (bI fun h=>by have q:=h.sync i x hx; unfold fX at q; (rw [g_ I] at q; omega)).symm
  refine dP 9 [] (mc 0 U mn) ?_
  refine iu (t:=68) U (aV fun Y=>?_) (aW fun Y=>?_)
  ·refine lP 5 U<|cO<|RK B<|aU U<|WS fun _ u=>rP 1 [] mn ?_
   refine RK u<|av<|Q1 hQ U U U ?_
   exact cB (bI fun h=>by have q:=h.sync i x hx; unfold fX at q; (rw [g_ I] at q; omega)).symm
  refine dP 5 [] (mc 0 U mn) ?_
  refine cO<|RK B<|bV U (aW fun Z=>?_) (aV fun Z=>?_)
  ·refine cx<|aO<|KK AA<|ay<|rP 3 [] mn ?_
   refine aJ ?_
   have A6:(vI (((i+1):Nat):Int))=(vI ((i:Int)+1)):=by exact cI I
   refine bj (f ⟨(i+1),⟨I,mH C hx (by unfold fX; (rw [yk I hy]; omega))⟩⟩ _ _ _ U os (dx.cons U<|bk U A6<|dx.nil _) (aS [1,2]))
  refine WS fun _ v=>rP 1 [] mn ?_
  refine RK v<|av<|Q1 hQ U U U ?_
  exact cB (bI fun h=>by have q:=h.sync i x hx; unfold fX at q; (rw [g_ I] at q; omega)).symm
 refine bL<|ai<|ai<|aI<|KK EQ<|aq fun _ AO=>WS fun _ AR=>rP 1 [] mn ?_
 refine RK AR<|aG ?_
 have A:(0≤c.bu.length)∧(uV c 0):=by exact ⟨Nat.zero_le _,fun j y hj=>absurd hj (Nat.not_lt_zero _)⟩
 refine bS (ι:={z:Nat // (z≤c.bu.length)∧(uV c z)}) [1] [0,1] U U (fun z=>[(5,(vI (z.1:Int)))]) (fun z=>[]) (fun _=>rfl) (fun _=>rfl) (fun z=>c.bu.length-z.1) ⟨0,A⟩ (bw U) (aS [0,1]) ?_
 clear A
 rintro ⟨m,⟨A9,G⟩⟩ J28 e
 try dsimp only
 have F:=yM (P:=fX c) I C
 refine aq fun _ AY=>WS fun _ Ae=>rP 5 [] (mc 0 U mn) ?_
 refine RK Ae<|bV U (aW fun C0=>?_) (aV fun C0=>?_)
 ·refine bL<|ai<|ai<|aI<|KK AO<|WS fun _ A5=>rP 1 [] mn ?_
  refine RK A5<|av<|Q1 hQ U U U ?_
  exact cB (dM (Ma I I (yM I C) I G)).symm
 refine WK AY<|aq fun _ A0=>aG<|WS fun _ A1=>rP 1 [] mn ?_
 refine RK A1<|aG ?_
 have A:(0≤m)∧(∀ y,c.bu[m]? =some y→GH c y 0):=by exact ⟨Nat.zero_le _,fun y _ j o hj=>absurd hj (Nat.not_lt_zero _)⟩
 refine bS (ι:={z:Nat // (z≤m)∧(∀ y,c.bu[m]? =some y→GH c y z)}) [1,5] [0,1] U U (fun z=>[(6,(vI (z.1:Int)))]) (fun z=>[]) (fun _=>rfl) (fun _=>rfl) (fun z=>m-z.1) ⟨0,A⟩ (bw U) (aS [0,1]) ?_
 clear A
 rintro ⟨k,⟨BE,D⟩⟩ J33 T
 try dsimp only
 refine aq fun _ A2=>WS fun _ A3=>rP 3 [] mn ?_
 refine RK A3<|bV U (aW fun C1=>?_) (aV fun C1=>?_)
 ·refine bL<|ai<|ai<|aI<|aO<|KK A0<|ay<|rP 3 [] mn ?_
  refine aJ ?_
  have A8:(vI (((m+1):Nat):Int))=(vI ((m:Int)+1)):=by exact cI I
  refine bj (e ⟨(m+1),⟨I,EN G D I⟩⟩ _ _ _ U os (dx.cons U<|bk U A8<|dx.nil _) (aS [0,1]))
 refine WK A2<|aq fun _ V=>aG<|aq fun _ W=>m7 cy [0,1,2,3,4,5,6,7,8,9] [10,11,12,13] [false,false,false,false,false,false,false,false,false,false] [] [(cv b2 73 (dA.cells (dA.mk c.dD (bE.mk sA c.bu.length sC)))),(rd sA c.bu.length 3 (c.bu.map cz.cells)).ro] [] kr (aS [0,1]) (aS [])<|eS U (FA 1 U eP U)<|eS U (L1 (vS sA c.bu.length sC) 0 U cf U U)<|eS U (MV U) ?_
 obtain ⟨x,hx⟩:=aM c.bu k I
 have b:=bQ cz.cells hx
 refine eS U (IA k U (aF 1 U) vM dc I I)<|eS U (mq k 0 (cz.cells x) U cf (aF 1 U) b U dc U U)<|eS U (FA 1 U eP U)<|eS U (L1 (vS sA c.bu.length sC) 0 U cf U U)<|eS U (MV U) ?_
 obtain ⟨y,hy⟩:=aM c.bu m I
 have d:=bQ cz.cells hy
 refine eS U (IA m U (aF 1 U) vM dc I I)<|eS U (mq m 0 (cz.cells y) U cf (aF 1 U) d U dc U U)<|eN U<|nH [10,11] kr (jc ?_<|jc ?_<|qP)
 rotate_left 1
 ·refine NO U U [10,12,13] fun T38 M=>AL U zF fun Bc=>RD M 1 U<|N1 10<|NO U U [12,13] fun T40 N=>AL U zF fun B3=>RD N 2 U<|N1 12<|NO U U [13] fun T42 O=>gl U BG U<|RD O 2 U<|N1 13<|NO U U [] fun T43 R=>rV U BG U<|RD R 2 U<|mE<|KK W<|WS fun _ J=>rP 6 [0,1,2] (mc 2 U (mc 1 U (mc 0 U mn))) ?_
  obtain ⟨E1,FS,Fd⟩:=wQ (fun j z _ hz=>F j z hz) hy (F _ _ hy) (show k<m by omega) hx
  refine bG 1 U<|rS (CL (zn c.dD (y.At-x.At) I I) (aN) U)<|bG 1 U<|RK J<|WS fun _ E=>rP 10 [0,1] (mc 0 U (mc 1 U mn)) ?_
  refine cg (t:=113) U (aV fun H=>?_) (aW fun H=>?_)
  ·refine bG 10 U<|RK E<|aU U<|WS fun _ K=>rP 1 [] mn ?_
   refine RK K<|av<|Q1 hQ U U U ?_
   exact cB (bI fun h=>by have q:=h.pair m k y x hy I hx; unfold og at q; omega).symm
  refine rP 10 [0,1] (mc 1 U (mc 0 U mn)) ?_
  refine RK E<|bV U (aW fun AB=>?_) (aV fun AB=>?_)
  ·refine cx<|aO<|KK V<|ay<|rP 3 [] mn ?_
   refine aJ ?_
   have S:(vI (((k+1):Nat):Int))=(vI ((k:Int)+1)):=by exact cI I
   refine bj (T ⟨(k+1),⟨I,fun z hz=>by rw [hy] at hz; cases hz; exact mH (D _ hy) hx (by unfold og; omega)⟩⟩ _ _ _ rfl os (dx.cons rfl<|dx.cons rfl<|bk rfl S<|dx.nil _) (aS [2,3]))
  refine WS fun _ L=>rP 1 [] mn ?_
  refine RK L<|av<|Q1 hQ U U U ?_
  exact cB (bI fun h=>by have q:=h.pair m k y x hy I hx; unfold og at q; omega).symm
 refine NO U U [11,12,13] fun T38 M=>AL U zF fun Bc=>RD M 1 U<|N1 11<|NO U U [12,13] fun T40 N=>AL U zF fun B3=>RD N 2 U<|N1 12<|NO U U [13] fun T42 O=>rV U BG U<|RD O 2 U<|N1 13<|NO U U [] fun T43 R=>gl U BG U<|RD R 2 U<|mE<|KK W<|WS fun _ J=>rP 6 [0,1,2] (mc 2 U (mc 0 U (mc 1 U mn))) ?_
 obtain ⟨E1,FS,Fd⟩:=wQ (fun j z _ hz=>F j z hz) hy (F _ _ hy) (show k<m by omega) hx
 refine bG 1 U<|rS (CL (zn c.dD (y.At-x.At) I I) (aN) U)<|bG 1 U<|RK J<|WS fun _ E=>rP 10 [0,1] (mc 1 U (mc 0 U mn)) ?_
 refine cg (t:=113) U (aV fun H=>?_) (aW fun H=>?_)
 ·refine bG 10 U<|RK E<|aU U<|WS fun _ K=>rP 1 [] mn ?_
  refine RK K<|av<|Q1 hQ U U U ?_
  exact cB (bI fun h=>by have q:=h.pair m k y x hy I hx; unfold og at q; omega).symm
 refine rP 10 [0,1] (mc 0 U (mc 1 U mn)) ?_
 refine RK E<|bV U (aW fun AB=>?_) (aV fun AB=>?_)
 ·refine cx<|aO<|KK V<|ay<|rP 3 [] mn ?_
  refine aJ ?_
  have S:(vI (((k+1):Nat):Int))=(vI ((k:Int)+1)):=by exact cI I
  refine bj (T ⟨(k+1),⟨I,fun z hz=>by rw [hy] at hz; cases hz; exact mH (D _ hy) hx (by unfold og; omega)⟩⟩ _ _ _ rfl os (dx.cons rfl<|dx.cons rfl<|bk rfl S<|dx.nil _) (aS [2,3]))
 refine WS fun _ L=>rP 1 [] mn ?_
 refine RK L<|av<|Q1 hQ U U U ?_
 exact cB (bI fun h=>by have q:=h.pair m k y x hy I hx; unfold og at q; omega).symm
theorem CD (c:ax) (sA:OA) (sC:Nat) (at_:Int) (hc:eK c) (ha:0≤at_∧at_≤90000000):
 dN Tryz.prog 185 [(vA (dA.cells (dA.mk c.dD (bE.mk sA c.bu.length sC)))),(vI at_)] [(rd sA c.bu.length 3 (c.bu.map cz.cells))] (vA (ag.cells (hH c at_))):=by
 have e:=hc.len
 have W:=hc.tD
 refine bH kr Tryz.func185 U U fun j Q hQ hN=>?_
 try dsimp only
 refine WS fun _ R=>eT U fun g=>AL U ej fun h=>RK R<|WS fun _ S=>AL U ej fun d=>RK S<|aq fun _ T=>WS fun _ AA=>rP 1 [] mn ?_
 refine RK AA<|aG ?_
 have A:(0≤c.bu.length):=by exact Nat.zero_le _
 refine bS (ι:={z:Nat // (z≤c.bu.length)}) [1,2,4,5] [1,2,3] U U (fun z=>[(6,(vI (z.1:Int)))]) (fun z=>[(cv d 53 (ag.cells (lS c at_ z.1)))]) (fun _=>rfl) (fun _=>rfl) (fun z=>c.bu.length-z.1) ⟨0,A⟩ (bw U) (aS [1,2,3,0]) ?_
 clear A
 rintro ⟨i,X⟩ J8 D
 try dsimp only
 refine aq fun _ V=>WS fun _ E=>rP 5 [] (mc 1 U mn) ?_
 refine RK E<|bV U (aW fun O=>?_) (aV fun O=>?_)
 ·refine bL<|ai<|ai<|aI<|KK T<|WS fun _ J=>rP 1 [] (mc 3 U mn) ?_
  refine gl U c_ U<|RK J<|av<|D8 hQ [0] (mc 0 U mn) U ?_
  rw [EL hc (show c.bu.length≤i by omega)]
 refine WK V<|aq fun _ B=>aG<|WS fun _ F=>rP 3 [] (mc 1 U mn) ?_
 obtain ⟨x,hx⟩:=aM c.bu i I
 have Z:=bQ cz.cells hx
 refine rS (IA i U (aF 2 U) vM dc I I)<|rS (mq i 0 (cz.cells x) U cf (aF 2 U) Z U dc U U)<|AL U zF fun a=>gl U BG U<|RK F<|WS fun _ G=>rP 2 [] (mc 2 U mn) ?_
 have Y:=hc.uc hx
 have f:0≤pJ (c.dD*max (at_-x.At) (x.At-at_)) 1000000∧pJ (c.dD*max (at_-x.At) (x.At-at_)) 1000000≤90001:=wP W ha Y.1
 refine fD 8 [] (mc 0 U mn) U<|rS (MX U)<|rS (CL (zn c.dD (max (at_-x.At) (x.At-at_)) I I) (aN) U)<|bG 1 U<|RK G<|WS fun _ H=>fD 10 [] (mc 0 U mn) U<|rS (SX (bp (xs:=[(0,.tmp 38),(1,.tmp 43)]) (cs:=(ag.cells (ag.mk (x.eB.Lo-(pJ (c.dD*(max (at_-x.At) (x.At-at_))) 1000000)) (x.eB.Hi+(pJ (c.dD*(max (at_-x.At) (x.At-at_))) 1000000))))) U U (bo hU U)) U U)<|AL U ej fun b=>gl U c_ U<|RK H<|aq fun _ C=>WS fun _ AB=>rP 2 [] mn ?_
 refine RK AB<|bV U (aW fun P=>?_) (aV fun P=>?_)
 ·refine WK C<|ay<|fD 4 [0,1] (mc 5 U (mc 0 U mn)) U<|rS (MX U)<|rP 4 [0,1] (mc 5 U (mc 0 U mn)) ?_
  refine rS (MN U)<|rS (SX (bp (xs:=[(0,.tmp 52),(1,.tmp 57)]) (cs:=(ag.cells (ag.mk (max ((lS c at_ i).Lo) (x.eB.Lo-(pJ (c.dD*(max (at_-x.At) (x.At-at_))) 1000000))) (min ((lS c at_ i).Hi) (x.eB.Hi+(pJ (c.dD*(max (at_-x.At) (x.At-at_))) 1000000)))))) U U (bo hU U)) U U)<|MA U c_ U<|aJ<|aO<|KK B ?_
  have M:(ag.cells (ag.mk (max ((lS c at_ i).Lo) (x.eB.Lo-(pJ (c.dD*(max (at_-x.At) (x.At-at_))) 1000000))) (min ((lS c at_ i).Hi) (x.eB.Hi+(pJ (c.dD*(max (at_-x.At) (x.At-at_))) 1000000)))))=(ag.cells (lS c at_ (i+1))):=by exact congrArg ag.cells (Dk hx I).symm
  rw [M]
  refine ay<|rP 3 [] mn ?_
  refine aJ ?_
  have N:(vI (((i+1):Nat):Int))=(vI ((i:Int)+1)):=by exact cI I
  refine bj (D ⟨(i+1),(by first|omega|(simp only []; omega))⟩ _ _ _ U os (cQ 4<|bk U N<|dx.nil _) (aS [2,3,4,5]))
 refine ay<|fD 1 [] (mc 0 U mn) U<|MA U c_ U<|RK C<|ay<|fD 4 [0,1] (mc 5 U (mc 0 U mn)) U<|rS (MX U)<|rP 4 [0,1] (mc 5 U (mc 0 U mn)) ?_
 refine rS (MN U)<|rS (SX (bp (xs:=[(0,.tmp 52),(1,.tmp 57)]) (cs:=(ag.cells (ag.mk (max (x.eB.Lo-(pJ (c.dD*(max (at_-x.At) (x.At-at_))) 1000000)) (x.eB.Lo-(pJ (c.dD*(max (at_-x.At) (x.At-at_))) 1000000))) (min (x.eB.Hi+(pJ (c.dD*(max (at_-x.At) (x.At-at_))) 1000000)) (x.eB.Hi+(pJ (c.dD*(max (at_-x.At) (x.At-at_))) 1000000)))))) U U (bo hU U)) U U)<|MA U c_ U<|aJ<|aO<|KK B ?_
 have K:(ag.cells (ag.mk (max (x.eB.Lo-(pJ (c.dD*(max (at_-x.At) (x.At-at_))) 1000000)) (x.eB.Lo-(pJ (c.dD*(max (at_-x.At) (x.At-at_))) 1000000))) (min (x.eB.Hi+(pJ (c.dD*(max (at_-x.At) (x.At-at_))) 1000000)) (x.eB.Hi+(pJ (c.dD*(max (at_-x.At) (x.At-at_))) 1000000)))))=(ag.cells (lS c at_ (i+1))):=by exact congrArg ag.cells (Bt hc ha hx I).symm
 rw [K]
 refine ay<|rP 3 [] mn ?_
 refine aJ ?_
 have L:(vI (((i+1):Nat):Int))=(vI ((i:Int)+1)):=by exact cI I
 refine bj (D ⟨(i+1),(by first|omega|(simp only []; omega))⟩ _ _ _ U os (cQ 4<|bk U L<|dx.nil _) (aS [2,3,4,5]))
theorem MJ (l:bg) (kA:OA) (kC:Nat) (az:List RA) (cA:OA) (cC:Nat) (bA:OA) (bC:Nat) (n:Int) (hin:ep l az) (htr:du l.aR=true) (hbk: ∀ b∈l.ab,kM l b) (hn:0≤n∧n<(l.ab.length:Int)):
 dN Tryz.prog 140 [(vA (cw.cells (kj l kA kC cA cC bA bC))),(vI n)] [(rd kA l.aR.length 9 (l.aR.map ar.cells)),(rd cA l.aj.length 2 (List.zipWith ax.cells l.aj az)),(dV (a_ ax.gG l.aj az)),(rd bA l.ab.length 4 (l.ab.map bJ.cells))] (vI (l8 l n.toNat)):=by
 have AA:=hin.sZ
 have S:=hin.rn
 have P:=hin.n_
 have R:=hin.sB
 have T:=hin.side
 refine bH kr Tryz.func140 U U fun X Q hQ hN=>?_
 try dsimp only
 refine WS fun _ G=>eT U fun V=>bG 1 U<|RK G<|aq fun _ H=>WS fun _ AB=>rP 2 [] mn ?_
 refine RK AB<|cG U (aV fun F=>?_) (aW fun F=>?_)
 ·refine aq fun _ J=>dT cy [11,12] [] [] [0,1,2,3,4] [] U U U U U<|eS U (FA 0 U eP U)<|eS U (LP (bO.cells (bO.mk (bE.mk kA l.aR.length kC))) 0 U cf U U U)<|eS U (FA 3 U eP U)<|eS U (L1 (vS bA l.ab.length bC) 0 U cf U U) ?_
  obtain ⟨y,hy⟩:=aM l.ab 0 I
  have A:=bQ bJ.cells hy
  refine eS U (IA 0 U (aF 4 U) xz dc U I)<|eS U (nv (0*4) U (aF 4 U) (Nat.mul_pos I dc) eP U)<|eS U (mq 0 0 (cK.cells y.nI) U cf (aF 4 U) A U dc U U)<|eS U (CL (S9 l.aR kA kC y.nI asm asm) (bq [1]) U)<|eS U (MV U)<|eS U (EX U)<|eS U (EX U)<|eS U (AG U)<|eN U<|cm U fun T6 L=>AL U ej fun W=>aJ (L _ _ (aS [1,2,3,4,5]) ?_)
  refine cm U fun T8 M=>gl U c_ U<|aJ (M _ _ (aS [1,2,3,4,5]) ?_)
  refine f_ U<|KK J<|WS fun _ K=>rP 3 [] (mc 0 U mn) ?_
  refine RK K<|av<|Q1 hQ U U U ?_
  (refine congrArg (Value.int .i64) ?_; rw [show n.toNat=0 by omega]; rw [Af hy,(yo htr (hbk _ (List.mem_of_getElem? hy)).1).2])
 refine WK H<|aq fun _ B=>dT cy [19,20] [] [] [0,1,2,3,4] [] U U U U U<|eS U (FA 0 U eP U)<|eS U (LP (bO.cells (bO.mk (bE.mk kA l.aR.length kC))) 0 U cf U U U)<|eS U (FA 3 U eP U)<|eS U (L1 (vS bA l.ab.length bC) 0 U cf U U)<|eS U (MV U)<|eS U (BI U (x_ ⟨I,I⟩)) ?_
 obtain ⟨y,hy⟩:=aM l.ab (((n-1)).toNat) I
 have A:=bQ bJ.cells hy
 refine eS U (IA (((n-1)).toNat) U (aF 4 U) xz dc I I)<|eS U (nv ((((n-1)).toNat)*4) U (aF 4 U) (Nat.mul_pos I dc) eP U)<|eS U (mq (((n-1)).toNat) 0 (cK.cells y.nI) U cf (aF 4 U) A U dc U U)<|eS U (FA 3 U eP U)<|eS U (L1 (vS bA l.ab.length bC) 0 U cf U U)<|eS U (MV U) ?_
 obtain ⟨x,hx⟩:=aM l.ab ((n).toNat) I
 have N:=bQ bJ.cells hx
 refine eS U (IA ((n).toNat) U (aF 4 U) xz dc I I)<|eS U (nv (((n).toNat)*4) U (aF 4 U) (Nat.mul_pos I dc) eP U)<|eS U (mq ((n).toNat) 0 (cK.cells x.nI) U cf (aF 4 U) N U dc U U)<|eS U (CL (Ki l.aR kA kC y.nI x.nI asm asm) (bq [1]) U)<|eS U (MV U)<|eS U (EX U)<|eS U (EX U)<|eS U (AG U)<|eN U<|cm U fun T11 D=>AL U ej fun O=>aJ (D _ _ (aS [1,2,3,4,5]) ?_)
 refine cm U fun T13 E=>gl U c_ U<|aJ (E _ _ (aS [1,2,3,4,5]) ?_)
 refine f_ U<|KK B<|WS fun _ C=>rP 3 [] (mc 0 U mn) ?_
 refine RK C<|av<|Q1 hQ U U U ?_
 (refine congrArg (Value.int .i64) ?_; rw [CT I hx (by rw [show n.toNat-1=(n-1).toNat by omega]; exact hy),(mj htr ⟨(hbk _ (List.mem_of_getElem? hy)).1,(hbk _ (List.mem_of_getElem? hx)).1⟩).2])
theorem KI (l:bg) (kA:OA) (kC:Nat) (az:List RA) (cA:OA) (cC:Nat) (bA:OA) (bC:Nat) (n:Int) (hin:ep l az) (htr:du l.aR=true) (hok:mh l) (hn:0≤n∧n<(l.ab.length:Int)):
 dN Tryz.prog 177 [(vA (cw.cells (kj l kA kC cA cC bA bC))),(vI n)] [(rd kA l.aR.length 9 (l.aR.map ar.cells)),(rd cA l.aj.length 2 (List.zipWith ax.cells l.aj az)),(dV (a_ ax.gG l.aj az)),(rd bA l.ab.length 4 (l.ab.map bJ.cells))] (vI (eu l n.toNat)):=by
 have G:=hin.sZ
 have F:=hin.rn
 have D:=hin.n_
 have E:=hin.sB
 have C:=hok.head
 unfold eY at C
 have H:=DK htr hok.re n.toNat
 have AA:=hok.Q5 n.toNat I
 refine bH kr Tryz.func177 U U fun K Q hQ hN=>?_
 try dsimp only
 refine WS fun _ A=>eT U fun J=>bG 1 U<|RK A<|aq fun _ B=>dy cy 12 kr<|mz 2 [] (mc 0 U mn) U<|dS (CL (MJ l kA kC az cA cC bA bC n hin htr (by exact hok.re) hn) (bq [1,2,3,4]) U)<|dS (BI U (uT ⟨I,I⟩))<|mz 6 [] (mc 0 U mn) U<|dS (BI U (ur I I I))<|dP 1 [] mn ?_
 refine cO<|RK B<|av<|Q1 hQ U U U ?_
 exact cI (by unfold eu pJ; rw [Int.mul_comm])
theorem OF (l:bg) (kA:OA) (kC:Nat) (az:List RA) (cA:OA) (cC:Nat) (bA:OA) (bC:Nat) (hin:ep l az) (htr:du l.aR=true):
 dN Tryz.prog 121 [(vA (cw.cells (kj l kA kC cA cC bA bC)))] [(rd kA l.aR.length 9 (l.aR.map ar.cells)),(rd cA l.aj.length 2 (List.zipWith ax.cells l.aj az)),(dV (a_ ax.gG l.aj az)),(rd bA l.ab.length 4 (l.ab.map bJ.cells))] (vB (decide (mh l))):=by
 have Do:=hin.sZ
 have C1:=hin.rn
 have Cp:=hin.n_
 have C0:=hin.sB
 have C2:=hin.side
 have C3:=kH htr
 have Cl:=lQ htr
 refine bH kr Tryz.func121 U U fun w0 Q hQ hN=>?_
 try dsimp only
 refine WS fun _ A6=>eT U fun b2=>bG 1 U<|RK A6<|aq fun _ A7=>WS fun _ D=>fD 2 [] (mc 0 U mn) U<|rS (CL (jB l.iN 1 5000) (aN) U)<|rP 2 [] mn ?_
 refine cg (t:=10) U (bB fun AO=>?_) (bx fun AO=>?_)
 ·refine bG 35 U<|RK D<|aU U<|WS fun _ A8=>rP 1 [] mn ?_
  refine RK A8<|av<|Q1 hQ U U U ?_
  exact cB (bI fun h=>by have q:=h.head; unfold eY at q; omega).symm
 refine fD 3 [] (mc 0 U mn) U<|rS (CL (jB (l.aj.length:Int) 1 4) (aN) U)<|rP 3 [] mn ?_
 refine cg (t:=17) U (bB fun AR=>?_) (bx fun AR=>?_)
 ·refine bG 28 U<|RK D<|aU U<|WS fun _ A9=>rP 1 [] mn ?_
  refine RK A9<|av<|Q1 hQ U U U ?_
  exact cB (bI fun h=>by have q:=h.head; unfold eY at q; omega).symm
 refine fD 3 [] (mc 0 U mn) U<|rS (CL (jB (l.ab.length:Int) 1 6) (aN) U)<|rP 3 [] mn ?_
 refine cg (t:=24) U (bB fun AY=>?_) (bx fun AY=>?_)
 ·refine bG 21 U<|RK D<|aU U<|WS fun _ BE=>rP 1 [] mn ?_
  refine RK BE<|av<|Q1 hQ U U U ?_
  exact cB (bI fun h=>by have q:=h.head; unfold eY at q; omega).symm
 refine fD 6 [] (mc 0 U mn) U<|rS (CL (jB l.bM 0 ((l.ab.length:Int)-1)) (aN) U)<|rP 3 [] mn ?_
 refine cg (t:=34) U (bB fun Ae=>?_) (bx fun Ae=>?_)
 ·refine bG 11 U<|RK D<|aU U<|WS fun _ Bc=>rP 1 [] mn ?_
  refine RK Bc<|av<|Q1 hQ U U U ?_
  exact cB (bI fun h=>by have q:=h.head; unfold eY at q; omega).symm
 refine fD 2 [] (mc 0 U mn) U<|rS (CL (jB l.fT 0 3) (aN) U)<|rP 3 [] mn ?_
 refine cg (t:=40) U (bB fun A0=>?_) (bx fun A0=>?_)
 ·refine bG 5 U<|RK D<|aU U<|WS fun _ B3=>rP 1 [] mn ?_
  refine RK B3<|av<|Q1 hQ U U U ?_
  exact cB (bI fun h=>by have q:=h.head; unfold eY at q; omega).symm
 refine fD 2 [] (mc 0 U mn) U<|rS (CL (jB l.dE 0 3) (aN) U)<|rP 2 [] mn ?_
 refine RK D<|cG U (bB fun A1=>?_) (bx fun A1=>?_)
 ·refine WS fun _ N=>rP 1 [] mn ?_
  refine RK N<|av<|Q1 hQ U U U ?_
  exact cB (bI fun h=>by have q:=h.head; unfold eY at q; omega).symm
 refine WK A7<|aq fun _ O=>WS fun _ R=>rP 1 [] mn ?_
 refine RK R<|aG ?_
 have A:(0≤l.aj.length)∧(∀ (j:Nat) y,j<0→l.aj[j]? =some y→eK y):=by exact ⟨Nat.zero_le _,fun j y hj=>absurd hj (Nat.not_lt_zero _)⟩
 refine bS (ι:={z:Nat // (z≤l.aj.length)∧(∀ (j:Nat) y,j<z→l.aj[j]? =some y→eK y)}) [1] [0,1,2,3,4] U U (fun z=>[(3,(vI (z.1:Int)))]) (fun z=>[]) (fun _=>rfl) (fun _=>rfl) (fun z=>l.aj.length-z.1) ⟨0,A⟩ (bw U) (aS [0,1,2,3,4]) ?_
 clear A
 rintro ⟨i,⟨B9,F⟩⟩ J13 K
 try dsimp only
 refine aq fun _ S=>WS fun _ T=>rP 5 [] (mc 0 U mn) ?_
 refine RK T<|cG U (aV fun A2=>?_) (aW fun A2=>?_)
 ·refine WK S<|aq fun _ AA=>aG<|WS fun _ V=>rP 3 [] (mc 0 U mn) ?_
  obtain ⟨x,hx⟩:=aM l.aj i I
  obtain ⟨xa,J⟩:=aM az i I
  have Ck:(List.zipWith ax.cells l.aj az)[i]? =some (ax.cells x xa):=dH hx J
  refine rS (IA i U (aF 2 U) x9 dc I I)<|rS (mq i 0 (dA.cells (dA.mk x.dD (bE.mk xa.1 x.bu.length xa.2))) U cf (aF 2 U) Ck U dc U U) ?_
  have Di:=(hin.Rr _ _ _ hx J).2
  refine rS (CL (LS x xa.1 xa.2 asm) (aD (show jC _ (rd xa.1 x.bu.length 3 (x.bu.map cz.cells)).holds from (cW 3 U (bT hx J (by simp [ax.gG]))))<|aN) U)<|rP 1 [] mn ?_
  refine RK V<|bV U (bx fun AB=>?_) (bB fun AB=>?_)
  ·refine cx<|aO<|KK AA<|ay<|rP 3 [] mn ?_
   refine aJ ?_
   have u:(vI (((i+1):Nat):Int))=(vI ((i:Int)+1)):=by exact cI I
   refine bj (K ⟨(i+1),⟨I,mH (P:=fun _ y=>eK y) F hx AB⟩⟩ _ _ _ U os (dx.cons U<|bk U u<|dx.nil _) (aS [0,1,2,3,4]))
  refine WS fun _ W=>rP 1 [] mn ?_
  refine RK W<|av<|Q1 hQ U U U ?_
  exact cB (bI fun h=>AB (h.clock _ (aQ hx))).symm
 refine bL<|ai<|ai<|aI<|KK O<|aq fun _ X=>WS fun _ Y=>rP 1 [] mn ?_
 refine RK Y<|aG ?_
 have A:(0≤l.ab.length)∧(∀ (j:Nat) y,j<0→l.ab[j]? =some y→kM l y):=by exact ⟨Nat.zero_le _,fun j y hj=>absurd hj (Nat.not_lt_zero _)⟩
 refine bS (ι:={z:Nat // (z≤l.ab.length)∧(∀ (j:Nat) y,j<z→l.ab[j]? =some y→kM l y)}) [1] [0,1,2,3,4] U U (fun z=>[(4,(vI (z.1:Int)))]) (fun z=>[]) (fun _=>rfl) (fun _=>rfl) (fun z=>l.ab.length-z.1) ⟨0,A⟩ (bw U) (aS [0,1,2,3,4]) ?_
 clear A
 rintro ⟨m,⟨Ci,B⟩⟩ J22 L
 try dsimp only
 refine aq fun _ Z=>WS fun _ a=>rP 5 [] (mc 0 U mn) ?_
 refine RK a<|bV U (aW fun A3=>?_) (aV fun A3=>?_)
 ·refine bL<|ai<|ai<|aI<|KK X<|aq fun _ e=>WS fun _ f=>rP 1 [] mn ?_
  refine RK f<|aG ?_
  have A:(0≤l.ab.length)∧(∀ j,j<0→1≤l8 l j):=by exact ⟨Nat.zero_le _,fun j hj=>absurd hj (Nat.not_lt_zero _)⟩
  refine bS (ι:={z:Nat // (z≤l.ab.length)∧(∀ j,j<z→1≤l8 l j)}) [1] [0,1,2,3,4] U U (fun z=>[(5,(vI (z.1:Int)))]) (fun z=>[]) (fun _=>rfl) (fun _=>rfl) (fun z=>l.ab.length-z.1) ⟨0,A⟩ (bw U) (aS [0,1,2,3,4]) ?_
  clear A
  rintro ⟨n,⟨AD,C⟩⟩ J32 M
  try dsimp only
  have Cx:=xY (P:=kM l) I B
  refine aq fun _ g=>WS fun _ k=>rP 5 [] (mc 0 U mn) ?_
  refine RK k<|bV U (aW fun A5=>?_) (aV fun A5=>?_)
  ·refine bL<|ai<|ai<|aI<|KK e<|WS fun _ s=>rP 1 [] mn ?_
   refine RK s<|av<|Q1 hQ U U U ?_
   exact cB (dM (Ax (by unfold eY; omega) (xY I F) (xY I B) (fun j hj=>C j I))).symm
  refine WK g<|aq fun _ o=>aG<|WS fun _ p=>fD 2 [] (mc 0 U mn) U<|rS (CL (MJ l kA kC az cA cC bA bC (n:Int) hin htr asm I) (bq [1,2,3,4]) U)<|rP 1 [] mn ?_
  refine RK p<|bV U (aW fun E=>?_) (aV fun E=>?_)
  ·refine cx<|aO<|KK o<|ay<|rP 3 [] mn ?_
   refine aJ ?_
   have w:(vI (((n+1):Nat):Int))=(vI ((n:Int)+1)):=by exact cI I
   refine bj (M ⟨(n+1),⟨I,fun j hj=>by rcases Nat.lt_or_ge j n with q|q; exact C j q; (obtain rfl:j=n:=by omega); simp only [Int.toNat_natCast] at E; omega⟩⟩ _ _ _ rfl os (dx.cons rfl<|bk rfl w<|dx.nil _) (aS [0,1,2,3,4]))
  refine WS fun _ r=>rP 1 [] mn ?_
  refine RK r<|av<|Q1 hQ U U U ?_
  exact cB (bI fun h=>by have q:=h.Q5 n I; simp only [Int.toNat_natCast] at E; omega).symm
 refine WK Z<|aq fun _ b=>aG<|aq fun _ H=>dy cy 24 kr<|lP 1 U<|dS (LP (bO.cells (bO.mk (bE.mk kA l.aR.length kC))) 0 U cf U U U)<|dP 3 [] (mc 0 U mn) ?_
 obtain ⟨y,hy⟩:=aM l.ab m I
 have AC:=bQ bJ.cells hy
 refine dS (IA m U (aF 4 U) xz dc I I)<|dS (nv (m*4) U (aF 4 U) (Nat.mul_pos I dc) eP U)<|dS (mq m 0 (cK.cells y.nI) U cf (aF 4 U) AC U dc U U)<|dS (CL (sR l.aR kA kC y.nI asm asm) (bq [1]) U)<|dP 2 [] mn ?_
 refine iu (t:=77) U (bB fun G=>?_) (bx fun G=>?_)
 ·refine lP 13 U<|cO<|RK H<|aU U<|WS fun _ c=>rP 1 [] mn ?_
  refine RK c<|av<|Q1 hQ U U U ?_
  exact cB (bI fun h=>by have q:=h.re _ (aQ hy); have q2:=q.2; first|exact G q.1|omega).symm
 refine mz 3 [] (mc 0 U mn) U<|dS (IA m U (aF 4 U) xz dc I I)<|dS (nv ((m*4)+3) U (aF 4 U) (Nat.mul_pos I dc) eP U)<|dS (hP m 3 (vI y.jW) U cf (aF 4 U) AC U dc U)<|mz 4 [] (mc 0 U mn) U<|dS (CL (jB y.jW 0 ((l.aj.length:Int)-1)) (aN) U)<|dP 2 [] mn ?_
 refine cO<|RK H<|bV U (bx fun A4=>?_) (bB fun A4=>?_)
 ·refine cx<|aO<|KK b<|ay<|rP 3 [] mn ?_
  refine aJ ?_
  have v:(vI (((m+1):Nat):Int))=(vI ((m:Int)+1)):=by exact cI I
  refine bj (L ⟨(m+1),⟨I,mH (P:=fun _ y=>kM l y) B hy ⟨G,I,I⟩⟩⟩ _ _ _ U os (dx.cons U<|bk U v<|dx.nil _) (aS [0,1,2,3,4]))
 refine WS fun _ d=>rP 1 [] mn ?_
 refine RK d<|av<|Q1 hQ U U U ?_
 exact cB (bI fun h=>by have q:=h.re _ (aQ hy); have q2:=q.2; first|exact G q.1|omega).symm
end
section
open Go.RowKit
theorem DW (r:dY) (kA:OA) (kC:Nat) (az:List RA) (cA:OA) (cC:Nat) (bA:OA) (bC:Nat) (slA:OA) (slC:Nat) (drA:OA) (drC:Nat) (ha:List cN) (heA:OA) (heC:Nat) (hraw:sJ r az ha):
 dN Tryz.prog 49 [(vA (fu.cells (zH r kA kC cA cC bA bC slA slC drA drC heA heC)))] [(rd kA r.ak.aR.length 9 (r.ak.aR.map ar.cells)),(rd cA r.ak.aj.length 2 (List.zipWith ax.cells r.ak.aj az)),(dV (a_ ax.gG r.ak.aj az)),(rd bA r.ak.ab.length 4 (r.ak.ab.map bJ.cells)),(rd slA r.aY.length 1 (r.aY.map iC)),(rd drA r.b_.length 1 (r.b_.map iC)),(rd heA r.aA.length 1 (List.zipWith cq r.aA ha)),(dV (a_ eV r.aA ha))] (vB (decide (mI r))):=by
 have AC:=hraw.line
 have AY:=hraw.iJ
 have A0:=hraw.has
 have AR:=hraw.iK
 have AD:=hraw.draw
 refine bH kr Tryz.func49 U U fun w0 Q hQ hN=>?_
 try dsimp only
 refine WS fun _ l=>eT U fun b2=>bG 1 U<|RK l<|aq fun _ m=>WS fun _ H=>bG 1 U<|rS (LP (cw.cells (kj r.ak kA kC cA cC bA bC)) 0 U cf U U U)<|rS (CL (LC r.ak kA kC az cA cC bA bC asm) (bq [1,2,3,4]) U)<|rP 1 [] mn ?_
 refine cg (t:=8) U (aV fun k=>?_) (aW fun k=>?_)
 ·refine bG 17 U<|RK H<|aU U<|WS fun _ n=>rP 1 [] mn ?_
  refine RK n<|av<|Q1 hQ U U U ?_
  exact cB (dM (ql (.inl k))).symm
 refine rP 6 [] (mc 0 U mn) ?_
 refine cg (t:=14) U (aV fun AB=>?_) (aW fun AB=>?_)
 ·refine bG 11 U<|RK H<|aU U<|WS fun _ o=>rP 1 [] mn ?_
  refine RK o<|av<|Q1 hQ U U U ?_
  exact cB (dM (ql (.inr I))).symm
 refine rP 6 [] (mc 0 U mn) ?_
 refine cg (t:=20) U (aV fun f=>?_) (aW fun f=>?_)
 ·refine bG 5 U<|RK H<|aU U<|WS fun _ p=>rP 1 [] mn ?_
  refine RK p<|av<|Q1 hQ U U U ?_
  exact cB (dM (ql (.inr I))).symm
 refine rP 5 [] (mc 0 U mn) ?_
 refine RK H<|cG U (aV fun h=>?_) (aW fun h=>?_)
 ·refine WS fun _ q=>rP 1 [] mn ?_
  refine RK q<|av<|Q1 hQ U U U ?_
  exact cB (dM (ql (.inr I))).symm
 refine WK m<|aq fun _ s=>WS fun _ N=>rP 1 [] mn ?_
 refine RK N<|aG ?_
 have B:(0≤r.aA.length)∧(mK r 0):=by exact ⟨Nat.zero_le _,Dh⟩
 refine bS (ι:={z:Nat // (z≤r.aA.length)∧(mK r z)}) [1] [0,1,2,3,4,5,6,7,8] U U (fun z=>[(3,(vI (z.1:Int)))]) (fun z=>[]) (fun _=>rfl) (fun _=>rfl) (fun z=>r.aA.length-z.1) ⟨0,B⟩ (bw U) (aS [0,1,2,3,4,5,6,7,8]) ?_
 clear B
 rintro ⟨i,⟨x,F⟩⟩ J11 L
 try dsimp only
 refine aq fun _ O=>WS fun _ P=>rP 5 [] (mc 0 U mn) ?_
 refine RK P<|bV U (aW fun AB=>?_) (aV fun AB=>?_)
 ·refine bL<|ai<|ai<|aI<|KK s<|WS fun _ b=>rP 1 [] mn ?_
  refine RK b<|av<|Q1 hQ U U U ?_
  exact cB (bI (Iv k I F I)).symm
 refine WK O<|aq fun _ R=>aG<|aq fun _ S=>WS fun _ T=>rP 3 [] (mc 0 U mn) ?_
 obtain ⟨ht,D⟩:=aM r.aA i I
 obtain ⟨A,C⟩:=aM ha i I
 have E:(List.zipWith cq r.aA ha)[i]? =some (cq ht A):=dH D C
 refine rS (IA i U (aF 7 U) oQ dc I I)<|rS (hP i 0 (vS A.1.1 ht.length A.1.2) U cf (aF 7 U) E U dc U) ?_
 obtain ⟨Ae,AO,w⟩:=hraw.gM _ _ _ D C
 refine rP 2 [] mn ?_
 refine RK T<|cG U (aV fun J=>?_) (aW fun J=>?_)
 ·refine WS fun _ AA=>rP 1 [] mn ?_
  refine RK AA<|av<|Q1 hQ U U U ?_
  exact cB (dM (Dw D J)).symm
 refine WK S<|WS fun _ V=>rP 1 [] mn ?_
 refine RK V<|aG ?_
 have B:(0≤ht.length)∧(n8 ht 0):=by exact ⟨Nat.zero_le _,DE⟩
 refine bS (ι:={z:Nat // (z≤ht.length)∧(n8 ht z)}) [1,3] [0,1,2,3,4,5,6,7,8] U U (fun z=>[(4,(vI (z.1:Int)))]) (fun z=>[]) (fun _=>rfl) (fun _=>rfl) (fun z=>ht.length-z.1) ⟨0,B⟩ (bw U) (aS [0,1,2,3,4,5,6,7,8]) ?_
 clear B
 rintro ⟨j,⟨y,G⟩⟩ J20 M
 try dsimp only
 refine aq fun _ W=>WS fun _ X=>fD 4 [] (mc 0 U mn) U<|rS (IA i U (aF 7 U) oQ dc I I)<|rS (hP i 0 (vS A.1.1 ht.length A.1.2) U cf (aF 7 U) E U dc U)<|rP 2 [] mn ?_
 refine RK X<|bV U (aW fun g=>?_) (aV fun g=>?_)
 ·refine bL<|ai<|ai<|aI<|aO<|KK R<|ay<|rP 3 [] mn ?_
  refine aJ ?_
  have e:(vI (((i+1):Nat):Int))=(vI ((i:Int)+1)):=by exact cI I
  refine bj (L ⟨(i+1),⟨I,Dn F D (Fb J G I)⟩⟩ _ _ _ U os (dx.cons U<|bk U e<|dx.nil _) (aS [0,1,2,3,4,5,6,7,8]))
 refine WK W<|aq fun _ Y=>aG<|WS fun _ Z=>fD 3 [] (mc 0 U mn) U<|rS (IA i U (aF 7 U) oQ dc I I)<|rS (hP i 0 (vS A.1.1 ht.length A.1.2) U cf (aF 7 U) E U dc U)<|rP 1 [] mn ?_
 obtain ⟨d,hd⟩:=aM ht j I
 obtain ⟨da,u⟩:=aM A.2 j I
 have v:(List.zipWith ao.cells ht A.2)[j]? =some (ao.cells d da):=dH hd u
 refine rS (IA j U (show jC _ (rd A.1.1 ht.length 7 (List.zipWith ao.cells ht A.2)).holds from (cW 8 U (bT D C cD))) r8 dc I I)<|rS (nv ((j*7)+4) U (show jC _ (rd A.1.1 ht.length 7 (List.zipWith ao.cells ht A.2)).holds from (cW 8 U (bT D C cD))) (Nat.mul_pos I dc) eP U)<|rS (nv (((j*7)+4)+2) U (show jC _ (rd A.1.1 ht.length 7 (List.zipWith ao.cells ht A.2)).holds from (cW 8 U (bT D C cD))) (Nat.mul_pos I dc) eP U)<|rS (hP j 6 (vS da.1 d.aZ.aa.length da.2) U cf (show jC _ (rd A.1.1 ht.length 7 (List.zipWith ao.cells ht A.2)).holds from (cW 8 U (bT D C cD))) v U dc U) ?_
 have A1:=w d (aQ hd)
 refine rP 2 [] mn ?_
 refine RK Z<|bV U (aW fun K=>?_) (aV fun K=>?_)
 ·refine cx<|aO<|KK Y<|ay<|rP 3 [] mn ?_
  refine aJ ?_
  have c:(vI (((j+1):Nat):Int))=(vI ((j:Int)+1)):=by exact cI I
  refine bj (M ⟨(j+1),⟨I,B5 G hd K⟩⟩ _ _ _ U os (dx.cons U<|dx.cons U<|bk U c<|dx.nil _) (aS [0,1,2,3,4,5,6,7,8]))
 refine WS fun _ a=>rP 1 [] mn ?_
 refine RK a<|av<|Q1 hQ U U U ?_
 exact cB (dM (Eh D hd K)).symm
end
section
open Go.RowKit
theorem jA (n lo hi:Int):
 dN Tryz.prog 77 [(vI n),(vI lo),(vI hi)] [] (vB (decide (lo≤n∧n≤hi))):=by
 refine bH kr Tryz.func77 U U fun D Q hQ hN=>?_
 try dsimp only
 refine WS fun _ B=>bG 1 U<|RK B<|WS fun _ A=>rP 4 [] mn ?_
 refine cg (t:=10) U (aV fun C=>?_) (aW fun C=>?_)
 ·refine rP 5 [] mn ?_
  refine RK A<|av<|Q1 hQ U U U ?_
  exact cB (g5.2 I)
 refine rP 5 [] mn ?_
 refine RK A<|av<|Q1 hQ U U U ?_
 exact cB (bI I).symm
theorem Gw (o fx:Bool) (tm:ag) (rv:cM):
 dN Tryz.prog 78 [(vA (aP.cells (aP.mk o fx tm rv)))] [] (vB (decide (o=false∧fx=false))):=by
 refine bH kr Tryz.func78 U U fun E Q hQ hN=>?_
 try dsimp only
 refine WS fun _ B=>eT U fun D=>bG 1 U<|RK B<|WS fun _ A=>rP 4 [] (mc 0 U mn) ?_
 refine cu (t:=6) U (fun C=>?_) (fun C=>?_)
 ·rw [Bool.not_eq_false'] at C
  refine rP 5 [] mn ?_
  refine RK A<|av<|Q1 hQ U U U ?_
  clear hQ hN A B
  refine cB ?_
  (simp_all; done)
 rw [Bool.not_eq_true'] at C
 refine rP 5 [] (mc 0 U mn) ?_
 refine RK A<|av<|Q1 hQ U U U ?_
 clear hQ hN A B
 refine cB ?_
 (simp_all; done)
theorem Le (j:cR) (kA:OA) (kC:Nat) (az:List RA) (cA:OA) (cC:Nat) (bA:OA) (bC:Nat) (slA:OA) (slC:Nat) (drA:OA) (drC:Nat) (ha:List cN) (heA:OA) (heC:Nat) (faA:OA) (faC:Nat) (prA:OA) (prC:Nat) (hraw:po j az ha):
 dN Tryz.prog 27 [(vA (eD.cells (nN j kA kC cA cC bA bC slA slC drA drC heA heC faA faC prA prC)))] [(rd kA j.Race.ak.aR.length 9 (j.Race.ak.aR.map ar.cells)),(rd cA j.Race.ak.aj.length 2 (List.zipWith ax.cells j.Race.ak.aj az)),(dV (a_ ax.gG j.Race.ak.aj az)),(rd bA j.Race.ak.ab.length 4 (j.Race.ak.ab.map bJ.cells)),(rd slA j.Race.aY.length 1 (j.Race.aY.map iC)),(rd drA j.Race.b_.length 1 (j.Race.b_.map iC)),(rd heA j.Race.aA.length 1 (List.zipWith cq j.Race.aA ha)),(dV (a_ eV j.Race.aA ha)),(rd faA j.aC.length 4 (j.aC.map aL.cells)),(rd prA j.aw.length 5 (j.aw.map aT.cells))] (vB (decide (pI j))):=by
 have E:=hraw.race
 have F:=hraw.nf
 have G:=hraw.np
 refine bH kr Tryz.func27 U U fun AA Q hQ hN=>?_
 try dsimp only
 refine WS fun _ D=>eT U fun H=>bG 1 U<|RK D<|WS fun _ B=>bG 1 U<|rS (LP (fu.cells (zH j.Race kA kC cA cC bA bC slA slC drA drC heA heC)) 0 U cf U U U)<|rS (CL (DW j.Race kA kC az cA cC bA bC slA slC drA drC ha heA heC asm) (bq [1,2,3,4,5,6,7,8]) U)<|rP 1 [] mn ?_
 refine cg (t:=6) U (aV fun C=>?_) (aW fun C=>?_)
 ·refine rP 12 [] mn ?_
  refine RK B<|av<|Q1 hQ U U U ?_
  (exact cB (dM (show pI j from .inl (.inl C))).symm)
 refine rP 6 [] (mc 0 U mn) ?_
 refine cg (t:=12) U (aV fun A=>?_) (aW fun A=>?_)
 ·refine rP 6 [] mn ?_
  refine RK B<|av<|Q1 hQ U U U ?_
  (exact cB (dM (show pI j from .inl (.inr A))).symm)
 refine rP 6 [] (mc 0 U mn) ?_
 refine RK B<|av<|Q1 hQ U U U ?_
 (exact cB (g5.2 (show _↔pI j from ⟨.inr,fun q=>Or.elim q (fun q=>Or.elim q (fun q=>absurd q C) (fun q=>absurd q A)) id⟩)))
end
section
open Go.RowKit
theorem Cu (l:bg) (kA:OA) (kC:Nat) (az:List RA) (cA:OA) (cC:Nat) (bA:OA) (bC:Nat) (hin:ep l az):
 dN Tryz.prog 101 [(vA (cw.cells (kj l kA kC cA cC bA bC)))] [(rd kA l.aR.length 9 (l.aR.map ar.cells)),(rd cA l.aj.length 2 (List.zipWith ax.cells l.aj az)),(dV (a_ ax.gG l.aj az)),(rd bA l.ab.length 4 (l.ab.map bJ.cells))] (vI (dw l)):=by
 have N:=hin.sZ
 have M:=hin.rn
 have K:=hin.n_
 have L:=hin.sB
 refine bH kr Tryz.func101 U U fun P Q hQ hN=>?_
 try dsimp only
 refine WS fun _ C=>eT U fun O=>bG 1 U<|RK C<|aq fun _ D=>WS fun _ E=>bG 1 U<|rS (LP (bO.cells (bO.mk (bE.mk kA l.aR.length kC))) 0 U cf U U U)<|rS (CL (xQ l.aR kA kC asm) (bq [1]) U)<|rP 1 [] mn ?_
 refine RK E<|cG U (fun A=>?_) (fun A=>?_)
 ·rw [Bool.not_eq_true'] at A
  refine WS fun _ F=>rP 1 [] mn ?_
  refine RK F<|av<|Q1 hQ U U U ?_
  exact cI (Ah (by simpa using A)).symm
 rw [Bool.not_eq_false'] at A
 refine WK D<|aq fun _ G=>WS fun _ H=>fD 1 [] (mc 0 U mn) U<|rS (CL (OF l kA kC az cA cC bA bC hin asm) (bq [1,2,3,4]) U)<|rP 1 [] mn ?_
 refine RK H<|cG U (bB fun B=>?_) (bx fun B=>?_)
 ·refine WS fun _ AA=>rP 1 [] mn ?_
  refine RK AA<|av<|Q1 hQ U U U ?_
  exact cI (su A B).symm
 refine WK G<|WS fun _ J=>rP 1 [] mn ?_
 refine RK J<|av<|Q1 hQ U U U ?_
 exact cI (yR A B).symm
theorem N3 (l:bg) (kA:OA) (kC:Nat) (az:List RA) (cA:OA) (cC:Nat) (bA:OA) (bC:Nat) (s:aH) (hin:ep l az) (hok:mh l) (hs:(0≤s.eZ∧s.eZ≤(l.ab.length:Int)-1)∧0≤s.Read∧s.Read≤86400000):
 dN Tryz.prog 178 [(vA (cw.cells (kj l kA kC cA cC bA bC))),(vA (aH.cells s))] [(rd kA l.aR.length 9 (l.aR.map ar.cells)),(rd cA l.aj.length 2 (List.zipWith ax.cells l.aj az)),(dV (a_ ax.gG l.aj az)),(rd bA l.ab.length 4 (l.ab.map bJ.cells))] (vT [(vA (ag.cells (cJ l s))),(vB (decide ((cJ l s).Lo≤(cJ l s).Hi)))]):=by
 have AY:=hin.sZ
 have AR:=hin.rn
 have AD:=hin.n_
 have AO:=hin.sB
 refine bH kr Tryz.func178 U U fun w0 Q hQ hN=>?_
 try dsimp only
 refine WS fun _ i=>eT U fun b2=>eT U fun b3=>AL U ej fun b4=>rP 1 [] mn ?_
 refine RK i<|aq fun _ j=>dT cy [11,12] [] [] [0,1,2,3,4,5,6] [] U U U U U<|eS U (FA 2 U eP U)<|eS U (L1 (vS cA l.aj.length cC) 2 U cf U U)<|eS U (FA 3 U eP U)<|eS U (L1 (vS bA l.ab.length bC) 2 U cf U U)<|eS U (FA 0 U eP U)<|eS U (L1 (vI s.eZ) 1 U cf U U) ?_
 obtain ⟨y,hy⟩:=aM l.ab ((s.eZ).toNat) I
 have w:=bQ bJ.cells hy
 refine eS U (IA ((s.eZ).toNat) U (aF 6 U) xz dc I I)<|eS U (nv ((((s.eZ).toNat)*4)+3) U (aF 6 U) (Nat.mul_pos I dc) eP U)<|eS U (hP ((s.eZ).toNat) 3 (vI y.jW) U cf (aF 6 U) w U dc U) ?_
 have Ae:=(hok.re _ (aQ hy)).2
 obtain ⟨x,hx⟩:=aM l.aj ((y.jW).toNat) I
 obtain ⟨xa,J⟩:=aM az ((y.jW).toNat) I
 have u:(List.zipWith ax.cells l.aj az)[(y.jW).toNat]? =some (ax.cells x xa):=dH hx J
 refine eS U (IA ((y.jW).toNat) U (aF 4 U) x9 dc I I)<|eS U (mq ((y.jW).toNat) 0 (dA.cells (dA.mk x.dD (bE.mk xa.1 x.bu.length xa.2))) U cf (aF 4 U) u U dc U U)<|eN U<|cm U fun T6 m=>AL U RV fun b7=>aJ (m _ _ (aS [1,2,3,4,5,6,7]) ?_)
 refine cm U fun T8 o=>gl U TD U<|aJ (o _ _ (aS [1,2,3,4,5,6,7]) ?_)
 refine f_ U<|KK j<|WS fun _ k=>rP 2 [] mn ?_
 refine RK k<|aq fun _ K=>aG ?_
 have A:(0≤(0:Int)∧(0:Int)≤(fJ (gv x s.Read) 86400001))∧((fJ (gv x s.Read) 86400001)≤(86400001:Int)∧(86400001:Int)≤86400001):=by (have Z:=jd (p:=gv x s.Read) (n:=86400001); omega)
 refine bS (ι:={z:Int×Int // (0≤z.1∧z.1≤(fJ (gv x s.Read) 86400001))∧((fJ (gv x s.Read) 86400001)≤z.2∧z.2≤86400001)}) [2,3,4,6] [0,1,2,3,4,5,6,7] U U (fun z=>[(7,(vI z.1.1)),(8,(vI z.1.2))]) (fun z=>[]) (fun _=>rfl) (fun _=>rfl) (fun z=>(z.1.2-z.1.1).toNat) ⟨((0:Int),(86400001:Int)),A⟩ (bw U) (aS [0,1,2,3,4,5,6,7]) ?_
 clear A
 rintro ⟨⟨a,b⟩,⟨H,AB⟩⟩ J11 F
 try dsimp only at H AB
 try dsimp only
 have B:=hok.clock _ (aQ hx)
 have Z:=jd (p:=gv x s.Read) (n:=86400001)
 have Y:=jd (p:=gu x s.Read) (n:=86400001)
 refine aq fun _ L=>WS fun _ M=>rP 3 [] mn ?_
 refine RK M<|cG U (aV fun c=>?_) (aW fun c=>?_)
 ·refine WK L<|aG<|WS fun _ N=>bG 3 U<|rS (BI U (ur I I I))<|bG 1 U<|RK N<|aq fun _ O=>dy cy 9 kr<|dP 3 [] (mc 0 U mn) ?_
  refine dS (CL (CD x xa.1 xa.2 ((a+b)/2) asm I) (aD (show jC _ (rd xa.1 x.bu.length 3 (x.bu.map cz.cells)).holds from (cW 6 U (bT hx J (by simp [ax.gG]))))<|aN) U)<|dS (SX (sV (v:=(vI ((hH x ((a+b)/2)).Hi))) U U eP My U) U U) ?_
  have t:=rE B (show 0≤(a+b)/2∧(a+b)/2≤90000000 by omega)
  refine dP 4 [] (mc 2 U mn) ?_
  refine cO<|RK O<|cG U (aV fun g=>?_) (aW fun g=>?_)
  ·refine ay<|rP 2 [] mn ?_
   refine aJ<|aO ?_
   refine bj (F ⟨(a,((a+b)/2)),(by dsimp only; have hm:=kU (r:=s.Read) B (x:=(a+b)/2) I I; rcases Int.lt_or_le ((a+b)/2) (fJ (gv x s.Read) 86400001) with q|q; (have C:=hm.1 q; simp only [gv,decide_eq_false_iff_not] at C; omega); (have C:=hm.2.1 q; simp only [gv,decide_eq_true_eq] at C; omega))⟩ _ _ _ rfl (by simp only []; omega) (bw rfl) (aS [0,1,2,3,4,5,6,7]))
  refine ay<|rP 3 [] mn ?_
  refine aJ<|aO ?_
  refine bj (F ⟨((((a+b)/2)+1),b),(by dsimp only; have hm:=kU (r:=s.Read) B (x:=(a+b)/2) I I; rcases Int.lt_or_le ((a+b)/2) (fJ (gv x s.Read) 86400001) with q|q; (have C:=hm.1 q; simp only [gv,decide_eq_false_iff_not] at C; omega); (have C:=hm.2.1 q; simp only [gv,decide_eq_true_eq] at C; omega))⟩ _ _ _ rfl (by simp only []; omega) (bw rfl) (aS [0,1,2,3,4,5,6,7]))
 refine bL<|ai<|ai<|aI<|KK K<|WS fun _ P=>bG 2 U<|RK P<|WS fun _ R=>rP 2 [] mn ?_
 refine RK R<|aq fun _ S=>aG ?_
 have A:(-1≤((-1):Int)∧((-1):Int)≤(fJ (gu x s.Read) 86400001)-1)∧((fJ (gu x s.Read) 86400001)-1≤(86400000:Int)∧(86400000:Int)≤86400000):=by (have Y:=jd (p:=gu x s.Read) (n:=86400001); omega)
 refine bS (ι:={z:Int×Int // (-1≤z.1∧z.1≤(fJ (gu x s.Read) 86400001)-1)∧((fJ (gu x s.Read) 86400001)-1≤z.2∧z.2≤86400000)}) [2,3,4,6,10] [0,1,2,3,4,5,6,7] U U (fun z=>[(7,(vI z.1.1)),(8,(vI z.1.2))]) (fun z=>[]) (fun _=>rfl) (fun _=>rfl) (fun z=>(z.1.2-z.1.1).toNat) ⟨(((-1):Int),(86400000:Int)),A⟩ (bw U) (aS [0,1,2,3,4,5,6,7]) ?_
 clear A
 rintro ⟨⟨d,e⟩,⟨D,E⟩⟩ J20 G
 try dsimp only at D E
 try dsimp only
 have B:=hok.clock _ (aQ hx)
 have Z:=jd (p:=gv x s.Read) (n:=86400001)
 have Y:=jd (p:=gu x s.Read) (n:=86400001)
 refine aq fun _ T=>WS fun _ AA=>rP 3 [] mn ?_
 refine RK AA<|bV U (aW fun f=>?_) (aV fun f=>?_)
 ·refine bL<|ai<|ai<|aI<|KK S<|WS fun _ X=>bG 2 U<|rS (SX (bp (xs:=[(0,.tmp 63),(1,.tmp 64)]) (cs:=(ag.cells (ag.mk a d))) U U (bo hU U)) U U)<|bG 3 U<|rV U c_ U<|rP 1 [] mn ?_
  refine RK X<|av<|nE hQ [0] (mc 1 U mn) U ?_
  have e0:cJ l s=⟨a,d⟩:=by (unfold cJ mD; rw [tL hy hx,show a=(fJ (gv x s.Read) 86400001) by omega,show d=(fJ (gu x s.Read) 86400001)-1 by omega])
  rw [e0]
 refine WK T<|aG<|WS fun _ V=>bG 4 U<|rS (BI U (ur I I I))<|bG 1 U<|RK V<|aq fun _ W=>dy cy 9 kr<|dP 3 [] (mc 0 U mn) ?_
 refine dS (CL (CD x xa.1 xa.2 (((d+e)+1)/2) asm I) (aD (show jC _ (rd xa.1 x.bu.length 3 (x.bu.map cz.cells)).holds from (cW 6 U (bT hx J (by simp [ax.gG]))))<|aN) U)<|dS (SX (sV (v:=(vI ((hH x (((d+e)+1)/2)).Lo))) U U eP KM U) U U) ?_
 have t:=rE B (show 0≤(d+e+1)/2∧(d+e+1)/2≤90000000 by omega)
 refine dP 4 [] (mc 2 U mn) ?_
 refine cO<|RK W<|cG U (aV fun h=>?_) (aW fun h=>?_)
 ·refine ay<|rP 2 [] mn ?_
  refine aJ<|aO ?_
  refine bj (G ⟨((((d+e)+1)/2),e),(by dsimp only; have hm:=kU (r:=s.Read) B (x:=(d+e+1)/2) I I; rcases Int.lt_or_le ((d+e+1)/2) (fJ (gu x s.Read) 86400001) with q|q; (have C:=hm.2.2.1 q; simp only [gu,decide_eq_false_iff_not] at C; omega); (have C:=hm.2.2.2 q; simp only [gu,decide_eq_true_eq] at C; omega))⟩ _ _ _ rfl (by simp only []; omega) (bw rfl) (aS [0,1,2,3,4,5,6,7]))
 refine ay<|rP 3 [] mn ?_
 refine aJ<|aO ?_
 refine bj (G ⟨(d,((((d+e)+1)/2)-1)),(by dsimp only; have hm:=kU (r:=s.Read) B (x:=(d+e+1)/2) I I; rcases Int.lt_or_le ((d+e+1)/2) (fJ (gu x s.Read) 86400001) with q|q; (have C:=hm.2.2.1 q; simp only [gu,decide_eq_false_iff_not] at C; omega); (have C:=hm.2.2.2 q; simp only [gu,decide_eq_true_eq] at C; omega))⟩ _ _ _ rfl (by simp only []; omega) (bw rfl) (aS [0,1,2,3,4,5,6,7]))
end
section
open Go.RowKit
theorem pN (n lo hi:Int):
 dN Tryz.prog 122 [(vI n),(vI lo),(vI hi)] [] (vB (decide (lo≤n∧n≤hi))):=by
 refine bH kr Tryz.func122 U U fun D Q hQ hN=>?_
 try dsimp only
 refine WS fun _ B=>bG 1 U<|RK B<|WS fun _ A=>rP 4 [] mn ?_
 refine cg (t:=10) U (aV fun C=>?_) (aW fun C=>?_)
 ·refine rP 5 [] mn ?_
  refine RK A<|av<|Q1 hQ U U U ?_
  exact cB (g5.2 I)
 refine rP 5 [] mn ?_
 refine RK A<|av<|Q1 hQ U U U ?_
 exact cB (bI I).symm
theorem Gx (r:cr) (sgA:OA) (sgC:Nat):
 dN Tryz.prog 141 [(vA (cM.cells (jI r sgA sgC)))] [(rd sgA r.aa.length 2 (r.aa.map aH.cells))] (vB (decide (ji r))):=by
 refine bH kr Tryz.func141 U U fun F Q hQ hN=>?_
 try dsimp only
 refine WS fun _ B=>eT U fun E=>bG 1 U<|RK B<|WS fun _ A=>rP 4 [] (mc 0 U mn) ?_
 refine cu (t:=6) U (aW fun C=>?_) (aV fun C=>?_)
 ·refine rP 11 [] mn ?_
  refine RK A<|av<|Q1 hQ U U U ?_
  simp only [ji]
  exact cB (bI I).symm
 refine rP 5 [] (mc 0 U mn) ?_
 refine cu (t:=11) U (aW fun D=>?_) (aV fun D=>?_)
 ·refine rP 6 [] mn ?_
  refine RK A<|av<|Q1 hQ U U U ?_
  simp only [ji]
  exact cB (bI I).symm
 refine rP 6 [] (mc 0 U mn) ?_
 refine RK A<|av<|Q1 hQ U U U ?_
 simp only [ji]
 exact cB (g5.2 I)
theorem Ob (s:ag):
 dN Tryz.prog 142 [(vA (ag.cells s))] [] (vB (decide (mS s))):=by
 refine bH kr Tryz.func142 U U fun F Q hQ hN=>?_
 try dsimp only
 refine WS fun _ B=>eT U fun E=>bG 1 U<|RK B<|WS fun _ A=>rP 4 [] (mc 0 U mn) ?_
 refine cu (t:=6) U (aW fun C=>?_) (aV fun C=>?_)
 ·refine rP 12 [] mn ?_
  refine RK A<|av<|Q1 hQ U U U ?_
  simp only [mS]
  exact cB (bI I).symm
 refine rP 7 [] (mc 0 U mn) ?_
 refine cu (t:=13) U (aW fun D=>?_) (aV fun D=>?_)
 ·refine rP 5 [] mn ?_
  refine RK A<|av<|Q1 hQ U U U ?_
  simp only [mS]
  exact cB (bI I).symm
 refine rP 5 [] (mc 0 U mn) ?_
 refine RK A<|av<|Q1 hQ U U U ?_
 simp only [mS]
 exact cB (g5.2 I)
theorem DH (la:List Int) (laA:OA) (laC:Nat) (lb:List Int) (lbA:OA) (lbC:Nat) (h1:la.length≤1000000) (h2:lb.length≤1000000):
 dN Tryz.prog 38 [(vS laA la.length laC),(vS lbA lb.length lbC)] [(rd laA la.length 1 (la.map iC)),(rd lbA lb.length 1 (lb.map iC))] (vB (decide (la=lb))):=by
 refine bH kr Tryz.func38 U U fun V Q hQ hN=>?_
 try dsimp only
 refine WS fun _ J=>bG 1 U<|RK J<|aq fun _ K=>WS fun _ L=>rP 5 [] mn ?_
 refine RK L<|cG U (bB fun hl=>?_) (bx fun hl=>?_)
 ·refine WS fun _ M=>rP 1 [] mn ?_
  refine RK M<|av<|Q1 hQ U U U ?_
  exact cB (bI (fun e=>by subst e; omega)).symm
 refine WK K<|aq fun _ N=>WS fun _ O=>rP 1 [] mn ?_
 refine RK O<|aG ?_
 have A:(0≤la.length)∧(la.take 0=lb.take 0):=by simp
 refine bS (ι:={z:Nat // (z≤la.length)∧(la.take z=lb.take z)}) [0,1] [0,1] U U (fun z=>[(5,(vI (z.1:Int)))]) (fun z=>[]) (fun _=>rfl) (fun _=>rfl) (fun z=>la.length-z.1) ⟨0,A⟩ (bw U) (aS [0,1]) ?_
 clear A
 rintro ⟨i,⟨S,B⟩⟩ J7 AB
 try dsimp only
 refine aq fun _ P=>WS fun _ R=>rP 4 [] mn ?_
 refine RK R<|bV U (aW fun H=>?_) (aV fun H=>?_)
 ·refine bL<|ai<|ai<|aI<|KK N<|WS fun _ F=>rP 1 [] mn ?_
  refine RK F<|av<|Q1 hQ U U U ?_
  exact cB (dM (rK I B I)).symm
 refine WK P<|aq fun _ C=>aG<|aq fun _ D=>dy cy 9 kr<|dP 2 [] mn ?_
 obtain ⟨x,hx⟩:=aM la i I
 have T:=bQ iC hx
 refine dS (IA i U (aF 0 U) dJ dc I I)<|dS (hP i 0 (vI x) U cf (aF 0 U) T U dc U)<|dP 2 [] mn ?_
 obtain ⟨y,hy⟩:=aM lb i I
 have AA:=bQ iC hy
 refine dS (IA i U (aF 1 U) dJ dc I I)<|dS (hP i 0 (vI y) U cf (aF 1 U) AA U dc U)<|dP 1 [] mn ?_
 refine cO<|RK D<|cG U (bB fun h=>?_) (bx fun h=>?_)
 ·refine WS fun _ E=>rP 1 [] mn ?_
  refine RK E<|av<|Q1 hQ U U U ?_
  exact cB (bI (rJ hx hy h)).symm
 refine cx<|aO<|KK C<|ay<|rP 3 [] mn ?_
 refine aJ ?_
 have G:(vI (((i+1):Nat):Int))=(vI ((i:Int)+1)):=by exact cI I
 refine bj (AB ⟨(i+1),⟨I,wJ B hx hy h⟩⟩ _ _ _ U os (dx.cons U<|dx.cons U<|bk U G<|dx.nil _) (aS [0,1]))
end
section
def dv (good:List Int):aK:=good.foldl (fun t g=>dK t (fV g)) ⟨0,0⟩
theorem kN {l:List Int} {g:Int}:dv (l++[g])=dK (dv l) (fV g):=by unfold dv; rw [List.foldl_append]; rfl
def uO (r:cr) (times:List Int) (b:Nat):Int:=if b=0 then r.Start else (times[b-1]?).getD 0
theorem qE {r:cr} {times:List Int} {b:Nat} {t:Int} (h:times[b]? =some t):uO r times (b+1)=t:=by unfold uO; rw [if_neg I,Nat.add_sub_cancel,h]; rfl
structure iU (l:bg) (r:cr) (times good:List Int):Prop where
 jL:dW l r
 len:good.length=times.length
 le:times.length≤l.ab.length
 step: ∀ (b:Nat) t,times[b]? =some t→uO r times b+eu l b≤t∧t≤r.fI
 sig: ∀ (b:Nat) t g,times[b]? =some t→good[b]? =some g→g= -1∨ ∃ (k:Nat) (s:aH),g=(k:Int)∧r.aa[k]? =some s∧s.eZ=(b:Int)∧(cJ l s).Lo≤t∧t≤(cJ l s).Hi
 LB:(dv good).fp≤l.dE
 SN:(r.aa.length:Int)-(dv good).right≤l.fT
section
variable {l:bg} {r:cr} {times good:List Int}
theorem iU.low (h:iU l r times good) (hl:dw l=0): ∀ b,0≤bW (bP l r) b:=fun b=>by
 obtain ⟨ht,A⟩:=dq hl
 exact ((kO ht A h.jL).bW b).1
theorem iU.least (h:iU l r times good) {b:Nat} (hb:b<times.length):bW (bP l r) b=eu l b:=by
 have:=h.le
 rw [sI,if_pos I]
theorem iU.from_ (h:iU l r times good) (hl:dw l=0): ∀ b:Nat,b≤times.length→r.Start≤uO r times b∧uO r times b≤r.fI:=by
 intro b
 induction b with
 |zero=>intro _; have:=h.jL.time; unfold uO; rw [if_pos rfl]; omega
 |succ b ih=>
  intro hb
  have ht:times[b]? =some (times[b]'I):=eU _
  have B:=ih I
  have C:=h.step b _ ht
  have A:=h.low hl b
  rw [h.least I] at A
  rw [qE ht]
  omega
/-- what comes next, in the truth -/
theorem iU.opt (h:iU l r times good) (hl:dw l=0) {b:Nat} {t g:Int} (ht:times[b]? =some t) (hg:good[b]? =some g): ∃ o∈jl (bP l r) b,o.1=g∧o.2.Lo≤t∧t≤o.2.Hi:=by
 have hb:=(aX.1 ht).1
 have E:=h.le
 have F:=h.step b t ht
 have G:=h.from_ hl b I
 have B:=h.low hl b
 rw [h.least hb] at B
 rcases h.sig b t g ht hg with rfl|⟨k,s,rfl,hs,A,C,D⟩
 ·exact ⟨(-1,⟨r.Start,r.fI⟩),(oK I).2 (.inl U),U,by simp only; omega,by simp only; omega⟩
 ·exact ⟨((k:Int),cJ l s),(oK I).2 (.inr ⟨k,(aX.1 hs).1,s,hs,⟨A,I⟩,U⟩),U,C,D⟩
theorem mT {α:Type} {l:List α} {b:Nat} {x:α} (h:l[b]? =some x):l.take (b+1)=l.take b++[x]:=by rw [List.take_add_one,h]; rfl
theorem iU.live (h:iU l r times good) (hl:dw l=0): ∀ b:Nat,b≤times.length→D5 (bP l r) b (dv (good.take b),uO r times b):=by
 intro b
 induction b with
 |zero=>intro _; exact ⟨r.Start,by simp [fwd,dv]; rfl,by unfold uO; rw [if_pos rfl]; exact Int.le_refl _⟩
 |succ b ih=>
  intro hb
  have B:=h.len
  have ht:times[b]? =some (times[b]'I):=eU _
  have hg:good[b]? =some (good[b]'I):=eU _
  obtain ⟨v,hv,A⟩:=ih I
  obtain ⟨o,ho,e,C,D⟩:=h.opt hl ht hg
  have E:=h.step b _ ht
  have F:=h.least (b:=b) I
  simp only at A hv
  rw [qE ht,mT hg,kN,← e]
  refine ⟨max (v+bW (bP l r) b) o.2.Lo,gH.2 ⟨_,hv,o,ho,ib.2 ⟨?_,U⟩⟩,?_⟩
  ·have G:(bP l r).fI=r.fI:=rfl
   simp only; omega
  ·simp only; omega
theorem iU.Q4 (h:iU l r times good) (hl:dw l=0): ∀ (d b:Nat),b+d=times.length→tW (bP l r) b (dv (good.take b),uO r times b):=by
 intro d
 induction d with
 |zero=>
  intro b hb
  have hn:(bP l r).n=l.ab.length:=cE
  have C:=h.len
  have D:=h.le
  refine ⟨0,I,_,by simp [gN]; rfl,?_⟩
  rw [List.take_of_length_le I]
  unfold lf
  have A:=h.LB
  have B:=h.SN
  exact dM ⟨A,B⟩
 |succ d ih=>
  intro b hb
  have C:=h.len
  have ht:times[b]? =some (times[b]'I):=eU _
  have hg:good[b]? =some (good[b]'I):=eU _
  obtain ⟨o,ho,e,D,A⟩:=h.opt hl ht hg
  have B:=h.step b _ ht
  have E:=h.least (b:=b) I
  have F:(bP l r).fI=r.fI:=rfl
  have hv:=ih (b+1) I
  rw [qE ht,mT hg,kN,← e] at hv
  exact wM (k:=1) (iZ.2 ⟨o,ho,_,ib.2 ⟨by first|omega|(simp only; omega),U⟩,by simp [gN]; rfl⟩) (yg hv (by first|omega|(simp only; omega)))
theorem iU.pass (h:iU l r times good) (hl:dw l=0) {b:Nat} {t g:Int} (ht:times[b]? =some t) (hg:good[b]? =some g):xZ (bP l r) b g t:=by
 have hb:=(aX.1 ht).1
 obtain ⟨v,hv,A⟩:=h.live hl b I
 obtain ⟨o,ho,e,B,C⟩:=h.opt hl ht hg
 have D:=h.step b _ ht
 have E:=h.least (b:=b) hb
 have F:(bP l r).fI=r.fI:=rfl
 have hw:=h.Q4 hl (times.length-(b+1)) (b+1) I
 rw [qE ht,mT hg,kN,← e] at hw
 simp only at A
 exact ⟨_,hv,o,ho,e,⟨by simp only; omega,I⟩,hw⟩
theorem iU.num (h:iU l r times good) (hl:dw l=0):(times.length:Int)∈iy (bP l r):=by
 obtain ⟨v,hv,_⟩:=h.live hl times.length (Nat.le_refl _)
 have hn:(bP l r).n=l.ab.length:=cE
 have B:=h.le
 refine pL.2 ⟨times.length,U,I,?_⟩
 unfold jX
 refine List.any_eq_true.2 ⟨_,hv,?_⟩
 have A:=h.len
 rw [List.take_of_length_le I]
 unfold lf
 exact dM ⟨h.LB,h.SN⟩
theorem iU.e (h:iU l r times good) (hl:dw l=0):dG l r 0=0:=l3 hl h.jL rfl fun e=>by have:=h.num hl; rw [e] at this; cases this
theorem iU.Bc (h:iU l r times good) (hl:dw l=0):(times.length:Int)∈ir l r:=by rw [k7 (h.e hl)]; exact h.num hl
theorem iU.E1 (h:iU l r times good) (hl:dw l=0) {b:Nat} {t:Int} (ht:times[b]? =some t):dj l r b=0∧(cV l r b).Lo≤t∧t≤(cV l r b).Hi:=by
 have hb:=(aX.1 ht).1
 have C:=h.len
 have D:=h.le
 have hg:good[b]? =some (good[b]'I):=eU _
 have hn:(bP l r).n=l.ab.length:=cE
 obtain ⟨q,hq,_,A,B⟩:=(mZ (h.low hl) I).2 (h.pass hl ht hg)
 have hh:=Bd (l:=gp (bP l r) b) (fun q hq=>jx hq) hq
 have ho:dG l r (iA l b)=0:=by rw [sG I]; exact h.e hl
 have e:=jy ho hh.ne
 refine ⟨e.1,?_⟩
 rw [e.2]
 have:=hh.all q hq
 exact ⟨Int.le_trans this.1 A,Int.le_trans B this.2⟩
theorem iU.not_false (h:iU l r times good) (hl:dw l=0) {b:Nat} {g:Int} (hg:good[b]? =some g) (h0:0≤g): ¬ g∈LZ l r∧ ¬ (b:Int)∈uI l r:=by
 have hb:=(aX.1 hg).1
 have A:=h.len
 have B:=h.le
 have ht:times[b]? =some (times[b]'I):=eU _
 have hn:(bP l r).n=l.ab.length:=cE
 obtain ⟨q,hq,e,_⟩:=(mZ (h.low hl) I).2 (h.pass hl ht hg)
 constructor
 ·rw [IQ (h.e hl)]
  intro hm
  exact (Ey.1 hm).2 ⟨b,I,q,hq,e⟩
 ·rw [tH (h.e hl)]
  intro hm
  unfold xS at hm
  obtain ⟨k,hk,ek⟩:=cp.1 hm
  obtain rfl:k=b:=by omega
  have hr:=(List.mem_filter.1 hk).2
  have:vd (bP l r) k=true:=List.any_eq_true.2 ⟨q,hq,dM I⟩
  rw [this] at hr
  cases hr
end
end
section
def hO (hi:Int→Int) (least:Nat→Int) (now:Int):Nat→List Int→List Int×Int
 |_,[]=>([],now)
 |b,x::xs=>((if 0≤x then min (hO hi least now (b+1) xs).2 (hi x) else (hO hi least now (b+1) xs).2)::(hO hi least now (b+1) xs).1,(if 0≤x then min (hO hi least now (b+1) xs).2 (hi x) else (hO hi least now (b+1) xs).2)-least b)
def gT (t:Int):List Int→Int
 |[]=>t
 |x::xs=>gT x xs
def kP (w:bZ):Nat→Int→List Int→List Int→Prop
 |_,_,[],[]=>True
 |b,t,x::rs,y::fs=>(∃ o∈jl w b,o.1=x∧max (t+bW w b) o.2.Lo≤min o.2.Hi w.fI∧y=max (t+bW w b) o.2.Lo)∧kP w (b+1) y rs fs
 |_,_,_,_=>False
section
variable {w:bZ} {hi:Int→Int} {least:Nat→Int} {now:Int}
theorem sv: ∀ (b:Nat) (rs:List Int),(hO hi least now b rs).1.length=rs.length
 |_,[]=>rfl
 |b,x::xs=>by simp only [hO,List.length_cons]; rw [sv]
theorem nY: ∀ (t:Int) (fs:List Int) (y:Int),gT t (fs++[y])=y
 |_,[],_=>rfl
 |t,x::fs,y=>nY x fs y
theorem DX: ∀ (t:Int) (fs:List Int) (y:Int),fs[fs.length-1]? =some y→gT t fs=y
 |t,[],y,h=>by simp at h
 |t,[x],y,h=>by simpa [gT] using h
 |t,x::x2::fs,y,h=>by
  show gT x (x2::fs)=y
  exact DX x (x2::fs) y (by simpa using h)
theorem vo: ∀ (b:Nat) (rs:List Int) (x:Int) (ss:List Int),(hO hi least now b (rs++x::ss)).1[rs.length]? =some (if 0≤x then min (hO hi least now (b+rs.length+1) ss).2 (hi x) else (hO hi least now (b+rs.length+1) ss).2)
 |b,[],x,ss=>by simp [hO]
 |b,z::rs,x,ss=>by
  have:=vo (b+1) rs x ss
  simp only [List.cons_append,hO,List.length_cons,List.getElem?_cons_succ]
  rw [this,show b+1+rs.length+1=b+(rs.length+1)+1 by omega]
theorem kW: ∀ (b:Nat) (t:Int) (rs fs:List Int),kP w b t rs fs→fs.length=rs.length
 |_,_,[],[],_=>rfl
 |b,t,x::rs,y::fs,h=>by simp [kW _ _ rs fs h.2]
 |_,_,[],_::_,h=>h.elim
 |_,_,_::_,[],h=>h.elim
theorem sH: ∀ (b:Nat) (t:Int) (rs fs ss gs:List Int),fs.length=rs.length→(kP w b t (rs++ss) (fs++gs)↔kP w b t rs fs∧kP w (b+rs.length) (gT t fs) ss gs)
 |b,t,[],[],ss,gs,_=>by simp [kP,gT]
 |b,t,x::rs,y::fs,ss,gs,h=>by
  have ih:=sH (b+1) y rs fs ss gs (by simpa using h)
  simp only [List.cons_append,kP,List.length_cons,gT]
  rw [ih,show b+1+rs.length=b+(rs.length+1) by omega,and_assoc]
 |_,_,[],_::_,_,_,h=>by simp at h
 |_,_,_::_,[],_,_,h=>by simp at h
theorem E9 (b:List Int): ∀ t:aK,b.foldl (fun t g=>dK t (fV g)) t=dK t (dv b):=by
 induction b with
 |nil=>intro t; exact (oc t).symm
 |cons x b ih=>
  intro t
  show b.foldl (fun t g=>dK t (fV g)) (dK t (fV x))=dK t (b.foldl (fun t g=>dK t (fV g)) (dK ⟨0,0⟩ (fV x)))
  rw [ih,ih]; simp only [dK,aK.mk.injEq]; omega
theorem sX (a b:List Int):dv (a++b)=dK (dv a) (dv b):=by
 show (a++b).foldl _ _=_
 rw [List.foldl_append,E9]; rfl
theorem sx:dv []=(⟨0,0⟩:aK):=rfl
theorem qJ (l:List Int):dK (⟨0,0⟩:aK) (dv l)=dv l:=by simp [dK]
theorem t_ (x:Int) (l:List Int):dv (x::l)=dK (fV x) (dv l):=by
 rw [show x::l=[x]++l from rfl,sX,show dv [x]=fV x from (kN (l:=[])).trans (by rw [sx]; simp [dK])]
theorem vz: ∀ l:List Int,0≤(dv l).right∧0≤(dv l).fp∧(dv l).right+(dv l).fp=(l.length:Int)
 |[]=>by rw [sx]; simp
 |x::l=>by
  rw [t_]
  have:=wk x
  have:=vz l
  simp only [dK,List.length_cons]
  omega
/-- chains are what the watch goes through -/
theorem kI: ∀ (k b:Nat) (p q:aK×Int),q∈gN w k b p↔ ∃ rs fs,rs.length=k∧kP w b p.2 rs fs∧q=(dK p.1 (dv rs),gT p.2 fs):=by
 intro k
 induction k with
 |zero=>
  intro b p q
  simp only [gN,ck]
  constructor
  ·rintro rfl; exact ⟨[],[],rfl,trivial,by rw [sx,oc]; rfl⟩
  ·rintro ⟨rs,fs,A,B,rfl⟩
   have A:=iD A
   subst A
   have:=iD (kW _ _ _ _ B)
   subst this
   rw [sx,oc]; rfl
 |succ k ih=>
  intro b p q
  rw [iZ]
  constructor
  ·rintro ⟨o,ho,p',e,h⟩
   obtain ⟨A,rfl⟩:=ib.1 e
   obtain ⟨rs,fs,B,C,rfl⟩:=(ih _ _ _).1 h
   refine ⟨o.1::rs,max (p.2+bW w b) o.2.Lo::fs,by simp [B],⟨⟨o,ho,U,A,U⟩,C⟩,?_⟩
   rw [t_]
   simp only [gT,dK,Prod.mk.injEq,aK.mk.injEq,and_true]; omega
  ·rintro ⟨rs,fs,A,B,rfl⟩
   cases rs with
   |nil=>simp at A
   |cons x rs=>
    cases fs with
    |nil=>exact B.elim
    |cons y fs=>
     obtain ⟨⟨o,ho,rfl,C,rfl⟩,D⟩:=B
     refine ⟨o,ho,_,ib.2 ⟨C,U⟩,(ih _ _ _).2 ⟨rs,fs,by simpa using A,D,?_⟩⟩
     rw [t_]
     simp only [gT,dK,Prod.mk.injEq,aK.mk.injEq,and_true]; omega
/-- what the reference's rows of last times know -/
structure Ju (w:bZ) (hi:Int→Int) (least:Nat→Int) (now:Int):Prop where
 low: ∀ b,0≤bW w b
 least: ∀ b,b<w.n→least b=bW w b
 now:now=w.fI
 hi: ∀ b o,b<w.n→o∈jl w b→0≤o.1→o.2.Hi=hi o.1
 none_: ∀ b o,b<w.n→o∈jl w b→ ¬ 0≤o.1→o.2.Hi=w.fI
theorem yn (h:Ju w hi least now): ∀ (b:Nat) (rs:List Int),b+rs.length≤w.n→(hO hi least now b rs).2≤w.fI
 |_,[],_=>by simp only [hO]; exact Int.le_of_eq h.now
 |b,x::xs,hb=>by
  simp only [List.length_cons] at hb
  have B:=yn h (b+1) xs I
  have A:=h.low b
  rw [← h.least b I] at A
  simp only [hO]
  split<;>omega
theorem sM (h:Ju w hi least now): ∀ (b:Nat) (t:Int) (rs fs:List Int),b+rs.length≤w.n→t≤w.fI→kP w b t rs fs→t≤(hO hi least now b rs).2
 |_,t,[],[],_,ht,_=>by simp only [hO]; rw [h.now]; exact ht
 |b,t,x::rs,y::fs,hb,ht,hc=>by
  simp only [List.length_cons] at hb
  obtain ⟨⟨o,ho,rfl,D,rfl⟩,A⟩:=hc
  have B:=sM h (b+1) _ rs fs I I A
  have C:=h.least b I
  simp only [hO]
  split
  ·rename_i q
   have:=h.hi b o I ho q
   omega
  ·omega
 |_,_,[],_::_,_,_,hc=>hc.elim
 |_,_,_::_,[],_,_,hc=>hc.elim
theorem yL (h:Ju w hi least now): ∀ (b:Nat) (t t':Int) (rs fs:List Int),b+rs.length≤w.n→t≤t'→t'≤(hO hi least now b rs).2→kP w b t rs fs→ ∃ gs,kP w b t' rs gs
 |_,t,_,[],[],_,_,_,_=>⟨[],trivial⟩
 |b,t,t',x::rs,y::fs,hb,ht,he,hc=>by
  simp only [List.length_cons] at hb
  obtain ⟨⟨o,ho,rfl,E,rfl⟩,A⟩:=hc
  have C:=sM h (b+1) _ rs fs I I A
  have D:=h.least b I
  have F:=yn h (b+1) rs I
  simp only [hO] at he
  have B:max (t'+bW w b) o.2.Lo≤min o.2.Hi w.fI∧max (t'+bW w b) o.2.Lo≤(hO hi least now (b+1) rs).2:=by
   split at he
   ·rename_i q
    have:=h.hi b o I ho q
    omega
   ·rename_i q
    have:=h.none_ b o I ho q
    omega
  obtain ⟨gs,hg⟩:=yL h (b+1) _ (max (t'+bW w b) o.2.Lo) rs fs I I B.2 A
  exact ⟨_::gs,⟨o,ho,U,B.1,U⟩,hg⟩
 |_,_,_,[],_::_,_,_,_,hc=>hc.elim
 |_,_,_,_::_,[],_,_,_,hc=>hc.elim
theorem Dr (b:Nat) (t t':Int) (rs fs:List Int) (ht:t'≤t) (hc:kP w b t rs fs): ∃ gs,kP w b t' rs gs:=by
 have A:(dK ⟨0,0⟩ (dv rs),gT t fs)∈gN w rs.length b (⟨0,0⟩,t):=(kI _ _ _ _).2 ⟨rs,fs,rfl,hc,rfl⟩
 clear A
 induction rs generalizing b t t' fs with
 |nil=>exact ⟨[],trivial⟩
 |cons x rs ih=>
  cases fs with
  |nil=>exact hc.elim
  |cons y fs=>
   obtain ⟨⟨o,ho,rfl,C,rfl⟩,B⟩:=hc
   obtain ⟨gs,hg⟩:=ih (b+1) _ (max (t'+bW w b) o.2.Lo) fs I B
   exact ⟨_::gs,⟨o,ho,U,I,U⟩,hg⟩
/-- a way, as it is asked for -/
structure P_ (w:bZ) (hi:Int→Int) (least:Nat→Int) (now:Int) (y:dB):Prop where
 chain:kP w 0 w.Start y.g4 y.jv
 len:y.g4.length≤w.n
 last:y.mG=(hO hi least now 0 y.g4).1
 may:lf w (dv y.g4)=true
theorem Cq {k:Nat}:jX w (fwd w k)=true↔ ∃ rs fs,rs.length=k∧kP w 0 w.Start rs fs∧lf w (dv rs)=true:=by
 unfold jX
 rw [List.any_eq_true]
 have e:=fun q=>(s8 (w:=w) k 0 q)
 rw [Nat.zero_add] at e
 constructor
 ·rintro ⟨q,hq,hm⟩
  obtain ⟨p,hp,h⟩:=(e q).1 hq
  simp only [fwd,ck] at hp
  subst hp
  obtain ⟨rs,fs,A,B,rfl⟩:=(kI _ _ _ _).1 h
  refine ⟨rs,fs,A,B,?_⟩
  rwa [qJ] at hm
 ·rintro ⟨rs,fs,A,B,C⟩
  refine ⟨_,(e _).2 ⟨((⟨0,0⟩:aK),w.Start),ck.2 U,(kI _ _ _ _).2 ⟨rs,fs,A,B,U⟩⟩,?_⟩
  simp only [qJ]; exact C
theorem Jg (h:Ju w hi least now) (hs:w.Start≤w.fI) {b:Nat} (hb:b<w.n) {s t:Int}:xZ w b s t↔ ∃ y,P_ w hi least now y∧ ∃ f e,y.g4[b]? =some s∧y.jv[b]? =some f∧y.mG[b]? =some e∧f≤t∧t≤e:=by
 have ef:=fun q=>(s8 (w:=w) b 0 q)
 rw [Nat.zero_add] at ef
 constructor
 ·rintro ⟨p,hp,o,ho,rfl,⟨C,L⟩,k,hk,q,hq,hm⟩
  obtain ⟨Y,AB,hp⟩:=(ef p).1 hp
  simp only [fwd,ck] at AB
  subst AB
  obtain ⟨rs,fs,K,D,rfl⟩:=(kI _ _ _ _).1 hp
  obtain ⟨ss,gs,AA,E,rfl⟩:=(kI _ _ _ _).1 hq
  simp only at C L D E hm
  obtain ⟨gs',J⟩:=Dr (b+1) t (max (gT w.Start fs+bW w b) o.2.Lo) ss gs C E
  have H:=kW _ _ _ _ D
  have T:=kW _ _ _ _ J
  have hc:kP w 0 w.Start (rs++o.1::ss) (fs++max (gT w.Start fs+bW w b) o.2.Lo::gs'):=(sH _ _ _ _ _ _ H).2 ⟨D,by rw [Nat.zero_add,K]; exact ⟨⟨o,ho,rfl,I,rfl⟩,J⟩⟩
  have he:=sM h (b+1) t ss gs I I E
  have A:=vo (hi:=hi) (least:=least) (now:=now) 0 rs o.1 ss
  rw [Nat.zero_add,K] at A
  refine ⟨⟨rs++o.1::ss,fs++max (gT w.Start fs+bW w b) o.2.Lo::gs',(hO hi least now 0 (rs++o.1::ss)).1⟩,⟨hc,by simp; omega,U,?_⟩,max (gT w.Start fs+bW w b) o.2.Lo,_,?_,?_,A,C,?_⟩
  ·show lf w (dv (rs++o.1::ss))=true
   rw [show rs++o.1::ss=(rs++[o.1])++ss by simp,sX,kN]
   rwa [qJ] at hm
  ·show (rs++o.1::ss)[b]? =some o.1
   rw [List.getElem?_append_right I,K,Nat.sub_self]; rfl
  ·show (fs++_::gs')[b]? =_
   rw [List.getElem?_append_right I,H,K,Nat.sub_self]; rfl
  ·split
   ·rename_i q
    have:=h.hi b o hb ho q
    omega
   ·exact he
 ·rintro ⟨y,hy,f,e,C,L,P,Q,V⟩
  obtain ⟨R,F,La⟩:=y
  obtain ⟨hc,hn,A,hm⟩:=hy
  simp only at C L P hc hn A hm
  have N:=(aX.1 C).1
  have S:=kW _ _ _ _ hc
  have eR:R=R.take b++s::R.drop (b+1):=by rw [← (aX.1 C).2]; exact (List.take_append_drop b R).symm.trans (by rw [List.drop_eq_getElem_cons N])
  have M:b<F.length:=by omega
  have eF:F=F.take b++f::F.drop (b+1):=by rw [← (aX.1 L).2]; exact (List.take_append_drop b F).symm.trans (by rw [List.drop_eq_getElem_cons M])
  rw [eR,eF,sH _ _ _ _ _ _ (by simp only [List.length_take]; omega)] at hc
  have O:(R.take b).length=b:=by rw [List.length_take]; omega
  rw [O,Nat.zero_add] at hc
  obtain ⟨D,⟨o,ho,rfl,W,rfl⟩,E⟩:=hc
  have B:=vo (hi:=hi) (least:=least) (now:=now) 0 (R.take b) o.1 (R.drop (b+1))
  rw [← eR,O,Nat.zero_add,← A,P] at B
  have B:=Option.some.inj B
  have G:t≤(hO hi least now (b+1) (R.drop (b+1))).2∧t≤min o.2.Hi w.fI:=by
   have X:=yn h (b+1) (R.drop (b+1)) (by rw [List.length_drop]; omega)
   split at B
   ·rename_i q
    have:=h.hi b o hb ho q
    omega
   ·rename_i q
    have:=h.none_ b o hb ho q
    omega
  obtain ⟨gs,J⟩:=yL h (b+1) _ t (R.drop (b+1)) (F.drop (b+1)) (by rw [List.length_drop]; omega) Q G.1 E
  refine ⟨(dK ⟨0,0⟩ (dv (R.take b)),gT w.Start (F.take b)),(ef _).2 ⟨((⟨0,0⟩:aK),w.Start),ck.2 U,(kI _ _ _ _).2 ⟨_,_,O,D,U⟩⟩,o,ho,U,⟨Q,G.2⟩,(R.drop (b+1)).length,by rw [List.length_drop]; omega,_,(kI _ _ _ _).2 ⟨_,gs,U,J,U⟩,?_⟩
  show lf w (dK (dK (dK ⟨0,0⟩ (dv (R.take b))) (fV o.1)) (dv (R.drop (b+1))))=true
  rw [qJ,← kN,← sX,show R.take b++[o.1]++R.drop (b+1)=R from by rw [List.append_assoc]; exact eR.symm]
  exact hm
end
noncomputable def Ng (l:bg) (r:cr) (x:Int):Int:=match r.aa[x.toNat]? with
 |some s=>(cJ l s).Hi
 |none=>0
theorem E3 {l:bg} {r:cr} {x:Int} {s:aH} (h:r.aa[x.toNat]? =some s):Ng l r x=(cJ l s).Hi:=by unfold Ng; rw [h]
noncomputable def j1 (l:bg) (r:cr) (rs:List Int):List Int:=(hO (Ng l r) (eu l) r.fI 0 rs).1
noncomputable def pP (l:bg) (r:cr) (n:Nat) (t i:Int):Option Int:=
 if i<0 then (if t≤r.fI then some t else none) else match r.aa[i.toNat]? with
  |some s=>if (s.eZ=(n:Int)∧(cJ l s).Lo≤(cJ l s).Hi)∧max t (cJ l s).Lo≤min r.fI (cJ l s).Hi then some (max t (cJ l s).Lo) else none
  |none=>none
noncomputable def iw (l:bg) (r:cr) (rs fs:List Int):List dB:=if (r.aa.length:Int)-(dv rs).right≤l.fT then [⟨rs,fs,j1 l r rs⟩] else []
noncomputable def iY (l:bg) (r:cr):Nat→List Int→List Int→List dB
 |0,rs,fs=>if l.dE<(dv rs).fp then [] else iw l r rs fs
 |k+1,rs,fs=>if l.dE<(dv rs).fp then [] else iw l r rs fs++(List.range (r.aa.length+1)).flatMap fun (j:Nat)=>match pP l r rs.length (gT r.Start fs+eu l rs.length) ((j:Int)-1) with
  |some t=>iY l r k (rs++[(j:Int)-1]) (fs++[t])
  |none=>[]
noncomputable def E0 (l:bg) (r:cr) (k:Nat) (rs fs:List Int) (j:Nat):List dB:=iw l r rs fs++(List.range j).flatMap fun (j:Nat)=>match pP l r rs.length (gT r.Start fs+eu l rs.length) ((j:Int)-1) with
 |some t=>iY l r k (rs++[(j:Int)-1]) (fs++[t])
 |none=>[]
noncomputable def jh (l:bg) (r:cr) (k:Nat) (rs fs:List Int) (j:Nat):List dB:=(List.range j).flatMap fun (j:Nat)=>match pP l r rs.length (gT r.Start fs+eu l rs.length) ((j:Int)-1) with
 |some t=>iY l r k (rs++[(j:Int)-1]) (fs++[t])
 |none=>[]
section
variable {l:bg} {r:cr} {k j:Nat} {rs fs:List Int} {t:Int}
theorem sO:E0 l r k rs fs j=iw l r rs fs++jh l r k rs fs j:=rfl
theorem od (h:pP l r rs.length (gT r.Start fs+eu l rs.length) ((j:Int)-1)=some t):jh l r k rs fs (j+1)=jh l r k rs fs j++iY l r k (rs++[(j:Int)-1]) (fs++[t]):=by
 unfold jh; rw [List.range_succ,List.flatMap_append]; simp [h]
theorem rG (h:pP l r rs.length (gT r.Start fs+eu l rs.length) ((j:Int)-1)=none):jh l r k rs fs (j+1)=jh l r k rs fs j:=by
 unfold jh; rw [List.range_succ,List.flatMap_append]; simp [h]
theorem oG (h:l.dE<(dv rs).fp):iY l r k rs fs=[]:=by cases k<;>exact if_pos h
theorem oj (h: ¬ l.dE<(dv rs).fp):iY l r 0 rs fs=iw l r rs fs:=if_neg h
theorem oS (h: ¬ l.dE<(dv rs).fp):iY l r (k+1) rs fs=E0 l r k rs fs (r.aa.length+1):=if_neg h
theorem Ca {n:Nat} (hn:n<l.ab.length) (hl:0≤eu l n) (ht:r.Start≤t) {i y:Int} (hi: -1≤i):pP l r n (t+eu l n) i=some y↔ ∃ o∈jl (bP l r) n,o.1=i∧max (t+bW (bP l r) n) o.2.Lo≤min o.2.Hi (bP l r).fI∧y=max (t+bW (bP l r) n) o.2.Lo:=by
 rw [qO hn]
 have hw:(bP l r).fI=r.fI:=rfl
 unfold pP
 constructor
 ·intro h
  split at h
  ·rename_i B
   split at h
   ·cases h
    exact ⟨(-1,⟨r.Start,r.fI⟩),(oK hn).2 (.inl U),by simp only; omega,by simp only; omega,by simp only; omega⟩
   ·cases h
  ·rename_i B
   split at h
   ·rename_i s hs
    split at h
    ·rename_i q
     cases h
     exact ⟨((i.toNat:Nat),cJ l s),(oK hn).2 (.inr ⟨i.toNat,(aX.1 hs).1,s,hs,q.1,U⟩),by simp only; omega,by simp only; omega,U⟩
    ·cases h
   ·cases h
 ·rintro ⟨o,ho,rfl,A,rfl⟩
  rcases (oK hn).1 ho with rfl|⟨k,hk,s,hs,q,rfl⟩
  ·simp only at A ⊢
   rw [if_pos I,if_pos I]
   congr 1; omega
  ·simp only at A ⊢
   rw [if_neg I,Int.toNat_natCast,hs]
   simp only
   rw [if_pos ⟨q,I⟩]
theorem Kt (hl: ∀ n,n<l.ab.length→0≤eu l n): ∀ (k:Nat) (rs fs:List Int) (y:dB),rs.length+k=l.ab.length→fs.length=rs.length→r.Start≤gT r.Start fs→
 (y∈iY l r k rs fs↔ ∃ ss gs,kP (bP l r) rs.length (gT r.Start fs) ss gs∧ss.length≤k∧y=⟨rs++ss,fs++gs,j1 l r (rs++ss)⟩∧lf (bP l r) (dv (rs++ss))=true):=by
 have D: ∀ (rs fs:List Int) (y:dB),¬ l.dE<(dv rs).fp→(y∈iw l r rs fs↔y=⟨rs++[],fs++[],j1 l r (rs++[])⟩∧lf (bP l r) (dv (rs++[]))=true):=by
  intro rs fs y hm
  unfold iw
  rw [List.append_nil,List.append_nil]
  have e:lf (bP l r) (dv rs)=true↔(r.aa.length:Int)-(dv rs).right≤l.fT:=by
   unfold lf
   rw [decide_eq_true_eq]
   exact ⟨fun q=>q.2,fun q=>⟨by have:(bP l r).dE=l.dE:=rfl; omega,q⟩⟩
  split
  ·rename_i q
   rw [ck]
   exact ⟨fun h=>⟨h,e.2 q⟩,fun h=>h.1⟩
  ·rename_i q
   exact ⟨fun h=>(by cases h),fun h=>absurd (e.1 h.2) q⟩
 have LB: ∀ (rs ss:List Int),l.dE<(dv rs).fp→ ¬ lf (bP l r) (dv (rs++ss))=true:=by
  intro rs ss h q
  unfold lf at q
  have:=(of_decide_eq_true q).1
  rw [sX] at this
  have C:=vz ss
  simp only [dK] at this
  have:(bP l r).dE=l.dE:=rfl
  omega
 intro k
 induction k with
 |zero=>
  intro rs fs y hn hf hs
  by_cases hm:l.dE<(dv rs).fp
  ·rw [oG hm]
   exact ⟨fun h=>(by cases h),fun ⟨ss,gs,_,_,_,q⟩=>absurd q (LB rs ss hm)⟩
  ·rw [oj hm,D _ _ _ hm]
   constructor
   ·rintro ⟨B,C⟩; exact ⟨[],[],trivial,sm,B,C⟩
   ·rintro ⟨ss,gs,B,C,E,F⟩
    have e:=iD (Nat.le_zero.1 C)
    subst e
    have e:=iD (kW _ _ _ _ B)
    subst e
    exact ⟨E,F⟩
 |succ k ih=>
  intro rs fs y hn hf hs
  by_cases hm:l.dE<(dv rs).fp
  ·rw [oG hm]
   exact ⟨fun h=>(by cases h),fun ⟨ss,gs,_,_,_,q⟩=>absurd q (LB rs ss hm)⟩
  ·rw [oS hm]
   unfold E0
   rw [g9,D _ _ _ hm,List.mem_flatMap]
   have A: ∀ (x y:Int),(rs++[x]).length+k=l.ab.length∧(fs++[y]).length=(rs++[x]).length:=fun x y=>by simp; omega
   constructor
   ·rintro (⟨B,C⟩|⟨j,hj,h⟩)
    ·exact ⟨[],[],trivial,sm,B,C⟩
    ·cases e:pP l r rs.length (gT r.Start fs+eu l rs.length) ((j:Int)-1) with
     |none=>rw [e] at h; cases h
     |some t=>
      rw [e] at h
      simp only at h
      obtain ⟨o,ho,B,C,E⟩:=(Ca I (hl _ I) hs I).1 e
      have G:r.Start≤t:=by
       have:=hl rs.length I
       rw [qO I] at E
       omega
      obtain ⟨ss,gs,F,J,H,AA⟩:=(ih _ _ y (A _ t).1 (A _ t).2 (by rw [nY]; exact G)).1 h
      rw [nY,List.length_append] at F
      refine ⟨((j:Int)-1)::ss,t::gs,⟨⟨o,ho,B,C,E⟩,F⟩,by simp; omega,by simpa using H,by simpa using AA⟩
   ·rintro ⟨ss,gs,B,C,E,F⟩
    cases ss with
    |nil=>
     have e:=iD (kW _ _ _ _ B)
     subst e
     exact .inl ⟨E,F⟩
    |cons x ss=>
     cases gs with
     |nil=>exact B.elim
     |cons t gs=>
      obtain ⟨⟨o,ho,rfl,J,H⟩,AA⟩:=B
      right
      have hx: -1≤o.1∧o.1<(r.aa.length:Int):=by
       rcases (oK I).1 ho with rfl|⟨k,hk,s,hs,q,rfl⟩
       ·simp only; omega
       ·simp only; omega
      have G:r.Start≤t:=by
       have:=hl rs.length I
       rw [qO I] at H
       omega
      have K:((o.1+1).toNat:Int)-1=o.1:=by omega
      refine ⟨(o.1+1).toNat,List.mem_range.2 I,?_⟩
      rw [K,(Ca I (hl _ I) hs I).2 ⟨o,ho,rfl,J,H⟩]
      simp only
      refine (ih _ _ y (A _ t).1 (A _ t).2 (by rw [nY]; exact G)).2 ⟨ss,gs,?_,?_,?_,?_⟩
      ·rw [nY,List.length_append]; exact AA
      ·simp only [List.length_cons] at C; omega
      ·simpa using E
      ·simpa using F
end
theorem zY {l:bg} {r:cr} {rs fs:List Int} (h:(r.aa.length:Int)-(dv rs).right≤l.fT):iw l r rs fs=[⟨rs,fs,j1 l r rs⟩]:=if_pos h
theorem yG {l:bg} {r:cr} {rs fs:List Int} (h: ¬ (r.aa.length:Int)-(dv rs).right≤l.fT):iw l r rs fs=[]:=if_neg h
noncomputable def fj (l:bg) (r:cr) (i:Nat):List ag:=(r.aa.take i).map (cJ l)
noncomputable def fP (l:bg) (r:cr) (i:Nat):List Bool:=(r.aa.take i).map fun s=>decide ((cJ l s).Lo≤(cJ l s).Hi)
section
variable {l:bg} {r:cr} {i n:Nat} {s:aH} {rs:List Int}
theorem E6 (h:r.aa[i]? =some s):fj l r (i+1)=fj l r i++[cJ l s]:=by unfold fj; rw [List.take_add_one,h,List.map_append]; rfl
theorem FE (h:r.aa[i]? =some s):fP l r (i+1)=fP l r i++[decide ((cJ l s).Lo≤(cJ l s).Hi)]:=by unfold fP; rw [List.take_add_one,h,List.map_append]; rfl
theorem sw (h:i≤r.aa.length):(fj l r i).length=i:=by unfold fj; rw [List.length_map,List.length_take]; omega
theorem wE (h:i≤r.aa.length):(fP l r i).length=i:=by unfold fP; rw [List.length_map,List.length_take]; omega
theorem Mi {k:Nat} {z:ag} (hs:r.aa[k]? =some s) (hz:(fj l r r.aa.length)[k]? =some z):z=cJ l s:=by
 unfold fj at hz
 rw [List.take_length,dL,hs] at hz
 exact (Option.some.inj hz).symm
theorem Kq {k:Nat} {z:ag} (hz:(fj l r r.aa.length)[k]? =some z): ∃ s,r.aa[k]? =some s∧z=cJ l s:=by
 unfold fj at hz
 rw [List.take_length,dL] at hz
 cases h:r.aa[k]? with
 |none=>rw [h] at hz; cases hz
 |some s=>rw [h] at hz; exact ⟨s,rfl,(Option.some.inj hz).symm⟩
theorem Dv {k:Nat} {z:Bool} (hs:r.aa[k]? =some s) (hz:(fP l r r.aa.length)[k]? =some z):z=true↔(cJ l s).Lo≤(cJ l s).Hi:=by
 unfold fP at hz
 rw [List.take_length,dL,hs] at hz
 rw [← Option.some.inj hz]
 exact decide_eq_true_iff
theorem yZ (l:bg) (s:aH):(0≤(cJ l s).Lo∧(cJ l s).Lo≤86400001)∧ -1≤(cJ l s).Hi∧(cJ l s).Hi≤86400000:=by
 have A:=jd (p:=gv (my l s) s.Read) (n:=86400001)
 have B:=jd (p:=gu (my l s) s.Read) (n:=86400001)
 unfold cJ mD
 simp only
 omega
/-- the last times from a beam on -/
noncomputable def kf (l:bg) (r:cr) (rs:List Int) (j:Nat):List Int×Int:=hO (Ng l r) (eu l) r.fI j (rs.drop j)
noncomputable def ks (l:bg) (r:cr) (rs:List Int) (j:Nat):List Int:=List.replicate j 0++(kf l r rs j).1
noncomputable def vh (l:bg) (r:cr) (rs:List Int) (j:Nat) (x:Int):Int:=if 0≤x then min (kf l r rs j).2 (Ng l r x) else (kf l r rs j).2
theorem wa:kf l r rs rs.length=([],r.fI):=by unfold kf; rw [List.drop_length]; rfl
theorem IB:ks l r rs rs.length=List.replicate rs.length 0:=by unfold ks; rw [wa]; simp
theorem Et:ks l r rs 0=j1 l r rs:=by unfold ks kf j1; simp
theorem qu {j:Nat} {x:Int} (hj:0<j) (hx:rs[j-1]? =some x):kf l r rs (j-1)=(vh l r rs j x::(kf l r rs j).1,vh l r rs j x-eu l (j-1)):=by
 unfold kf vh
 have hb:=(aX.1 hx).1
 rw [List.drop_eq_getElem_cons hb,(aX.1 hx).2,show j-1+1=j by omega]
 simp only [hO]
 rw [show j-1+1=j by omega]
 rfl
theorem Ir {j:Nat} (h:j≤rs.length):(ks l r rs j).length=rs.length:=by unfold ks kf; rw [List.length_append,List.length_replicate,sv,List.length_drop]; omega
theorem Aa {j:Nat} {x:Int} (hj:0<j) (hx:rs[j-1]? =some x):(ks l r rs j).set (j-1) (vh l r rs j x)=ks l r rs (j-1):=by
 unfold ks
 rw [qu hj hx]
 simp only
 obtain ⟨k,rfl⟩: ∃ k,j=k+1:=⟨j-1,I⟩
 rw [Nat.add_sub_cancel,List.replicate_succ',List.append_assoc,List.set_append_right _ _ sm,List.length_replicate,Nat.sub_self]
 rfl
theorem F2 (hr:0≤r.fI∧r.fI≤86400000) (hl: ∀ b,b<rs.length→0≤eu l b∧eu l b≤500000000) (hrs: ∀ x∈rs,0≤x→x<(r.aa.length:Int)): ∀ (d j:Nat),j+d=rs.length→(-1-500000000*(d:Int))≤(kf l r rs j).2∧(kf l r rs j).2≤86400000
 |0,j,h=>by
  obtain rfl:j=rs.length:=by omega
  rw [wa]; simp only; omega
 |d+1,j,h=>by
  have ih:=F2 hr hl hrs d (j+1) I
  have hx:rs[j+1-1]? =some (rs[j]'I):=by rw [Nat.add_sub_cancel]; exact eU _
  have e:=qu (l:=l) (r:=r) (j:=j+1) I hx
  rw [Nat.add_sub_cancel] at e
  rw [e]
  simp only
  have A:=hl j I
  unfold vh
  split
  ·rename_i q
   have B:=hrs _ (List.getElem_mem (by omega:j<rs.length)) q
   obtain ⟨s,hs⟩: ∃ s,r.aa[(rs[j]'I).toNat]? =some s:=⟨r.aa[(rs[j]'I).toNat]'I,eU _⟩
   rw [E3 hs]
   have C:=yZ l s
   omega
  ·omega
theorem Ll {t i:Int} (hi:i<0):(t≤r.fI→pP l r n t i=some t)∧(¬ t≤r.fI→pP l r n t i=none):=by
 unfold pP; rw [if_pos hi]; exact ⟨fun h=>if_pos h,fun h=>if_neg h⟩
theorem MI {t i:Int} (hi: ¬ i<0) (hs:r.aa[i.toNat]? =some s) (hb:s.eZ=(n:Int)) (hw:(cJ l s).Lo≤(cJ l s).Hi):(max t (cJ l s).Lo≤min r.fI (cJ l s).Hi→pP l r n t i=some (max t (cJ l s).Lo))∧(¬ max t (cJ l s).Lo≤min r.fI (cJ l s).Hi→pP l r n t i=none):=by
 unfold pP; rw [if_neg hi,hs]
 exact ⟨fun h=>if_pos ⟨⟨hb,hw⟩,h⟩,fun h=>if_neg fun q=>h q.2⟩
theorem xX {t i:Int} (hi: ¬ i<0) (hs:r.aa[i.toNat]? =some s) (hb: ¬ (s.eZ=(n:Int)∧(cJ l s).Lo≤(cJ l s).Hi)):pP l r n t i=none:=by
 unfold pP; rw [if_neg hi,hs]
 exact if_neg fun q=>hb q.1
theorem u_ {x:Int} (hx:rs[i]? =some x):(dv (rs.take (i+1))).right=(dv (rs.take i)).right+(if 0≤x then 1 else 0):=by
 rw [mT hx,kN]
 unfold fV
 simp only [dK]
 by_cases h:x<0
 ·rw [if_pos h,if_neg I]
 ·rw [if_neg h,if_pos I]
end
theorem yv {l:bg} {r:cr} {rs fs:List Int}:(iw l r rs fs).length≤1:=by unfold iw; split<;>simp
theorem yB {l:bg} {r:cr} (hr:r.aa.length≤10): ∀ (k:Nat) (rs fs:List Int),(iY l r k rs fs).length≤12^(k+1)
 |0,rs,fs=>by
  unfold iY
  split
  ·simp
  ·have:=yv (l:=l) (r:=r) (rs:=rs) (fs:=fs); omega
 |k+1,rs,fs=>by
  unfold iY
  split
  ·simp
  ·rw [List.length_append]
   have B:=yv (l:=l) (r:=r) (rs:=rs) (fs:=fs)
   have A: ∀ j,(jh l r k rs fs j).length≤j*12^(k+1):=by
    intro j
    induction j with
    |zero=>simp [jh]
    |succ j ih=>
     cases e:pP l r rs.length (gT r.Start fs+eu l rs.length) ((j:Int)-1) with
     |none=>rw [rG e,Nat.succ_mul]; exact Nat.le_trans ih (Nat.le_add_right _ _)
     |some t=>rw [od e,List.length_append,Nat.succ_mul]; exact Nat.add_le_add ih (yB hr k (rs++[(j:Int)-1]) (fs++[t]))
   have C:=A (r.aa.length+1)
   have D:(r.aa.length+1)*12^(k+1)≤11*12^(k+1):=Nat.mul_le_mul_right _ I
   have E:0<12^(k+1):=Nat.pow_pos dc
   have F:12^(k+1+1)=12*12^(k+1):=by rw [Nat.pow_succ,Nat.mul_comm]
   show (iw l r rs fs).length+(jh l r k rs fs (r.aa.length+1)).length≤_
   omega
theorem M4 {l:bg} {r:cr} (hr:r.aa.length≤10) {k j:Nat} {rs fs:List Int} (hk:k≤5) (hj:j≤11):(jh l r k rs fs j).length≤40000000:=by
 have A: ∀ j,(jh l r k rs fs j).length≤j*12^(k+1):=by
  intro j
  induction j with
  |zero=>simp [jh]
  |succ j ih=>
   cases e:pP l r rs.length (gT r.Start fs+eu l rs.length) ((j:Int)-1) with
   |none=>rw [rG e,Nat.succ_mul]; exact Nat.le_trans ih (Nat.le_add_right _ _)
   |some t=>rw [od e,List.length_append,Nat.succ_mul]; exact Nat.add_le_add ih (yB hr k (rs++[(j:Int)-1]) (fs++[t]))
 have C:=A j
 have B:12^(k+1)≤12^6:=Nat.pow_le_pow_right dc I
 have D:j*12^(k+1)≤11*12^6:=Nat.mul_le_mul hj B
 omega
theorem we {l:bg} {r:cr} (hr:r.aa.length≤10) {k:Nat} {rs fs:List Int} (hk:k≤6):(iY l r k rs fs).length≤40000000:=by
 have A:=yB hr k rs fs (l:=l)
 have B:12^(k+1)≤12^7:=Nat.pow_le_pow_right dc I
 omega
noncomputable def q8 (l:bg) (r:cr):List dB:=iY l r l.ab.length [] []
section
variable {l:bg} {r:cr}
theorem m0:(bP l r).n=l.ab.length:=cE
theorem Px (hle:dw l=0) (hr:dW l r):Ju (bP l r) (Ng l r) (eu l) r.fI:=by
 obtain ⟨ht,B⟩:=dq hle
 refine ⟨fun b=>((kO ht B hr).bW b).1,fun b hb=>(qO (by rw [m0] at hb; exact hb)).symm,U,fun b o hb ho A=>?_,fun b o hb ho A=>?_⟩
 ·rw [m0] at hb
  rcases (oK hb).1 ho with rfl|⟨k,hk,s,hs,q,rfl⟩
  ·simp only at A; omega
  ·exact (E3 (by simpa using hs)).symm
 ·rw [m0] at hb
  rcases (oK hb).1 ho with rfl|⟨k,hk,s,hs,q,rfl⟩
  ·rfl
  ·simp only at A; omega
theorem qI (hle:dw l=0) (hr:dW l r) {y:dB}:y∈q8 l r↔P_ (bP l r) (Ng l r) (eu l) r.fI y:=by
 obtain ⟨ht,D⟩:=dq hle
 have hl: ∀ n,n<l.ab.length→0≤eu l n:=fun n hn=>by have:=n9 ht D (i:=n) hn; omega
 unfold q8
 rw [Kt hl _ _ _ _ sm rfl (Int.le_refl _)]
 constructor
 ·rintro ⟨ss,gs,B,A,rfl,C⟩
  exact ⟨B,by rw [m0]; exact A,U,C⟩
 ·rintro ⟨B,A,E,C⟩
  rw [m0] at A
  exact ⟨y.g4,y.jv,B,A,by rw [List.nil_append,List.nil_append]; unfold j1; rw [← E],C⟩
theorem Me (hle:dw l=0) (hr:dW l r) {k:Nat} (hk:k≤l.ab.length):((q8 l r).any fun y=>decide (y.g4.length=k))=jX (bP l r) (fwd (bP l r) k):=by
 rw [Bool.eq_iff_iff,Cq,List.any_eq_true]
 constructor
 ·rintro ⟨y,hy,e⟩
  have h:=(qI hle hr).1 hy
  exact ⟨y.g4,y.jv,of_decide_eq_true e,h.chain,h.may⟩
 ·rintro ⟨rs,fs,e,A,B⟩
  exact ⟨⟨rs,fs,(hO (Ng l r) (eu l) r.fI 0 rs).1⟩,(qI hle hr).2 ⟨A,by rw [m0]; simp only; omega,U,B⟩,dM e⟩
theorem fF (hle:dw l=0) (hr:dW l r):q8 l r=[]↔iy (bP l r)=[]:=by
 constructor
 ·intro h
  apply List.eq_nil_iff_forall_not_mem.2
  intro x hx
  obtain ⟨k,rfl,hk,hm⟩:=pL.1 hx
  rw [m0] at hk
  rw [← Me hle hr hk,h] at hm
  cases hm
 ·intro h
  apply List.eq_nil_iff_forall_not_mem.2
  intro y hy
  have hw:=(qI hle hr).1 hy
  have:(y.g4.length:Int)∈iy (bP l r):=pL.2 ⟨y.g4.length,rfl,hw.len,Cq.2 ⟨_,_,rfl,hw.chain,hw.may⟩⟩
  rw [h] at this; cases this
/-- the times at a beam, by all ways -/
def jH (b:Nat) (ws:List dB):List (Int×ag):=ws.filterMap fun y=>match y.g4[b]?,y.jv[b]?,y.mG[b]? with
 |some s,some f,some e=>some (s,⟨f,e⟩)
 |_,_,_=>none
theorem ov {b:Nat} {ws:List dB} {q:Int×ag}:q∈jH b ws↔ ∃ y∈ws,y.g4[b]? =some q.1∧y.jv[b]? =some q.2.Lo∧y.mG[b]? =some q.2.Hi:=by
 unfold jH
 rw [List.mem_filterMap]
 constructor
 ·rintro ⟨y,hy,h⟩
  cases e1:y.g4[b]? with
  |none=>rw [e1] at h; cases h
  |some s=>
   cases e2:y.jv[b]? with
   |none=>rw [e1,e2] at h; cases h
   |some f=>
    cases e3:y.mG[b]? with
    |none=>rw [e1,e2,e3] at h; cases h
    |some e=>
     rw [e1,e2,e3] at h; cases h
     exact ⟨y,hy,e1,e2,e3⟩
 ·rintro ⟨y,hy,A,B,C⟩
  exact ⟨y,hy,by rw [A,B,C]⟩
theorem x3 {b:Nat} {ws:List dB} {y:dB} (h:y.g4.length≤b):jH b (ws++[y])=jH b ws:=by
 unfold jH; rw [List.filterMap_append]; simp [List.getElem?_eq_none h]
theorem qV {b:Nat} {ws:List dB} {y:dB} {s f e:Int} (h1:y.g4[b]? =some s) (h2:y.jv[b]? =some f) (h3:y.mG[b]? =some e):jH b (ws++[y])=jH b ws++[(s,⟨f,e⟩)]:=by
 unfold jH; rw [List.filterMap_append]; simp [h1,h2,h3]
theorem Jz (hle:dw l=0) (hr:dW l r) {y:dB} (hy:y∈q8 l r):y.jv.length=y.g4.length∧y.mG.length=y.g4.length∧y.g4.length≤l.ab.length:=by
 have h:=(qI hle hr).1 hy
 exact ⟨kW _ _ _ _ h.chain,by rw [h.last,sv],by have:=h.len; rwa [m0] at this⟩
theorem vk (hle:dw l=0) (hr:dW l r) {b:Nat} (hb:b<l.ab.length) {s t:Int}:(∃ q∈gp (bP l r) b,q.1=s∧q.2.Lo≤t∧t≤q.2.Hi)↔ ∃ q∈jH b (q8 l r),q.1=s∧q.2.Lo≤t∧t≤q.2.Hi:=by
 have hh:=Px hle hr
 rw [mZ hh.low (by rw [m0]; exact hb),Jg hh hr.time.2.1 (by rw [m0]; exact hb)]
 constructor
 ·rintro ⟨y,hy,f,e,A,B,C,D,E⟩
  exact ⟨(s,⟨f,e⟩),ov.2 ⟨y,(qI hle hr).2 hy,A,B,C⟩,U,D,E⟩
 ·rintro ⟨q,hq,rfl,D,E⟩
  obtain ⟨y,hy,A,B,C⟩:=ov.1 hq
  exact ⟨y,(qI hle hr).1 hy,_,_,A,B,C,D,E⟩
/-- a way's span is none that is empty -/
theorem yF (hle:dw l=0) (hr:dW l r) {b:Nat} {q:Int×ag} (hq:q∈jH b (q8 l r)):q.2.Lo≤q.2.Hi:=by
 have hh:=Px hle hr
 obtain ⟨y,hy,C,D,H⟩:=ov.1 hq
 obtain ⟨hc,hn,B,hm⟩:=(qI hle hr).1 hy
 obtain ⟨R,F,La⟩:=y
 simp only at C D H hc hn B
 have G:=(aX.1 C).1
 have E:=(aX.1 D).1
 have L:=kW _ _ _ _ hc
 have eR:R=R.take b++q.1::R.drop (b+1):=by rw [← (aX.1 C).2]; exact (List.take_append_drop b R).symm.trans (by rw [List.drop_eq_getElem_cons G])
 have eF:F=F.take b++q.2.Lo::F.drop (b+1):=by rw [← (aX.1 D).2]; exact (List.take_append_drop b F).symm.trans (by rw [List.drop_eq_getElem_cons E])
 rw [eR,eF,sH _ _ _ _ _ _ (by simp only [List.length_take]; omega)] at hc
 have AA:(R.take b).length=b:=by rw [List.length_take]; omega
 rw [AA,Nat.zero_add] at hc
 obtain ⟨M,⟨o,ho,K,N,O⟩,J⟩:=hc
 have A:=vo (hi:=Ng l r) (least:=eu l) (now:=r.fI) 0 (R.take b) q.1 (R.drop (b+1))
 rw [← eR,AA,Nat.zero_add,← B,H] at A
 have A:=Option.some.inj A
 have he:=sM hh (b+1) q.2.Lo (R.drop (b+1)) (F.drop (b+1)) (by rw [List.length_drop]; omega) I J
 rw [← K] at A
 split at A
 ·rename_i z
  have:=hh.hi b o I ho z
  omega
 ·omega
theorem DM {a b:List (Int×ag)} {h k:ag} (ha:lj a h) (hb:lj b k) (hab: ∀ x∈b,(∃ y∈a,y.2.Lo≤x.2.Lo)∧ ∃ y∈a,x.2.Hi≤y.2.Hi) (hba: ∀ x∈a,(∃ y∈b,y.2.Lo≤x.2.Lo)∧ ∃ y∈b,x.2.Hi≤y.2.Hi):h=k:=by
 rcases ha with ⟨rfl,rfl⟩|ha
 ·rcases hb with ⟨rfl,rfl⟩|hb
  ·rfl
  ·obtain ⟨x,hx,_⟩:=hb.lo
   obtain ⟨⟨y,hy,_⟩,_⟩:=hab x hx
   cases hy
 ·rcases hb with ⟨rfl,rfl⟩|hb
  ·obtain ⟨x,hx,_⟩:=ha.lo
   obtain ⟨⟨y,hy,_⟩,_⟩:=hba x hx
   cases hy
  ·obtain ⟨M,E,AA⟩:=ha.lo
   obtain ⟨N,F,V⟩:=ha.hi
   obtain ⟨O,G,W⟩:=hb.lo
   obtain ⟨P,H,X⟩:=hb.hi
   obtain ⟨⟨AB,A,Y⟩,_⟩:=hba M E
   obtain ⟨_,J,B,Z⟩:=hba N F
   obtain ⟨⟨K,C,c⟩,_⟩:=hab O G
   obtain ⟨_,L,D,d⟩:=hab P H
   have Q:=hb.all AB A
   have R:=hb.all J B
   have S:=ha.all K C
   have T:=ha.all L D
   apply ag.ext
   ·omega
   ·omega
theorem Jq (hle:dw l=0) (hr:dW l r) {b:Nat} (hb:b<l.ab.length) {h:ag} (hh:lj (jH b (q8 l r)) h):h=lv l r b:=by
 have hk:=rY (l:=gp (bP l r) b) (fun q hq=>jx hq)
 refine DM hh hk (fun x hx=>?_) (fun x hx=>?_)
 ·have hle':=jx hx
  obtain ⟨y,hy,_,A,C⟩:=(vk hle hr hb (s:=x.1) (t:=x.2.Lo)).1 ⟨x,hx,rfl,Int.le_refl _,hle'⟩
  obtain ⟨z,hz,_,D,B⟩:=(vk hle hr hb (s:=x.1) (t:=x.2.Hi)).1 ⟨x,hx,rfl,hle',Int.le_refl _⟩
  exact ⟨⟨y,hy,A⟩,z,hz,B⟩
 ·have hle':=yF hle hr hx
  obtain ⟨y,hy,_,A,C⟩:=(vk hle hr hb (s:=x.1) (t:=x.2.Lo)).2 ⟨x,hx,rfl,Int.le_refl _,hle'⟩
  obtain ⟨z,hz,_,D,B⟩:=(vk hle hr hb (s:=x.1) (t:=x.2.Hi)).2 ⟨x,hx,rfl,hle',Int.le_refl _⟩
  exact ⟨⟨y,hy,A⟩,z,hz,B⟩
end
def qC (ws:List dB) (b:Nat):Int:=if jw (jH b ws)=jJ then 6 else 0
def qA (ws:List dB) (b:Nat):ag:=if jw (jH b ws)=jJ then ⟨0,0⟩ else jw (jH b ws)
theorem Pt {l:List (Int×ag)} {h:ag} (hh:lj l h) (hl: ∀ q∈l,q.2.Lo≤q.2.Hi):jw l=h:=
 DM (rY hl) hh (fun x hx=>⟨⟨x,hx,Int.le_refl _⟩,x,hx,Int.le_refl _⟩) (fun x hx=>⟨⟨x,hx,Int.le_refl _⟩,x,hx,Int.le_refl _⟩)
theorem Eu {ws:List dB} {b:Nat} (h:jH b ws=[]):qC ws b=6∧qA ws b=⟨0,0⟩:=by
 unfold qC qA; rw [h]; exact ⟨if_pos rfl,if_pos rfl⟩
theorem Fh {ws:List dB} {b:Nat} {o:ag} (hl: ∀ q∈jH b ws,q.2.Lo≤q.2.Hi) (h:nG (jH b ws) o):qC ws b=0∧qA ws b=o:=by
 have e:=Pt (.inr h) hl
 unfold qC qA; rw [e]; exact ⟨if_neg h.ne,if_neg h.ne⟩
/-- what was found until now -/
def ou (b:Nat) (ws:List dB) (fd:Bool) (o:ag):Prop:=(fd=false∧jH b ws=[])∨(fd=true∧nG (jH b ws) o)
theorem Ik {b:Nat} {o:ag}:ou b [] false o:= .inl ⟨rfl,rfl⟩
theorem Co {q:Int×ag} (hq:q.2.Lo≤q.2.Hi):nG [q] q.2:=⟨hq,⟨q,sm,rfl⟩,⟨q,sm,rfl⟩,fun x hx=>by simp at hx; subst hx; exact ⟨Int.le_refl _,Int.le_refl _⟩⟩
theorem AT {l:List (Int×ag)} {h:ag} {q:Int×ag} (hh:nG l h) (hq:q.2.Lo≤q.2.Hi):nG (l++[q]) ⟨min q.2.Lo h.Lo,max q.2.Hi h.Hi⟩:=by
 have:=wb (.inr hh) hq
 unfold ni at this
 rw [if_neg hh.ne] at this
 rcases this with ⟨e,_⟩|this
 ·simp at e
 ·exact this
theorem Eg {b:Nat} {ws:List dB} {fd:Bool} {o:ag} {y:dB} (h:ou b ws fd o) (hy:y.g4.length≤b):ou b (ws++[y]) fd o:=by
 unfold ou; rw [x3 hy]; exact h
theorem CQ {b:Nat} {ws:List dB} {fd:Bool} {o:ag} {y:dB} {s f e:Int} (h:ou b ws fd o) (hf:fd=false) (h1:y.g4[b]? =some s) (h2:y.jv[b]? =some f) (h3:y.mG[b]? =some e) (hle:f≤e):ou b (ws++[y]) true ⟨f,e⟩:=by
 rcases h with ⟨_,q⟩|⟨q,_⟩
 ·right
  rw [qV h1 h2 h3,q]
  exact ⟨U,Co hle⟩
 ·rw [q] at hf; cases hf
theorem FJ {b:Nat} {ws:List dB} {fd:Bool} {o:ag} {y:dB} {s f e:Int} (h:ou b ws fd o) (hf:fd=true) (h1:y.g4[b]? =some s) (h2:y.jv[b]? =some f) (h3:y.mG[b]? =some e) (hle:f≤e):ou b (ws++[y]) true ⟨min f o.Lo,max e o.Hi⟩:=by
 rcases h with ⟨q,_⟩|⟨_,q⟩
 ·rw [q] at hf; cases hf
 ·right
  rw [qV h1 h2 h3]
  exact ⟨U,AT q hle⟩
theorem Au {b:Nat} {ws:List dB} {fd:Bool} {o:ag} (h:ou b ws fd o) (hl: ∀ q∈jH b ws,q.2.Lo≤q.2.Hi):(fd=false→qC ws b=6∧qA ws b=⟨0,0⟩)∧(fd=true→qC ws b=0∧qA ws b=o):=by
 rcases h with ⟨q,h⟩|⟨q,h⟩
 ·exact ⟨fun _=>Eu h,fun e=>(by rw [q] at e; cases e)⟩
 ·exact ⟨fun e=>(by rw [q] at e; cases e),fun _=>Fh hl h⟩
section
variable {l:bg} {r:cr}
theorem Lt (he:dG l r 0=0) {b:Nat} (hb:b<l.ab.length):qC (q8 l r) b=dj l r b∧qA (q8 l r) b=cV l r b:=by
 obtain ⟨A,hr,_,_⟩:=iG he
 have h:=Jq A hr hb (rY fun q hq=>yF A hr hq)
 have ho:dG l r (iA l b)=0:=by rw [sG hb]; exact he
 unfold qC qA
 rw [h]
 by_cases e:lv l r b=jJ
 ·rw [if_pos e,if_pos e,(lX ho e).1,(lX ho e).2]; exact ⟨rfl,rfl⟩
 ·rw [if_neg e,if_neg e,(jy ho e).1,(jy ho e).2]; exact ⟨rfl,rfl⟩
theorem Q8 (hle:dw l=0) (hr:dW l r) {y:dB} (hy:y∈q8 l r) {b:Nat} {f e:Int} (hb:b<y.g4.length) (h2:y.jv[b]? =some f) (h3:y.mG[b]? =some e):f≤e:=
 yF hle hr (q:=(y.g4[b],⟨f,e⟩)) (ov.2 ⟨y,hy,eU _,h2,h3⟩)
theorem B7:dG l r (iA l l.bM)=dG l r 0:=by
 by_cases h:dw l=0
 ·obtain ⟨_,A⟩:=dq h
  have hh:=A.head
  unfold eY at hh
  rw [uX I]
 ·rw [gS h,gS h]
theorem xu (h: ¬ dG l r 0=0):dj l r l.bM=dG l r 0:=by
 have:=(jF (b:=l.bM) (by rw [B7]; exact h)).1
 rw [this,B7]
/-- rows of times that are those of ways -/
structure OG (ws:List dB):Prop where
 lens: ∀ y∈ws,y.jv.length=y.g4.length∧y.mG.length=y.g4.length∧y.g4.length≤6
 le: ∀ y∈ws,∀ (b:Nat) f e,b<y.g4.length→y.jv[b]? =some f→y.mG[b]? =some e→f≤e
 num:ws.length≤40000000
theorem OG.Gq {ws:List dB} (h:OG ws) {b:Nat}: ∀ q∈jH b ws,q.2.Lo≤q.2.Hi:=fun q hq=>by
 obtain ⟨y,hy,A,B,C⟩:=ov.1 hq
 exact h.le y hy b _ _ (aX.1 A).1 B C
theorem Ql (hle:dw l=0) (hr:dW l r):OG (q8 l r):=by
 obtain ⟨ht,B⟩:=dq hle
 have hh:=B.head
 unfold eY at hh
 refine ⟨fun y hy=>?_,fun y hy b f e hb A C=>Q8 hle hr hy hb A C,we hr.len I⟩
 obtain ⟨D,A,C⟩:=Jz hle hr hy
 exact ⟨D,A,I⟩
end
end
end Go.Proofs.YtijpnoadncadoaaGreatDoor
