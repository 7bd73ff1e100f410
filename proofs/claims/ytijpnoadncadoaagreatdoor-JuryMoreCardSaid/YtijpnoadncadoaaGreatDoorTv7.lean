/-
 The statement juryMore_said, part 7 of 8: Rs4, Rt2, Jw6, Jw7, Jw8, Jw9, Jwa, Jwb, B7, B8, Rr2, Jr1, B9, Rr1, Ends5, Can, False, Sim, Told, Clear, Ways, WayM, R1, Y1.
 Conditions: none.
-/
import Derived.Test.YtijpnoadncadoaaGreatDoorTv1
import Derived.Test.YtijpnoadncadoaaGreatDoorTv2
import Derived.Test.YtijpnoadncadoaaGreatDoorTv3
import Derived.Test.YtijpnoadncadoaaGreatDoorTv4
import Derived.Test.YtijpnoadncadoaaGreatDoorTv5
import Derived.Test.YtijpnoadncadoaaGreatDoorTv6
namespace Go.Proofs.YtijpnoadncadoaaGreatDoor
set_option maxRecDepth 100000
set_option maxHeartbeats 4000000
set_option linter.unusedVariables false
section
open Go.RowKit
theorem LC (r:e7) (kA:OA) (kC:Nat) (az:List RA) (cA:OA) (cC:Nat) (bA:OA) (bC:Nat) (slA:OA) (slC:Nat) (drA:OA) (drC:Nat) (ha:List cZ) (heA:OA) (heC:Nat) (hin:ld r az ha):
 p9 Tryz.prog 103 [(vA (er.cells (yz r kA kC cA cC bA bC slA slC drA drC heA heC)))] [(rd gV 3 2 fW),(rd kA r.ar.aS.length 9 (r.ar.aS.map au.cells)),(rd cA r.ar.aj.length 2 (List.zipWith ay.cells r.ar.aj az)),(dU (bo ay.gn r.ar.aj az)),(rd bA r.ar.aa.length 4 (r.ar.aa.map bK.cells)),(rd slA r.aY.length 1 (r.aY.map iC)),(rd drA r.cd.length 1 (r.cd.map iC)),(rd heA r.aD.length 1 (List.zipWith cP r.aD ha)),(dU (bo fg r.aD ha))] (fun (x:Bool×Int×Nat×Nat×(OA)×Nat×(List RA))=>bif x.1 then (vT [(Value.pointer (some ⟨x.2.2.1,0,none⟩)),(vI 0)]) else (vT [(Value.pointer none),(vI x.2.1)])) (fun (x:Bool×Int×Nat×Nat×(OA)×Nat×(List RA))=>(x.1=true→(jN r=0∧x.2.2.2.2.2.2.length=r.aD.length))∧(x.1=false→(x.2.1=jN r∧ ¬ jN r=0))) (fun (x:Bool×Int×Nat×Nat×(OA)×Nat×(List RA))=>bif x.1 then [(cx x.2.2.1 212 (kD.cells (kD.mk (yz r kA kC cA cC bA bC slA slC drA drC heA heC) (bx.mk x.2.2.2.2.1 ((fY r).length) x.2.2.2.2.2.1) (Value.map (some x.2.2.2.1))))),(own x.2.2.2.2.1 x.2.2.2.2.2.1 204 1 (List.zipWith MJ (fY r) x.2.2.2.2.2.2)),(bU (bo E6 (fY r) x.2.2.2.2.2.2)),(kj iV x.2.2.2.1 (cU jZ (Ol r)))] else []):=by
 have K4:=hin.line
 have Op:=hin.iE
 have Or:=hin.has
 have Lq:=hin.iB
 have Lk:=hin.draw
 have Fn:=j7 (r:=r)
 refine fF kr Tryz.func103 U U fun w0 Q hQ hN=>?_
 try dsimp only
 refine WS fun _ J2=>eL U fun b2=>bE 2 U<|RK J2<|aq fun _ J3=>WS fun _ J4=>bE 1 U<|rS (LP (ct.cells (jW r.ar kA kC cA cC bA bC)) 0 U cq U U U)<|rS (CL (xp r.ar kA kC az cA cC bA bC asm) (bw [2,3,4,5]) U)<|bE 1 U<|RK J4<|WS fun _ J5=>rP 2 [] I ?_
 refine RK J5<|cw U (bg fun B=>?_) (bf fun B=>?_)
 ·refine WS fun _ J6=>rP 3 [] I ?_
  refine RK J6<|av<|LX hQ (false,(dJ r.ar),0,0,none,0,[]) [] [] I U (by rfl) U U ?_
  exact v_<|E3 (zk B) B
 refine WK J3<|WS fun _ J7=>e9 4 [] (mc 0 U I) U<|RK J7<|WS fun _ J8=>rP 2 [] (mc 0 U I) ?_
 refine cX (Jk drA r.cd.length drC) (aN) U fun Go L0=>?_
 try dsimp only
 refine cX (Kf r.cd drA drC Go asm) (bw [8,0]) U fun Li L2=>?_
 obtain ⟨M2,Oi⟩:=Li
 try dsimp only
 refine bE 1 U<|RK J8<|aq fun _ e=>WS fun _ H=>rP 1 [] I ?_
 refine eB (xs:=[.tmp 29]) (cs:=[(vI (r.aY.length:Int))]) U dp ky U U U U (by simp [Value.cells]) U U fun Hi=>?_
 refine rS (CL (dK.eq (tj 1 5 ([(r.aY.length:Int)]) (some ⟨Hi,0,none⟩) 1 (by (simp; done))) cE) (ax (bu 0 U U (by simp [bR]) U)<|aN) U) ?_
 refine rP 2 [] I ?_
 refine bZ (t:=33) U (bg fun IR=>?_) (bf fun IR=>?_)
 ·refine bE 26 U<|RK H<|aT U<|WS fun _ f=>rP 2 [] I ?_
  refine RK f<|av<|LX hQ (false,60,0,0,none,0,[]) [] [] I U (by rfl) U U ?_
  exact v_<|nK (kN B (fun q:fU r=>by have q1:=q.num; have q2:=q.zY; have q3:=q.nh; have q4:=q.z8; omega))
 refine rP 6 [] I ?_
 refine bZ (t:=39) U (bg fun Ic=>?_) (bf fun Ic=>?_)
 ·refine bE 20 U<|RK H<|aT U<|WS fun _ g=>rP 2 [] I ?_
  refine RK g<|av<|LX hQ (false,60,0,0,none,0,[]) [] [] I U (by rfl) U U ?_
  exact v_<|nK (kN B (fun q:fU r=>by have q1:=q.num; have q2:=q.zY; have q3:=q.nh; have q4:=q.z8; omega))
 refine rP 2 [] (mc 3 U I) ?_
 refine eB (xs:=[.tmp 41]) (cs:=[(vI r.j2)]) U dp ky U U U U (by simp [Value.cells]) U U fun H1=>?_
 refine rS (CL (dK.eq (tj 0 5 ([r.j2]) (some ⟨H1,0,none⟩) 1 (by (simp; done))) cE) (ax (bu 0 U U (by simp [bR]) U)<|aN) U) ?_
 refine rP 3 [] I ?_
 refine bZ (t:=46) U (bg fun Id=>?_) (bf fun Id=>?_)
 ·refine bE 13 U<|RK H<|aT U<|WS fun _ k=>rP 2 [] I ?_
  refine RK k<|av<|LX hQ (false,60,0,0,none,0,[]) [] [] I U (by rfl) U U ?_
  exact v_<|nK (kN B (fun q:fU r=>by have q1:=q.num; have q2:=q.zY; have q3:=q.nh; have q4:=q.z8; omega))
 refine rP 3 [] (mc 4 U I) ?_
 refine eB (xs:=[.tmp 49]) (cs:=[(vI (r.aD.length:Int))]) U dp ky U U U U (by simp [Value.cells]) U U fun IO=>?_
 refine rS (CL (dK.eq (tj 1 3 ([(r.aD.length:Int)]) (some ⟨IO,0,none⟩) 1 (by (simp; done))) cE) (ax (bu 0 U U (by simp [bR]) U)<|aN) U) ?_
 refine rP 3 [] I ?_
 refine bZ (t:=54) U (bg fun If=>?_) (bf fun If=>?_)
 ·refine bE 5 U<|RK H<|aT U<|WS fun _ l=>rP 2 [] I ?_
  refine RK l<|av<|LX hQ (false,60,0,0,none,0,[]) [] [] I U (by rfl) U U ?_
  exact v_<|nK (kN B (fun q:fU r=>by have q1:=q.num; have q2:=q.zY; have q3:=q.nh; have q4:=q.z8; omega))
 refine e9 2 [] (mc 5 U I) U<|rS (CL (tj 0 9999 r.aY slA slC asm) (bw [11]) U)<|rP 2 [] I ?_
 refine RK H<|cw U (fun N=>?_) (fun N=>?_)
 ·rw [Bool.not_eq_true'] at N
  refine WS fun _ m=>rP 2 [] I ?_
  refine RK m<|av<|LX hQ (false,60,0,0,none,0,[]) [] [] I U (by rfl) U U ?_
  exact v_<|nK (kN B (fun q:fU r=>by exact absurd (q.ins.symm.trans N) dc))
 rw [Bool.not_eq_false'] at N
 refine WK e<|aq fun _ o=>WS fun _ p=>?_
 have Os:(nS r.cd).length=r.aY.length:=by rw [tS]; omega
 refine rP 2 [] I ?_
 refine RK p<|aF ?_
 have A:(0≤r.aY.length)∧(rn r 0):=by exact ⟨Nat.zero_le _,Dv⟩
 refine bQ (ι:={z:Nat // (z≤r.aY.length)∧(rn r z)}) [1,5,6,60] [3,5,6,7,8,9,10,11,12,13,14] U U (fun z=>[(61,(vI (z.1:Int)))]) (fun z=>[]) (fun _=>rfl) (fun _=>rfl) (fun z=>r.aY.length-z.1) ⟨0,A⟩ (bk U) (aP [3,5,6,7,8,9,10,11,12,13,14]) ?_
 clear A
 rintro ⟨i,⟨K0,J⟩⟩ J28 V
 try dsimp only
 refine WS fun _ s=>rP 1 [] I ?_
 refine RK s<|aq fun _ w=>cw U (aV fun In=>?_) (aU fun In=>?_)
 ·refine WK w<|aq fun _ W=>aF<|WS fun _ AC=>bE 2 U<|RK AC<|aq fun _ O=>dA cy 24 kr<|dP 2 [] I ?_
  obtain ⟨x,hx⟩:=aM (nS r.cd) i om
  have K5:=bO iC hx
  refine dS (IA i U (ak (n:=r.cd.length) 0 U sq) dp dc om om) ?_
  refine dS (gQ i 0 (vI x) U cq (ak (n:=(nS r.cd).length) 0 U sm) K5 U dc U)<|dP 3 [] I ?_
  refine hO (t:=70) U (bg fun S=>?_) (bf fun S=>?_)
  ·refine k6 17 U<|cM<|RK O<|aT U<|WS fun _ AN=>rP 2 [] I ?_
   refine RK AN<|av<|LX hQ (false,60,0,0,none,0,[]) [] [] I U (by rfl) U U ?_
   exact v_<|nK (kN B (fun q:fU r=>by exact absurd (q.drawn hx) S))
  refine dP 3 [] I ?_
  refine jD (t:=73) U (aU fun Io=>?_) (aV fun Io=>?_)
  ·refine k6 14 U<|cM<|RK O<|cj U<|cg<|aO<|KK W<|aw<|rP 2 [] I ?_
   refine aK ?_
   have EQ:(vI (((i+1):Nat):Int))=(vI ((i:Int)+1)):=by exact cI om
   refine a_ (V ⟨(i+1),⟨om,x8 J hx S (fun u v hu hv hw=>by omega)⟩⟩ _ _ _ U os (cK 4<|bj U EQ<|dv.nil _) (aP [0,1,2,3,4,5,6,7,8,9,10]))
  refine dP 3 [] (mc 1 U I) ?_
  obtain ⟨y,hy⟩:=aM r.aY i om
  have K8:=bO iC hy
  refine dS (IA i U (aG 7 U) dp dc om om)<|dS (gQ i 0 (vI y) U cq (aG 7 U) K8 U dc U)<|dP 4 [] (mc 1 U I) ?_
  obtain ⟨z,hz⟩:=aM r.aY (i-1) om
  have LA:=bO iC hz
  refine dS (IA (i-1) U (aG 7 U) dp dc om om)<|dS (gQ (i-1) 0 (vI z) U cq (aG 7 U) LA U dc U)<|dP 3 [] I ?_
  refine cM<|RK O<|bV U (aU fun Iv=>?_) (aV fun Iv=>?_)
  ·refine cg<|aO<|KK W<|aw<|rP 2 [] I ?_
   refine aK ?_
   have Do:(vI (((i+1):Nat):Int))=(vI ((i:Int)+1)):=by exact cI om
   refine a_ (V ⟨(i+1),⟨om,x8 J hx S (fun u v hu hv hw=>by (rw [hy] at hu; cases hu; rw [hz] at hw; cases hw; omega))⟩⟩ _ _ _ rfl os (cK 4<|bj rfl Do<|dv.nil _) (aP [0,1,2,3,4,5,6,7,8,9,10]))
  refine WS fun _ AO=>rP 2 [] I ?_
  refine RK AO<|av<|LX hQ (false,60,0,0,none,0,[]) [] [] I U (by rfl) U U ?_
  exact v_<|nK (kN B (fun q:fU r=>by have q1:=(q.ids i y hy).2 z om hz; omega))
 refine bL<|ab<|ab<|aH<|KK o<|WS fun _ Am=>e9 1 [] (mc 1 U I) U<|rS (SX (bq (xs:=[(0,.tmp 89)]) (cs:=(kD.cells (kD.mk (yz r kA kC cA cC bA bC slA slC drA drC heA heC) (bx.mk none 0 0) (Value.map none)))) U U (bp S3 U)) U U)<|eL U fun L=>bE 1 U<|RK Am<|aq fun _ A0=>WS fun _ A1=>rP 4 [] (mc 2 U I) ?_
 refine RK A1<|aF<|eP 204 1<|od ?_
 have A:(0≤r.aD.length)∧(([]:List RA).length=0)∧(km r 0):=by exact ⟨Nat.zero_le _,rfl,x_⟩
 refine bQ (ι:={z:Nat×(List RA)×(OA)×Nat // (z.1≤r.aD.length)∧(z.2.1.length=z.1)∧(km r z.1)}) [1,5,8,93,94] [3,4,5,6,7,8,9,10,11,12,13] U U (fun z=>[(95,(vI (z.1.1:Int)))]) (fun z=>[(bU (bo E6 (gW r z.1.1) z.1.2.1)),(own z.1.2.2.1 z.1.2.2.2 204 1 (List.map sC (List.zipWith CJ (gW r z.1.1) z.1.2.1))),(cx L 212 (kD.cells (kD.mk (yz r kA kC cA cC bA bC slA slC drA drC heA heC) (bx.mk z.1.2.2.1 ((List.zipWith CJ (gW r z.1.1) z.1.2.1).length) z.1.2.2.2) (Value.map none))))]) (fun _=>rfl) (fun _=>rfl) (fun z=>r.aD.length-z.1.1) ⟨(0,([]:List RA),none,0),A⟩ (bk U) (aP [3,4,5,6,7,8,9,10,11,12,13,0,1,2]) ?_
 clear A
 rintro ⟨⟨h,tz,a,c⟩,⟨T,C,E⟩⟩ J42 Z
 try dsimp only at T C E
 try dsimp only
 refine WS fun _ A2=>rP 1 [] I ?_
 refine RK A2<|aq fun _ A3=>bV U (aU fun Iw=>?_) (aV fun Iw=>?_)
 ·refine bL<|ab<|ab<|aH<|KK A0<|aq fun _ C3=>?_
  have KV:gW r h=fY r:=by unfold fY; rw [show h=r.aD.length by omega]
  have GE:tz.length=r.aD.length:=by omega
  rw [KV,zj,show (List.zipWith CJ (fY r) tz).length=(fY r).length from by rw [List.length_zipWith]; omega]
  have X:fU r:=IS (n:=i) om om om om om N J E om
  refine aw<|rP 5 [] (mc 1 U I) ?_
  refine cX (S6 r kA kC az cA cC bA bC slA slC drA drC ha heA heC tz a c (Value.map none) L r.aD.length hin asm om (by exact X.L5)) (oP [3,4,5,6,7,8,9,10]<|ax (ak (n:=(fY r).length) 12 U (LL (by rw [Fn]; exact GE)))<|ax (dj 11 U Tb)<|gj 13 U U<|aN) U fun K L3=>?_
  try dsimp only
  refine rS (SX (cT U U) U U)<|rP 1 [] I ?_
  refine hE (vs:=[(Value.map (some K))]) (cs':=(kD.cells (kD.mk (yz r kA kC cA cC bA bC slA slC drA drC heA heC) (bx.mk a ((fY r).length) c) (Value.map (some K))))) (C':=[_,_,_,_,_,_,_,_,_,_,_,_,_,_,(cx L 212 (kD.cells (kD.mk (yz r kA kC cA cC bA bC slA slC drA drC heA heC) (bx.mk a ((fY r).length) c) (Value.map (some K)))))]) 14 U U U EA U U U U U U U<|RK C3<|aq fun _ Di=>?_
  rw [show BK r r.aD.length=Ol r from rfl]
  refine aw<|rP 3 [] I ?_
  refine RK Di<|av ?_
  refine LX hQ (true,0,L,K,a,c,tz) [14,13,12,0] [] I U (by (show List.all _ _=true; simp only [cond_true,fu,List.all_nil,Ej,Bool.and_true]; rfl)) U U ?_
  exact ⟨fun _=>⟨BO B X,GE⟩,QB⟩
 refine WK A3<|aq fun _ A4=>aF<|WS fun _ A5=>?_
 obtain ⟨ht,D⟩:=aM r.aD h om
 obtain ⟨G,AB⟩:=aM ha h om
 have Fd:(List.zipWith cP r.aD ha)[h]? =some (cP ht G):=dx D AB
 refine rS (IA h U (aG 9 U) oQ dc om om)<|rS (gQ h 0 (vS G.1.1 ht.length G.1.2) U cq (aG 9 U) Fd U dc U)<|rP 1 [] I ?_
 refine RK A5<|aq fun _ A6=>WS fun _ A7=>?_
 have FS:=hin.gL _ _ _ D AB
 have Lo:=FS.nP
 refine rP 4 [] I ?_
 refine RK A7<|cw U (bg fun Y=>?_) (bf fun Y=>?_)
 ·refine WS fun _ A8=>rP 2 [] I ?_
  refine RK A8<|av<|LX hQ (false,60,0,0,none,0,[]) [] [] I U (by rfl) U U ?_
  exact v_<|nK (kN B (fun q:fU r=>by have q1:=(q.gL ht (aQ D)).1; omega))
 refine WK A6<|WS fun _ A9=>bE 1 U<|RK A9<|aq fun _ Bx=>WS fun _ B3=>rP 3 [] I ?_
 refine RK B3<|aF<|eP 53 2 ?_
 have A:(0≤ht.length)∧(oI r.ar ht 0):=by exact ⟨Nat.zero_le _,vy⟩
 refine bQ (ι:={z:Nat×(OA)×Nat // (z.1≤ht.length)∧(oI r.ar ht z.1)}) [1,5,8,10,93,94,95,103,104] [1,2,3,4,5,6,7,8,9,10,11,12,13,14] U U (fun z=>[(11,(vS z.1.2.1 (((ht.take z.1.1).map (gl r.ar)).length) z.1.2.2)),(105,(vI (z.1.1:Int)))]) (fun z=>[(own z.1.2.1 z.1.2.2 53 2 (((ht.take z.1.1).map (gl r.ar)).map ai.cells))]) (fun _=>rfl) (fun _=>rfl) (fun z=>ht.length-z.1.1) ⟨(0,none,0),A⟩ (bk U) (aP [1,2,3,4,5,6,7,8,9,10,11,12,13,14,0]) ?_
 clear A
 rintro ⟨⟨j,la,lc⟩,⟨AA,F⟩⟩ J53 b
 try dsimp only at AA F
 try dsimp only
 refine WS fun _ B9=>rP 1 [] I ?_
 refine RK B9<|aq fun _ Ci=>bV U (aU fun Ig=>?_) (aV fun Ig=>?_)
 ·refine bL<|ab<|ab<|aH<|KK Bx<|aw<|bE 2 U<|rS (SX (cT U U) U U)<|rP 2 [] (mc 13 U I) ?_
  rw [show ((ht.take j).map (gl r.ar))=ht.map (gl r.ar) from by rw [List.take_of_length_le om]]
  refine rP 1 [] I ?_
  refine eB (xs:=[.tmp 128]) (cs:=[(vS la ((ht.map (gl r.ar)).length) lc)]) U HO NM U U U U (by simp [Value.cells]) U U fun OM=>?_
  refine dH (es2:=(List.map sC (List.zipWith CJ (gW r (h+1)) (tz++[(la,lc)])))) (m':=(List.zipWith CJ (gW r (h+1)) (tz++[(la,lc)])).length) 13 U U U N9 U U sm (bu (es:=List.map sC [(bx.mk la ((ht.map (gl r.ar)).length) lc)]) 0 U U (by simp [zd]) U) (IU _) (by rw [List.length_zipWith,lf om]; omega) (by rw [List.length_zipWith,lf om]; simp only [maxLen]; omega) (by rw [ug D C,List.map_append]; rfl) (by rw [ug D C]; simp) U fun P R=>?_
  try dsimp only
  refine rS (SX (cT U U) U U)<|bE 1 U<|hE (vs:=[(vS P ((List.zipWith CJ (gW r (h+1)) (tz++[(la,lc)])).length) R)]) (cs':=(kD.cells (kD.mk (yz r kA kC cA cC bA bC slA slC drA drC heA heC) (bx.mk P ((List.zipWith CJ (gW r (h+1)) (tz++[(la,lc)])).length) R) (Value.map none)))) (C':=[_,_,_,_,_,_,_,_,_,_,_,_,_,_,(cx L 212 (kD.cells (kD.mk (yz r kA kC cA cC bA bC slA slC drA drC heA heC) (bx.mk P ((List.zipWith CJ (gW r (h+1)) (tz++[(la,lc)])).length) R) (Value.map none)))),_]) 14 U U U SH U U U U U U U<|aK<|aO<|KK A4<|aw<|rP 2 [] I ?_
  refine aK<|xy (X':=bo E6 (gW r (h+1)) (tz++[(la,lc)])) 12 15 U U (CD (a:=(la,lc)) D C) ?_
  have Eu:(vI (((h+1):Nat):Int))=(vI ((h:Int)+1)):=by exact cI om
  refine a_ (Z ⟨((h+1),(tz++[(la,lc)]),P,R),⟨om,by simp; omega,xo E D (E8 om F om)⟩⟩ _ _ _ U os (cK 5<|bj U Eu<|dv.nil _) (aP [2,3,4,5,6,7,8,9,10,11,12,0,13,14]))
 refine WK Ci<|aq fun _ Ck=>aF<|WS fun _ Cp=>?_
 obtain ⟨d,hd⟩:=aM ht j om
 obtain ⟨da,FG⟩:=aM G.2 j om
 have J9:(List.zipWith aC.cells ht G.2)[j]? =some (aC.cells d da):=dx hd FG
 refine rS (IA j U (show iH _ (rd G.1.1 ht.length 7 (List.zipWith aC.cells ht G.2)).holds from (cY 10 U (bP D AB cH))) sh dc om om)<|rS (lS j 0 (aR.cells (aR.mk d.Out d.dB d.Time (cN.mk d.bD.Start d.bD.gf (bx.mk da.1 d.bD.ag.length da.2)))) U cq (show iH _ (rd G.1.1 ht.length 7 (List.zipWith aC.cells ht G.2)).holds from (cY 10 U (bP D AB cH))) J9 U dc U U)<|AL U Cu fun NE=>fR U Gg U<|RK Cp<|WS fun _ Cx=>bE 1 U<|rS (LP (ct.cells (jW r.ar kA kC cA cC bA bC)) 2 U cq U U U)<|rP 1 [] (mc 0 U I) ?_
 have PA:=FS.sig d (aQ hd)
 refine rS (CL (Df r.ar kA kC az cA cC bA bC d da.1 da.2 asm asm) (oP [3,4,5,6,7]<|ax (show iH _ (rd da.1 d.bD.ag.length 2 (d.bD.ag.map aI.cells)).holds from (cY 11 U (bP D AB (dR _ (bP hd FG (by simp [aC.gn]))))))<|aN) U)<|bE 3 U<|AL U ed fun Ne=>fR U c_ U<|bE 1 U<|RK Cx<|aq fun _ C0=>WS fun _ C1=>rP 2 [] I ?_
 refine RK C1<|bV U (bf fun M=>?_) (bg fun M=>?_)
 ·refine WK C0<|aw<|rP 2 [] (mc 0 U I) ?_
  refine eB (xs:=[.tmp 119]) (cs:=(ai.cells (gl r.ar d))) U lu ed U U U U (by simp [Value.cells,ai.aZ]) U U fun OK=>?_
  refine dH (es2:=(List.map ai.cells ((ht.take (j+1)).map (gl r.ar)))) (m':=((ht.take (j+1)).map (gl r.ar)).length) 17 U U U FC U U sm (bu (es:=List.map ai.cells [(gl r.ar d)]) 0 U U (by simp [ai.aZ]) U) (kT _) (by simp only [List.length_map,List.length_take]; omega) (by simp only [maxLen,List.length_map,List.length_take]; omega) (by rw [List.take_add_one,hd]; simp) sq U fun Gi IP=>?_
  try dsimp only
  refine bE 1 U<|aK<|aO<|KK Ck<|aw<|rP 2 [] I ?_
  refine aK ?_
  have Eq:(vI (((j+1):Nat):Int))=(vI ((j:Int)+1)):=by exact cI om
  refine a_ (b ⟨((j+1),Gi,IP),⟨om,vx F hd M⟩⟩ _ _ _ U os (cK 10<|bj U Eq<|dv.nil _) (aP [3,4,5,6,7,8,9,10,11,12,13,14,15,16,17]))
 refine WS fun _ C2=>rP 2 [] I ?_
 refine RK C2<|av<|LX hQ (false,60,0,0,none,0,[]) [] [] I U (by rfl) U U ?_
 exact v_<|nK (kN B (fun q:fU r=>by exact M ((q.gL ht (aQ D)).2 d (aQ hd))))
end
section
open Go.RowKit
theorem Jl (r:e7) (kA:OA) (kC:Nat) (az:List RA) (cA:OA) (cC:Nat) (bA:OA) (bC:Nat) (slA:OA) (slC:Nat) (drA:OA) (drC:Nat) (ha:List cZ) (heA:OA) (heC:Nat) (hin:ld r az ha):
 dK Tryz.prog 79 [(vA (er.cells (yz r kA kC cA cC bA bC slA slC drA drC heA heC)))] [(rd gV 3 2 fW),(rd kA r.ar.aS.length 9 (r.ar.aS.map au.cells)),(rd cA r.ar.aj.length 2 (List.zipWith ay.cells r.ar.aj az)),(dU (bo ay.gn r.ar.aj az)),(rd bA r.ar.aa.length 4 (r.ar.aa.map bK.cells)),(rd slA r.aY.length 1 (r.aY.map iC)),(rd drA r.cd.length 1 (r.cd.map iC)),(rd heA r.aD.length 1 (List.zipWith cP r.aD ha)),(dU (bo fg r.aD ha))] (vI (jN r)):=by
 have H:=hin.line
 have R:=hin.iE
 have S:=hin.has
 have J:=hin.iB
 have AB:=hin.draw
 have K:=j7 (r:=r)
 refine bG kr Tryz.func79 U U fun X Q hQ hN=>?_
 try dsimp only
 refine WS fun _ G=>eL U fun W=>bE 1 U<|RK G<|WS fun _ C=>rP 1 [] (mc 0 U I) ?_
 refine cX (LC r kA kC az cA cC bA bC slA slC drA drC ha heA heC hin) (bw [1,2,3,4,5,6,7,8,9]) U fun V E=>?_
 obtain ⟨F,N,P,O,AA,L,M⟩:=V
 cases F
 rotate_left 1
 ·obtain ⟨he,T⟩:=E.1 rfl
  try dsimp only [cond_true,cond_false,List.cons_append,List.nil_append]
  refine bE 5 U<|RK C<|WS fun _ B=>rP 2 [] I ?_
  refine RK B<|av<|Q1 hQ U U U ?_
  first|rfl|(rw [he])
 obtain ⟨D,he⟩:=E.2 rfl
 try dsimp only at D he
 subst D
 try dsimp only [cond_true,cond_false,List.cons_append,List.nil_append]
 refine bE 5 U<|RK C<|WS fun _ A=>rP 2 [] I ?_
 refine RK A<|av<|Q1 hQ U U U ?_
 first|rfl|(rw [he])
end
section
open Go.RowKit
theorem JC (j:bS) (kA:OA) (kC:Nat) (az:List RA) (cA:OA) (cC:Nat) (bA:OA) (bC:Nat) (slA:OA) (slC:Nat) (drA:OA) (drC:Nat) (ha:List cZ) (heA:OA) (heC:Nat) (faA:OA) (faC:Nat) (prA:OA) (prC:Nat) (hin:gp j az ha):
 dK Tryz.prog 52 [(vA (du.cells (mZ j kA kC cA cC bA bC slA slC drA drC heA heC faA faC prA prC)))] [(rd gV 3 2 fW),(rd kA j.Race.ar.aS.length 9 (j.Race.ar.aS.map au.cells)),(rd cA j.Race.ar.aj.length 2 (List.zipWith ay.cells j.Race.ar.aj az)),(dU (bo ay.gn j.Race.ar.aj az)),(rd bA j.Race.ar.aa.length 4 (j.Race.ar.aa.map bK.cells)),(rd slA j.Race.aY.length 1 (j.Race.aY.map iC)),(rd drA j.Race.cd.length 1 (j.Race.cd.map iC)),(rd heA j.Race.aD.length 1 (List.zipWith cP j.Race.aD ha)),(dU (bo fg j.Race.aD ha)),(rd faA j.aA.length 4 (j.aA.map aW.cells)),(rd prA j.ao.length 5 (j.ao.map aJ.cells))] (vI (db j)):=by
 have Fn:=hin.race
 have J9:=hin.race.line
 have Op:=hin.race.iE
 have Or:=hin.race.has
 have L3:=hin.race.iB
 have Lo:=hin.nf
 have L2:=hin.np
 refine bG kr Tryz.func52 U U fun w0 Q hQ hN=>?_
 try dsimp only
 refine WS fun _ Io=>eL U fun b2=>bE 1 U<|RK Io<|AI U<|aq fun _ Iv=>WS fun _ Iw=>bE 1 U<|rS (LP (er.cells (yz j.Race kA kC cA cC bA bC slA slC drA drC heA heC)) 0 U cq U U U)<|rS (CL (Jl j.Race kA kC az cA cC bA bC slA slC drA drC ha heA heC asm) (bw [1,2,3,4,5,6,7,8,9]) U)<|bE 1 U<|RK Iw<|WS fun _ J2=>rP 2 [] I ?_
 refine RK J2<|cw U (bg fun A=>?_) (bf fun A=>?_)
 ·refine WS fun _ J3=>rP 2 [] I ?_
  refine RK J3<|av<|Q1 hQ U U U ?_
  exact cI (yP A).symm
 refine WK Iv<|WS fun _ J4=>rP 2 [] (mc 0 U I) ?_
 refine rS (FU U) ?_
 refine cX (My j.aA faA faC (Value.func (.func 81) [].toArray [(vP b2)].toArray) (fun u8 u9=>(decide (¬ oO j.Race.ar.cf u9))) (dU [(cx b2 36 (du.cells (mZ j kA kC cA cC bA bC slA slC drA drC heA heC faA faC prA prC)))]) (by intro u8 u9 KV; exact k9 (fi:=[]) (ca:=[(vP b2)]) (jY (HY u8 u9 j kA kC cA cC bA bC slA slC drA drC heA heC faA faC prA prC b2 (by (obtain ⟨i_,_,J7⟩:=KV; exact hin.kind _ (aQ J7)))) (bw [0]))) asm) (gj 10 rfl rfl<|ax (jV (bw [0]))<|aN) rfl fun LE L5=>?_
 obtain ⟨NE,OM⟩:=LE
 try dsimp only
 refine bE 1 U<|RK J4<|aq fun _ b=>WS fun _ G=>rP 5 [] (mc 1 U I) ?_
 refine bZ (t:=25) U (aV fun IR=>?_) (aU fun IR=>?_)
 ·refine bE 24 U<|RK G<|aT U<|WS fun _ c=>rP 1 [] I ?_
  refine RK c<|av<|Q1 hQ U U U ?_
  exact cI (jO A (fun q=>by have AA:=q.nf; have O:=q.min_; have V:=q.kY; have W:=q.np; omega)).symm
 refine rP 5 [] I ?_
 refine bZ (t:=30) U (aV fun S=>?_) (aU fun S=>?_)
 ·refine bE 19 U<|RK G<|aT U<|WS fun _ e=>rP 1 [] I ?_
  refine RK e<|av<|Q1 hQ U U U ?_
  exact cI (jO A (D6 S)).symm
 refine rP 2 [] (mc 1 U I) ?_
 refine eB (xs:=[.tmp 32]) (cs:=[(vI j.bJ)]) U dp ky U U U U (by simp [Value.cells]) U U fun GT=>?_
 refine rS (CL (dK.eq (iS 0 60 ([j.bJ]) (some ⟨GT,0,none⟩) 1 (by (simp; done))) cE) (ax (bu 0 U U (by simp [bR]) U)<|aN) U) ?_
 refine rP 3 [] I ?_
 refine bZ (t:=37) U (bg fun If=>?_) (bf fun If=>?_)
 ·refine bE 12 U<|RK G<|aT U<|WS fun _ f=>rP 1 [] I ?_
  refine RK f<|av<|Q1 hQ U U U ?_
  exact cI (jO A (fun q=>by have AA:=q.nf; have O:=q.min_; have V:=q.kY; have W:=q.np; omega)).symm
 refine rP 2 [] (mc 2 U I) ?_
 refine eB (xs:=[.tmp 39]) (cs:=[(vI j.kU)]) U dp ky U U U U (by simp [Value.cells]) U U fun Gi=>?_
 refine rS (CL (dK.eq (iS 0 100000 ([j.kU]) (some ⟨Gi,0,none⟩) 1 (by (simp; done))) cE) (ax (bu 0 U U (by simp [bR]) U)<|aN) U) ?_
 refine rP 3 [] I ?_
 refine bZ (t:=44) U (bg fun Ig=>?_) (bf fun Ig=>?_)
 ·refine bE 5 U<|RK G<|aT U<|WS fun _ g=>rP 1 [] I ?_
  refine RK g<|av<|Q1 hQ U U U ?_
  exact cI (jO A (fun q=>by have AA:=q.nf; have O:=q.min_; have V:=q.kY; have W:=q.np; omega)).symm
 refine rP 5 [] (mc 3 U I) ?_
 refine RK G<|cw U (aV fun In=>?_) (aU fun In=>?_)
 ·refine WS fun _ h=>rP 1 [] I ?_
  refine RK h<|av<|Q1 hQ U U U ?_
  exact cI (jO A (fun q=>by have AA:=q.nf; have O:=q.min_; have V:=q.kY; have W:=q.np; omega)).symm
 refine WK b<|WS fun _ l=>bE 1 U<|RK l<|WS fun _ m=>bE 1 U<|RK m<|aq fun _ n=>Ad<|KK n<|aq fun _ C=>WS fun _ o=>rP 4 [] (mc 3 U I) ?_
 refine RK o<|aF ?_
 have N:(0≤j.ao.length)∧(oM j 0):=by exact ⟨Nat.zero_le _,yb⟩
 refine bQ (ι:={z:Nat // (z≤j.ao.length)∧(oM j z)}) [1,5,51,52] [2,3,4,5,6,7,8,9,10,11,12,13,14] U U (fun z=>[(6,(vI (pE j z.1))),(53,(vI (z.1:Int)))]) (fun z=>[]) (fun _=>rfl) (fun _=>rfl) (fun z=>j.ao.length-z.1) ⟨0,N⟩ (bk U) (aP [2,3,4,5,6,7,8,9,10,11,12,13,14]) ?_
 clear N
 rintro ⟨k,⟨B,D⟩⟩ J28 P
 try dsimp only
 refine WS fun _ r=>rP 1 [] I ?_
 refine RK r<|aq fun _ s=>bV U (aU fun Ic=>?_) (aV fun Ic=>?_)
 ·refine bL<|ab<|ab<|aH<|KK C<|WS fun _ C3=>rP 2 [] I ?_
  refine RK C3<|av<|Q1 hQ U U U ?_
  exact cI (wJ A ⟨om,Bg S,om,om,om,fun i p hi=>D i p (by have:=(aX.1 hi).1; omega) hi⟩).symm
 refine WK s<|aq fun _ R=>aF<|WS fun _ u=>?_
 obtain ⟨p,hp⟩:=aM j.ao k om
 have K0:=bO aJ.cells hp
 refine rS (IA k U (aG 12 U) yq dc om om)<|rS (lS k 0 (aJ.cells p) U cq (aG 12 U) K0 U dc U U)<|AL U I9 fun Ne=>fR U OP U<|RK u<|WS fun _ AB=>rP 1 [] I ?_
 have J8:=NC D B
 refine rP 3 [] (mc 0 U I) ?_
 refine eB (xs:=[.tmp 60]) (cs:=[(vI p.Id)]) U dp ky U U U U (by simp [Value.cells]) U U fun Go=>?_
 refine rS (CL (dK.eq (iS ((pE j k)+1) 9999 ([p.Id]) (some ⟨Go,0,none⟩) 1 (by (simp; done))) cE) (ax (bu 0 U U (by simp [bR]) U)<|aN) U) ?_
 refine rP 1 [] I ?_
 refine cL (t:=63) U (aU fun Y=>?_) (aV fun Y=>?_)
 ·refine bE 32 U<|RK AB<|aq fun _ Cp=>WS fun _ Cx=>bE 1 U<|RK Cx<|cj U<|WK Cp<|aq fun _ Lk=>WS fun _ C0=>bE 2 U<|RK C0<|aT U<|WS fun _ C1=>bE 1 U<|RK C1<|bL<|ab<|fD U<|ab<|ab<|aH<|KK C<|WS fun _ C2=>rP 2 [] I ?_
  refine RK C2<|av<|Q1 hQ U U U ?_
  exact cI (jO A (rH hp (fun q=>by have q0:=wm q B; have AA:=q.id; have O:=q.ly; have V:=q.gL; have W:=q.fault; simp only [qz] at O; omega))).symm
 refine rP 7 [0,1] (mc 3 U (mc 1 U I)) ?_
 refine eB (xs:=[.tmp 70]) (cs:=[(vI p.eO)]) U dp ky U U U U (by simp [Value.cells]) U U fun Hi=>?_
 refine rS (CL (dK.eq (iS 0 ((j.Race.aY.length:Int)-1) ([p.eO]) (some ⟨Hi,0,none⟩) 1 (by (simp; done))) cE) (ax (bu 0 U U (by simp [bR]) U)<|aN) U) ?_
 refine rP 2 [] I ?_
 refine cL (t:=74) U (aU fun Z=>?_) (aV fun Z=>?_)
 ·refine bE 21 U<|RK AB<|aq fun _ Bx=>WS fun _ B3=>bE 1 U<|RK B3<|cj U<|WK Bx<|aq fun _ Li=>WS fun _ B9=>bE 2 U<|RK B9<|aT U<|WS fun _ Ci=>bE 1 U<|RK Ci<|bL<|ab<|fD U<|ab<|ab<|aH<|KK C<|WS fun _ Ck=>rP 2 [] I ?_
  refine RK Ck<|av<|Q1 hQ U U U ?_
  exact cI (jO A (rH hp (fun q=>by have q0:=wm q B; have AA:=q.id; have O:=q.ly; have V:=q.gL; have W:=q.fault; simp only [qz] at O; omega))).symm
 refine rP 7 [0,1] (mc 4 U (mc 2 U I)) ?_
 refine eB (xs:=[.tmp 81]) (cs:=[(vI p.fj)]) U dp ky U U U U (by simp [Value.cells]) U U fun H1=>?_
 refine rS (CL (dK.eq (iS 0 ((j.Race.aD.length:Int)-1) ([p.fj]) (some ⟨H1,0,none⟩) 1 (by (simp; done))) cE) (ax (bu 0 U U (by simp [bR]) U)<|aN) U) ?_
 refine rP 2 [] I ?_
 refine cL (t:=85) U (aU fun a=>?_) (aV fun a=>?_)
 ·refine bE 10 U<|RK AB<|aq fun _ A5=>WS fun _ A6=>bE 1 U<|RK A6<|cj U<|WK A5<|aq fun _ La=>WS fun _ A7=>bE 2 U<|RK A7<|aT U<|WS fun _ A8=>bE 1 U<|RK A8<|bL<|ab<|fD U<|ab<|ab<|aH<|KK C<|WS fun _ A9=>rP 2 [] I ?_
  refine RK A9<|av<|Q1 hQ U U U ?_
  exact cI (jO A (rH hp (fun q=>by have q0:=wm q B; have AA:=q.id; have O:=q.ly; have V:=q.gL; have W:=q.fault; simp only [qz] at O; omega))).symm
 refine rP 6 [0,1] (mc 5 U (mc 3 U I)) ?_
 refine eB (xs:=[.tmp 91]) (cs:=[(vI p.ew)]) U dp ky U U U U (by simp [Value.cells]) U U fun IO=>?_
 refine rS (CL (dK.eq (iS 0 ((j.aA.length:Int)-1) ([p.ew]) (some ⟨IO,0,none⟩) 1 (by (simp; done))) cE) (ax (bu 0 U U (by simp [bR]) U)<|aN) U) ?_
 refine bE 2 U<|RK AB<|aq fun _ L=>WS fun _ v=>rP 1 [] I ?_
 refine RK v<|bV U (aU fun T=>?_) (aV fun T=>?_)
 ·refine WK L<|aq fun _ A1=>WS fun _ A2=>rP 2 [] I ?_
  refine RK A2<|bV U (bf fun F=>?_) (bg fun F=>?_)
  ·refine WK A1<|aw<|e9 3 [] (mc 4 U I) U<|aK<|aO<|KK R<|aw<|rP 2 [] I ?_
   refine aK ?_
   have Eu:(vI (pE j (k+1)))=(vI p.Id):=by exact cI (nN hp)
   have FG:(vI (((k+1):Nat):Int))=(vI ((k:Int)+1)):=by exact cI om
   refine a_ (P ⟨(k+1),(by exact absurd F T)⟩ _ _ _ U os (cK 4<|bj U Eu<|bj U FG<|dv.nil _) (aP [5,6,7,8,9,10,11,12,13,14,15,16,17]))
  refine WS fun _ A3=>bE 1 U<|RK A3<|bL<|ab<|fD U<|ab<|ab<|aH<|KK C<|WS fun _ A4=>rP 2 [] I ?_
  refine RK A4<|av<|Q1 hQ U U U ?_
  exact cI (jO A (rH hp (fun q=>by have q0:=wm q B; have AA:=q.id; have O:=q.ly; have V:=q.gL; have W:=q.fault; simp only [qz] at O; omega))).symm
 refine aq fun _ w=>dM cy [11,12] [] [] [0,1,2,3,4,5,6,7,8,9,10,11,12,13,14,15,16,17] [] U U U U U<|eS U (FA 0 U fK U)<|eS U (FA 10 U fK U)<|eS U (L1 (vS heA j.Race.aD.length heC) 6 U cq U U)<|eS U (FA 2 U fK U)<|eS U (L1 (vI p.fj) 4 U cq U U) ?_
 have K4:=(eX A).2
 obtain ⟨ht,K⟩:=aM j.Race.aD ((p.fj).toNat) om
 obtain ⟨E,J⟩:=aM ha ((p.fj).toNat) om
 have Fd:(List.zipWith cP j.Race.aD ha)[(p.fj).toNat]? =some (cP ht E):=dx K J
 refine eS U (IA ((p.fj).toNat) U (aG 14 U) oQ dc om om)<|eS U (gQ ((p.fj).toNat) 0 (vS E.1.1 ht.length E.1.2) U cq (aG 14 U) Fd U dc U)<|eS U (FA 1 U fK U) ?_
 have FS:=Fn.gL _ _ _ K J
 have Lq:=FS.nP
 have L0:=(K4.gL ht (aQ K)).1
 refine eS U (L1 (vI p.eO) 4 U cq U U) ?_
 obtain ⟨d,hd⟩:=aM ht ((p.eO).toNat) om
 obtain ⟨da,J5⟩:=aM E.2 ((p.eO).toNat) om
 have J6:(List.zipWith aC.cells ht E.2)[(p.eO).toNat]? =some (aC.cells d da):=dx hd J5
 refine eS U (IA ((p.eO).toNat) U (show iH _ (rd E.1.1 ht.length 7 (List.zipWith aC.cells ht E.2)).holds from (cY 15 U (bP K J cH))) sh dc om om) ?_
 have M:=pz (j:=j) (p:=p) K hd
 have Os:=FS.sig d (aQ hd)
 refine eS U (lS ((p.eO).toNat) 0 (aR.cells (aR.mk d.Out d.dB d.Time (cN.mk d.bD.Start d.bD.gf (bx.mk da.1 d.bD.ag.length da.2)))) U cq (show iH _ (rd E.1.1 ht.length 7 (List.zipWith aC.cells ht E.2)).holds from (cY 15 U (bP K J cH))) J6 U dc U U)<|eC U<|cv U fun T43 Di=>AL U Cu fun OK=>aK (Di _ _ (aP [1,2,3,4,5,6,7,8,9,10,11,12,13,14,15,16,17,18]) ?_)
 refine cv U fun T45 Do=>fR U Gg U<|aK (Do _ _ (aP [1,2,3,4,5,6,7,8,9,10,11,12,13,14,15,16,17,18]) ?_)
 refine fP U<|KK w<|aw<|e9 1 [] (mc 0 U I) U<|rS (CL (tD d.Out d.dB d.Time (cN.mk d.bD.Start d.bD.gf (bx.mk da.1 d.bD.ag.length da.2))) (aN) U)<|rP 1 [] I ?_
 refine cL (t:=109) U (aU fun H=>?_) (aV fun H=>?_)
 ·refine bE 9 U<|RK L<|aq fun _ LT=>WS fun _ AO=>bE 2 U<|RK AO<|aT U<|WS fun _ Am=>bE 1 U<|RK Am<|bL<|ab<|fD U<|ab<|ab<|aH<|KK C<|WS fun _ A0=>rP 2 [] I ?_
  refine RK A0<|av<|Q1 hQ U U U ?_
  exact cI (jO A (rH hp (fun q=>by obtain ⟨d2,X,r1,r2⟩:=q.jS; rw [M] at X; cases X; first|exact H r1|omega))).symm
 refine rP 5 [0,1] (mc 0 U (mc 5 U I)) ?_
 refine eB (xs:=[.tmp 114]) (cs:=[(vI p.At)]) U dp ky U U U U (by simp [Value.cells]) U U fun IP=>?_
 refine rS (CL (dK.eq (iS d.bD.Start 86400000 ([p.At]) (some ⟨IP,0,none⟩) 1 (by (simp; done))) cE) (ax (bu 0 U U (by simp [bR]) U)<|aN) U) ?_
 refine bE 2 U<|RK L<|aq fun _ x=>WS fun _ y=>rP 2 [] I ?_
 refine RK y<|bV U (bf fun F=>?_) (bg fun F=>?_)
 ·refine WK x<|aw<|e9 3 [] (mc 6 U I) U<|aK<|aO<|KK R<|aw<|rP 2 [] I ?_
  refine aK ?_
  have EQ:(vI (pE j (k+1)))=(vI p.Id):=by exact cI (nN hp)
  have Eq:(vI (((k+1):Nat):Int))=(vI ((k:Int)+1)):=by exact cI om
  refine a_ (P ⟨(k+1),(by exact ⟨om,sO D hp (Nf hp Y J8.1 Z a T M H F)⟩)⟩ _ _ _ U os (cK 4<|bj U EQ<|bj U Eq<|dv.nil _) (aP [7,8,9,10,11,12,13,14,15,16,17,18,19]))
 refine WS fun _ AC=>bE 1 U<|RK AC<|bL<|ab<|fD U<|ab<|ab<|aH<|KK C<|WS fun _ AN=>rP 2 [] I ?_
 refine RK AN<|av<|Q1 hQ U U U ?_
 exact cI (jO A (rH hp (fun q=>by obtain ⟨d2,X,r1,r2⟩:=q.jS; rw [M] at X; cases X; first|exact H r1|omega))).symm
theorem ue (j:bS) (kA:OA) (kC:Nat) (az:List RA) (cA:OA) (cC:Nat) (bA:OA) (bC:Nat) (slA:OA) (slC:Nat) (drA:OA) (drC:Nat) (ha:List cZ) (heA:OA) (heC:Nat) (faA:OA) (faC:Nat) (prA:OA) (prC:Nat) (hin:gp j az ha):
 dK Tryz.prog 29 [(vA (du.cells (mZ j kA kC cA cC bA bC slA slC drA drC heA heC faA faC prA prC)))] [(rd gV 3 2 fW),(rd kA j.Race.ar.aS.length 9 (j.Race.ar.aS.map au.cells)),(rd cA j.Race.ar.aj.length 2 (List.zipWith ay.cells j.Race.ar.aj az)),(dU (bo ay.gn j.Race.ar.aj az)),(rd bA j.Race.ar.aa.length 4 (j.Race.ar.aa.map bK.cells)),(rd slA j.Race.aY.length 1 (j.Race.aY.map iC)),(rd drA j.Race.cd.length 1 (j.Race.cd.map iC)),(rd heA j.Race.aD.length 1 (List.zipWith cP j.Race.aD ha)),(dU (bo fg j.Race.aD ha)),(rd faA j.aA.length 4 (j.aA.map aW.cells)),(rd prA j.ao.length 5 (j.ao.map aJ.cells))] (vT [(vA (df.cells (df.mk (mZ j kA kC cA cC bA bC slA slC drA drC heA heC faA faC prA prC)))),(vI (db j))]):=by
 refine bG kr Tryz.func29 U U fun E Q hQ hN=>?_
 try dsimp only
 refine WS fun _ A=>eL U fun C=>AL U Ht fun D=>bE 1 U<|RK A<|aq fun _ B=>dA cy 4 kr<|lR 1 [] (mc 1 U I) U<|dS (SX (bq (xs:=[(0,.tmp 4)]) (cs:=(df.cells (df.mk (mZ j kA kC cA cC bA bC slA slC drA drC heA heC faA faC prA prC)))) U U (bp Un U)) U U)<|lR 1 [] (mc 1 U I) U<|dS (CL (JC j kA kC az cA cC bA bC slA slC drA drC ha heA heC faA faC prA prC hin) (bw [2,3,4,5,6,7,8,9,10,11,12]) U)<|cM<|fR U GZ U<|rP 1 [] I ?_
 refine RK B<|av<|mY hQ [0] (mc 0 U I) U ?_
 rfl
end
section
open Go.RowKit
theorem Mi (j:bS) (kA:OA) (kC:Nat) (az:List RA) (cA:OA) (cC:Nat) (bA:OA) (bC:Nat) (slA:OA) (slC:Nat) (drA:OA) (drC:Nat) (ha:List cZ) (heA:OA) (heC:Nat) (faA:OA) (faC:Nat) (prA:OA) (prC:Nat) (kq hq sq:Int) (hin:gp j az ha):
 dK Tryz.prog 12 [(vA (du.cells (mZ j kA kC cA cC bA bC slA slC drA drC heA heC faA faC prA prC))),(vI kq),(vI hq),(vI sq)] [(rd gV 3 2 fW),(rd kA j.Race.ar.aS.length 9 (j.Race.ar.aS.map au.cells)),(rd cA j.Race.ar.aj.length 2 (List.zipWith ay.cells j.Race.ar.aj az)),(dU (bo ay.gn j.Race.ar.aj az)),(rd bA j.Race.ar.aa.length 4 (j.Race.ar.aa.map bK.cells)),(rd slA j.Race.aY.length 1 (j.Race.aY.map iC)),(rd drA j.Race.cd.length 1 (j.Race.cd.map iC)),(rd heA j.Race.aD.length 1 (List.zipWith cP j.Race.aD ha)),(dU (bo fg j.Race.aD ha)),(rd faA j.aA.length 4 (j.aA.map aW.cells)),(rd prA j.ao.length 5 (j.ao.map aJ.cells))] (vT [(Value.int .u8 (pM j kq hq sq)),(vI (oR j kq hq sq))]):=by
 have O:=hin.race
 have n:=hin.race.line
 have AC:=hin.race.iE
 have AN:=hin.race.has
 have x:=hin.race.iB
 have r:=hin.nf
 have w:=hin.np
 refine bG kr Tryz.func12 U U fun w0 Q hQ hN=>?_
 try dsimp only
 refine WS fun _ W=>eL U fun b2=>bE 2 U<|RK W<|WS fun _ X=>e9 1 [] (mc 0 U I) U<|rS (CL (ue j kA kC az cA cC bA bC slA slC drA drC ha heA heC faA faC prA prC hin) (bw [1,2,3,4,5,6,7,8,9,10,11]) U)<|bE 3 U<|AL U Ht fun b4=>fR U GZ U<|bE 1 U<|RK X<|aq fun _ Y=>WS fun _ Z=>rP 2 [] I ?_
 refine RK Z<|cw U (bg fun B=>?_) (bf fun B=>?_)
 ·refine WS fun _ a=>rP 3 [] I ?_
  refine RK a<|av<|Q2 hQ U U U U ?_
  (have e:=Ge (k:=kq) (h:=hq) (s:=sq) B; rw [e.1,e.2]; done)
 refine WK Y<|aq fun _ b=>WS fun _ E=>rP 5 [] (mc 1 U I) ?_
 refine eB (xs:=[.tmp 24]) (cs:=[(vI kq)]) U dp ky U U U U (by simp [Value.cells]) U U fun P=>?_
 refine rS (CL (dK.eq (iS 0 ((j.aA.length:Int)-1) ([kq]) (some ⟨P,0,none⟩) 1 (by (simp; done))) cE) (ax (bu 0 U U (by simp [bR]) U)<|aN) U) ?_
 refine rP 2 [] I ?_
 refine bZ (t:=28) U (bg fun T=>?_) (bf fun T=>?_)
 ·refine bE 21 U<|RK E<|aT U<|WS fun _ F=>rP 2 [] I ?_
  refine RK F<|av<|Q2 hQ U U U U ?_
  (have e:=vq (k:=kq) (h:=hq) (s:=sq) B (fun q=>by unfold mx at q; omega); rw [e.1,e.2]; done)
 refine rP 6 [] (mc 2 U I) ?_
 refine eB (xs:=[.tmp 34]) (cs:=[(vI hq)]) U dp ky U U U U (by simp [Value.cells]) U U fun R=>?_
 refine rS (CL (dK.eq (iS 0 ((j.Race.aD.length:Int)-1) ([hq]) (some ⟨R,0,none⟩) 1 (by (simp; done))) cE) (ax (bu 0 U U (by simp [bR]) U)<|aN) U) ?_
 refine rP 3 [] I ?_
 refine bZ (t:=39) U (bg fun AA=>?_) (bf fun AA=>?_)
 ·refine bE 10 U<|RK E<|aT U<|WS fun _ G=>rP 2 [] I ?_
  refine RK G<|av<|Q2 hQ U U U U ?_
  (have e:=vq (k:=kq) (h:=hq) (s:=sq) B (fun q=>by unfold mx at q; omega); rw [e.1,e.2]; done)
 refine rP 6 [] (mc 3 U I) ?_
 refine eB (xs:=[.tmp 45]) (cs:=[(vI sq)]) U dp ky U U U U (by simp [Value.cells]) U U fun S=>?_
 refine rS (CL (dK.eq (iS 0 ((j.Race.aY.length:Int)-1) ([sq]) (some ⟨S,0,none⟩) 1 (by (simp; done))) cE) (ax (bu 0 U U (by simp [bR]) U)<|aN) U) ?_
 refine rP 2 [] I ?_
 refine RK E<|cw U (bg fun V=>?_) (bf fun V=>?_)
 ·refine WS fun _ H=>rP 2 [] I ?_
  refine RK H<|av<|Q2 hQ U U U U ?_
  (have e:=vq (k:=kq) (h:=hq) (s:=sq) B (fun q=>by unfold mx at q; omega); rw [e.1,e.2]; done)
 refine WK b<|aq fun _ AB=>dA cy 18 kr<|dP 4 [0,1] (mc 3 U (mc 4 U I)) ?_
 have N:=(eE B).1
 have l:=(eE B).2
 have m:=(eX N).1
 have o:=(eX N).2
 have i:=(dZ m).2.head
 unfold fp at i
 obtain ⟨f,hf⟩:=aM j.aA ((kq).toNat) om
 have g:=bO aW.cells hf
 refine dS (IA ((kq).toNat) U (aG 14 U) Ap dc om om)<|dS (lS ((kq).toNat) 0 (aW.cells f) U cq (aG 14 U) g U dc U U)<|dP 4 [] (mc 4 U I) ?_
 obtain ⟨ht,D⟩:=aM j.Race.aD ((hq).toNat) om
 obtain ⟨A,C⟩:=aM ha ((hq).toNat) om
 have M:(List.zipWith cP j.Race.aD ha)[(hq).toNat]? =some (cP ht A):=dx D C
 refine dS (IA ((hq).toNat) U (aG 12 U) oQ dc om om) ?_
 have L:=O.gL _ _ _ D C
 have u:=L.nP
 have v:=(o.gL ht (aQ D)).1
 refine dS (gQ ((hq).toNat) 0 (vS A.1.1 ht.length A.1.2) U cq (aG 12 U) M U dc U)<|dP 1 [] I ?_
 have p:=L.sig
 have K:=l.fault f (aQ hf)
 have z:0≤f.ig∧f.ig≤1000000:=by have y:=K.2.2; split at y<;>omega
 obtain ⟨d,hd⟩:=aM ht ((sq).toNat) om
 obtain ⟨da,J⟩:=aM A.2 ((sq).toNat) om
 have c:(List.zipWith aC.cells ht A.2)[(sq).toNat]? =some (aC.cells d da):=dx hd J
 refine dS (IA ((sq).toNat) U (show iH _ (rd A.1.1 ht.length 7 (List.zipWith aC.cells ht A.2)).holds from (cY 13 U (bP D C cH))) sh dc om om)<|dS (lS ((sq).toNat) 0 (aR.cells (aR.mk d.Out d.dB d.Time (cN.mk d.bD.Start d.bD.gf (bx.mk da.1 d.bD.ag.length da.2)))) U cq (show iH _ (rd A.1.1 ht.length 7 (List.zipWith aC.cells ht A.2)).holds from (cY 13 U (bP D C cH))) c U dc U U) ?_
 have AO:=p d (aQ hd)
 refine dS (CL (z4 j kA kC az cA cC bA bC slA slC drA drC ha heA heC faA faC prA prC f d da.1 da.2 hin (by exact K.1) asm asm) (oP [6,7,8,9,10,11,12,13,14,15]<|ax (show iH _ (rd da.1 d.bD.ag.length 2 (d.bD.ag.map aI.cells)).holds from (cY 13 U (bP D C (dR _ (bP hd J (by simp [aC.gn]))))))<|aN) U)<|dP 2 [] I ?_
 refine cM<|RK AB<|av<|Q2 hQ U U U U ?_
 (have e:=ua (k:=kq) (h:=hq) (s:=sq) B (by unfold mx; omega) hf D hd; rw [e.1,e.2]; done)
theorem PQ (j:bS) (kA:OA) (kC:Nat) (az:List RA) (cA:OA) (cC:Nat) (bA:OA) (bC:Nat) (slA:OA) (slC:Nat) (drA:OA) (drC:Nat) (ha:List cZ) (heA:OA) (heC:Nat) (faA:OA) (faC:Nat) (prA:OA) (prC:Nat) (iq:Int) (hin:gp j az ha):
 dK Tryz.prog 13 [(vA (du.cells (mZ j kA kC cA cC bA bC slA slC drA drC heA heC faA faC prA prC))),(vI iq)] [(rd gV 3 2 fW),(rd kA j.Race.ar.aS.length 9 (j.Race.ar.aS.map au.cells)),(rd cA j.Race.ar.aj.length 2 (List.zipWith ay.cells j.Race.ar.aj az)),(dU (bo ay.gn j.Race.ar.aj az)),(rd bA j.Race.ar.aa.length 4 (j.Race.ar.aa.map bK.cells)),(rd slA j.Race.aY.length 1 (j.Race.aY.map iC)),(rd drA j.Race.cd.length 1 (j.Race.cd.map iC)),(rd heA j.Race.aD.length 1 (List.zipWith cP j.Race.aD ha)),(dU (bo fg j.Race.aD ha)),(rd faA j.aA.length 4 (j.aA.map aW.cells)),(rd prA j.ao.length 5 (j.ao.map aJ.cells))] (vT [(Value.int .u8 (vY j iq)),(vI (tP j iq))]):=by
 have R:=hin.race
 have M:=hin.race.line
 have T:=hin.race.iE
 have AA:=hin.race.has
 have S:=hin.race.iB
 have O:=hin.nf
 have P:=hin.np
 refine bG kr Tryz.func13 U U fun X Q hQ hN=>?_
 try dsimp only
 refine WS fun _ F=>eL U fun V=>bE 2 U<|RK F<|WS fun _ G=>e9 1 [] (mc 0 U I) U<|rS (CL (ue j kA kC az cA cC bA bC slA slC drA drC ha heA heC faA faC prA prC hin) (bw [1,2,3,4,5,6,7,8,9,10,11]) U)<|bE 3 U<|AL U Ht fun W=>fR U GZ U<|bE 1 U<|RK G<|aq fun _ H=>WS fun _ AB=>rP 2 [] I ?_
 refine RK AB<|cw U (bg fun A=>?_) (bf fun A=>?_)
 ·refine WS fun _ J=>rP 3 [] I ?_
  refine RK J<|av<|Q2 hQ U U U U ?_
  (have e:=H6 (i:=iq) A; rw [e.1,e.2]; done)
 refine WK H<|aq fun _ K=>WS fun _ L=>rP 5 [] (mc 1 U I) ?_
 refine eB (xs:=[.tmp 20]) (cs:=[(vI iq)]) U dp ky U U U U (by simp [Value.cells]) U U fun D=>?_
 refine rS (CL (dK.eq (iS 0 ((j.ao.length:Int)-1) ([iq]) (some ⟨D,0,none⟩) 1 (by (simp; done))) cE) (ax (bu 0 U U (by simp [bR]) U)<|aN) U) ?_
 refine rP 1 [] I ?_
 refine RK L<|cw U (bg fun E=>?_) (bf fun E=>?_)
 ·refine WS fun _ B=>rP 2 [] I ?_
  refine RK B<|av<|Q2 hQ U U U U ?_
  (have e:=IJ (i:=iq) A om; rw [e.1,e.2]; done)
 refine WK K<|aq fun _ C=>dA cy 9 kr<|dP 4 [0,1] (mc 1 U (mc 2 U I)) ?_
 obtain ⟨p,hp⟩:=aM j.ao ((iq).toNat) om
 have N:=bO aJ.cells hp
 refine dS (IA ((iq).toNat) U (aG 13 U) yq dc om om)<|dS (lS ((iq).toNat) 0 (aJ.cells p) U cq (aG 13 U) N U dc U U)<|dS (CL (Jy j kA kC az cA cC bA bC slA slC drA drC ha heA heC faA faC prA prC p hin asm (by exact ⟨_,hp⟩)) (bw [4,5,6,7,8,9,10,11,12,13]) U)<|dP 2 [] I ?_
 refine cM<|RK C<|av<|Q2 hQ U U U U ?_
 (have e:=Ay (i:=iq) A om hp; rw [e.1,e.2]; done)
theorem o9 (j:bS) (kA:OA) (kC:Nat) (az:List RA) (cA:OA) (cC:Nat) (bA:OA) (bC:Nat) (slA:OA) (slC:Nat) (drA:OA) (drC:Nat) (ha:List cZ) (heA:OA) (heC:Nat) (faA:OA) (faC:Nat) (prA:OA) (prC:Nat) (hin:gp j az ha):
 p9 Tryz.prog 10 [(vA (du.cells (mZ j kA kC cA cC bA bC slA slC drA drC heA heC faA faC prA prC)))] [(rd gV 3 2 fW),(rd kA j.Race.ar.aS.length 9 (j.Race.ar.aS.map au.cells)),(rd cA j.Race.ar.aj.length 2 (List.zipWith ay.cells j.Race.ar.aj az)),(dU (bo ay.gn j.Race.ar.aj az)),(rd bA j.Race.ar.aa.length 4 (j.Race.ar.aa.map bK.cells)),(rd slA j.Race.aY.length 1 (j.Race.aY.map iC)),(rd drA j.Race.cd.length 1 (j.Race.cd.map iC)),(rd heA j.Race.aD.length 1 (List.zipWith cP j.Race.aD ha)),(dU (bo fg j.Race.aD ha)),(rd faA j.aA.length 4 (j.aA.map aW.cells)),(rd prA j.ao.length 5 (j.ao.map aJ.cells))] (fun (x:(OA)×Nat)=>(vT [(vS x.1 ((cb j).length) x.2),(vI (db j))])) (fun (x:(OA)×Nat)=>True) (fun (x:(OA)×Nat)=>[(own x.1 x.2 3 1 ((cb j).map iC))]):=by
 have S:=hin.race
 have L:=hin.race.line
 have V:=hin.race.iE
 have W:=hin.race.has
 have T:=hin.race.iB
 have P:=hin.nf
 have R:=hin.np
 refine fF kr Tryz.func10 U U fun a Q hQ hN=>?_
 try dsimp only
 refine WS fun _ E=>eL U fun Y=>bE 1 U<|bE 1 U<|RK E<|WS fun _ F=>e9 1 [] (mc 0 U I) U<|rS (CL (ue j kA kC az cA cC bA bC slA slC drA drC ha heA heC faA faC prA prC hin) (bw [1,2,3,4,5,6,7,8,9,10,11]) U)<|bE 3 U<|AL U Ht fun Z=>fR U GZ U<|bE 1 U<|RK F<|aq fun _ G=>WS fun _ H=>rP 2 [] I ?_
 refine RK H<|cw U (bg fun A=>?_) (bf fun A=>?_)
 ·refine WS fun _ AB=>lk 3 1 ?_
  rw [show (own none 0 3 1 ([]:List (List Value)))=own none 0 3 1 ((cb j).map iC) from by rw [xN A]; rfl]
  refine bE 2 U<|rP 1 [] I ?_
  refine RK AB<|av ?_
  refine LX hQ (none,0) [0] [] I U U U ?_ ?_
  ·(rw [xN A]; rfl)
  ·trivial
 refine WK G<|WS fun _ J=>rP 3 [0,1] (mc 1 U (mc 0 U I)) ?_
 refine rS (FU U) ?_
 refine cX (Af j.ao prA prC (Value.func (.func 31) [(vA (df.cells (df.mk (mZ j kA kC cA cC bA bC slA slC drA drC heA heC faA faC prA prC))))].toArray [].toArray) (fun N B=>(f_ j B)) (dU [(rd kA j.Race.ar.aS.length 9 (j.Race.ar.aS.map au.cells)),(rd cA j.Race.ar.aj.length 2 (List.zipWith ay.cells j.Race.ar.aj az)),(dU (bo ay.gn j.Race.ar.aj az)),(rd bA j.Race.ar.aa.length 4 (j.Race.ar.aa.map bK.cells)),(rd slA j.Race.aY.length 1 (j.Race.aY.map iC)),(rd drA j.Race.cd.length 1 (j.Race.cd.map iC)),(rd heA j.Race.aD.length 1 (List.zipWith cP j.Race.aD ha)),(dU (bo fg j.Race.aD ha)),(rd faA j.aA.length 4 (j.aA.map aW.cells)),(rd prA j.ao.length 5 (j.ao.map aJ.cells))]) (by intro N B M; exact k9 (fi:=[(vA (df.cells (df.mk (mZ j kA kC cA cC bA bC slA slC drA drC heA heC faA faC prA prC))))]) (ca:=[]) (jY (vt j kA kC az cA cC bA bC slA slC drA drC ha heA heC faA faC prA prC N B asm asm (by (obtain ⟨X,_,K⟩:=M; exact ⟨X,K⟩))) (bw [0,1,2,3,4,5,6,7,8,9]))) asm) (gj 12 rfl rfl<|ax (jV (bw [3,4,5,6,7,8,9,10,11,12]))<|aN) rfl fun O AA=>?_
 obtain ⟨C,D⟩:=O
 try dsimp only
 refine rP 1 [] I ?_
 rw [show (ml (ir j.ao (fun N B=>(f_ j B))) j.ao.length)=cb j from by rw [j3 A]; rfl]
 refine rP 1 [] I ?_
 refine RK J<|av ?_
 refine LX hQ (C,D) [0] [] I U U U ?_ ?_
 ·(rw [A]; rfl)
 ·trivial
theorem Mx (j:bS) (kA:OA) (kC:Nat) (az:List RA) (cA:OA) (cC:Nat) (bA:OA) (bC:Nat) (slA:OA) (slC:Nat) (drA:OA) (drC:Nat) (ha:List cZ) (heA:OA) (heC:Nat) (faA:OA) (faC:Nat) (prA:OA) (prC:Nat) (hin:gp j az ha):
 dK Tryz.prog 15 [(vA (du.cells (mZ j kA kC cA cC bA bC slA slC drA drC heA heC faA faC prA prC)))] [(rd gV 3 2 fW),(rd kA j.Race.ar.aS.length 9 (j.Race.ar.aS.map au.cells)),(rd cA j.Race.ar.aj.length 2 (List.zipWith ay.cells j.Race.ar.aj az)),(dU (bo ay.gn j.Race.ar.aj az)),(rd bA j.Race.ar.aa.length 4 (j.Race.ar.aa.map bK.cells)),(rd slA j.Race.aY.length 1 (j.Race.aY.map iC)),(rd drA j.Race.cd.length 1 (j.Race.cd.map iC)),(rd heA j.Race.aD.length 1 (List.zipWith cP j.Race.aD ha)),(dU (bo fg j.Race.aD ha)),(rd faA j.aA.length 4 (j.aA.map aW.cells)),(rd prA j.ao.length 5 (j.ao.map aJ.cells))] (vT [(vI (zE j)),(vI (zW j)),(vI (db j))]):=by
 have R:=hin.race
 have M:=hin.race.line
 have Y:=hin.race.iE
 have Z:=hin.race.has
 have S:=hin.race.iB
 have O:=hin.nf
 have P:=hin.np
 refine bG kr Tryz.func15 U U fun k Q hQ hN=>?_
 try dsimp only
 refine WS fun _ G=>eL U fun f=>bE 3 U<|RK G<|WS fun _ H=>rP 1 [] (mc 0 U I) ?_
 refine cX (o9 j kA kC az cA cC bA bC slA slC drA drC ha heA heC faA faC prA prC hin) (bw [1,2,3,4,5,6,7,8,9,10,11]) U fun c b=>?_
 obtain ⟨d,g⟩:=c
 try dsimp only
 refine bE 5 U<|RK H<|aq fun _ AB=>WS fun _ J=>rP 2 [] I ?_
 refine RK J<|cw U (bg fun A=>?_) (bf fun A=>?_)
 ·refine WS fun _ D=>rP 4 [] I ?_
  refine RK D<|av<|Q3 hQ U U U U U ?_
  (have e:=GV A; rw [e.1,e.2]; done)
 refine WK AB<|WS fun _ E=>?_
 have C:=(eE A).2
 have X:(cb j).length≤8:=by have h:=C.np; have i:=yl (j:=j); rw [j3 A]; omega
 have B:=C.kY
 have N:=C.np
 have K:=DC (a:=((cb j).length:Int)) ⟨om,om⟩ B
 have L:=DC (a:=(j.ao.length:Int)) ⟨om,om⟩ B
 have T:=Int.mul_le_mul_of_nonneg_right (show (0:Int)≤((cb j).length:Int) by omega) B.1
 have AA:=Int.mul_le_mul_of_nonneg_right (show ((cb j).length:Int)≤8 by omega) B.1
 have V:=Int.mul_le_mul_of_nonneg_right (show (0:Int)≤(j.ao.length:Int) by omega) B.1
 have W:=Int.mul_le_mul_of_nonneg_right N B.1
 refine e9 4 [] (mc 1 U I) U<|rS (BI U (tQ K))<|bE 1 U<|RK E<|aq fun _ F=>dA cy 12 kr<|lR 6 [] (mc 1 U I) U<|dS (BI U (tQ L))<|dP 5 [] I ?_
 refine cM<|RK F<|av<|Q3 hQ U U U U U ?_
 (have e:=wW A; rw [e.1,e.2,A,j3 A]; rfl)
theorem H9 (i:Int) (p:aJ) (sq:Int) (g1:Nat) (j:bS) (kA:OA) (kC:Nat) (az:List RA) (cA:OA) (cC:Nat) (bA:OA) (bC:Nat) (slA:OA) (slC:Nat) (drA:OA) (drC:Nat) (ha:List cZ) (heA:OA) (heC:Nat) (faA:OA) (faC:Nat) (prA:OA) (prC g2:Nat) (hin:gp j az ha) (hok:db j=0) (hp: ∃ i:Nat,j.ao[i]? =some p):
 dK Tryz.prog 36 [(vI i),(vA (aJ.cells p)),(vP g1),(vP g2)] [(cx g1 3 [(vI sq)]),(rd kA j.Race.ar.aS.length 9 (j.Race.ar.aS.map au.cells)),(rd cA j.Race.ar.aj.length 2 (List.zipWith ay.cells j.Race.ar.aj az)),(dU (bo ay.gn j.Race.ar.aj az)),(rd bA j.Race.ar.aa.length 4 (j.Race.ar.aa.map bK.cells)),(rd slA j.Race.aY.length 1 (j.Race.aY.map iC)),(rd drA j.Race.cd.length 1 (j.Race.cd.map iC)),(rd heA j.Race.aD.length 1 (List.zipWith cP j.Race.aD ha)),(dU (bo fg j.Race.aD ha)),(rd faA j.aA.length 4 (j.aA.map aW.cells)),(rd prA j.ao.length 5 (j.ao.map aJ.cells)),(cx g2 93 (df.cells (df.mk (mZ j kA kC cA cC bA bC slA slC drA drC heA heC faA faC prA prC))))] (vB (AB j sq p)):=by
 refine bG kr Tryz.func36 U U fun E Q hQ hN=>?_
 try dsimp only
 refine WS fun _ C=>eL U fun D=>bE 1 U<|RK C<|WS fun _ B=>rP 5 [0,1] (mc 0 U (mr 1 U I)) ?_
 refine cL (t:=11) U (aU fun A=>?_) (aV fun A=>?_)
 ·refine rP 7 [] I ?_
  refine RK B<|av<|Q1 hQ U U U ?_
  (rw [Nv A]; done)
 refine e9 3 [0,1] (mr 12 U (mc 0 U I)) U<|rS (CL (vt j kA kC az cA cC bA bC slA slC drA drC ha heA heC faA faC prA prC i p hin hok hp) (bw [2,3,4,5,6,7,8,9,10,11]) U)<|rP 3 [] I ?_
 refine RK B<|av<|Q1 hQ U U U ?_
 (rw [K6 A]; done)
theorem Lt (j:bS) (kA:OA) (kC:Nat) (az:List RA) (cA:OA) (cC:Nat) (bA:OA) (bC:Nat) (slA:OA) (slC:Nat) (drA:OA) (drC:Nat) (ha:List cZ) (heA:OA) (heC:Nat) (faA:OA) (faC:Nat) (prA:OA) (prC:Nat) (sq:Int) (hin:gp j az ha):
 dK Tryz.prog 16 [(vA (du.cells (mZ j kA kC cA cC bA bC slA slC drA drC heA heC faA faC prA prC))),(vI sq)] [(rd gV 3 2 fW),(rd kA j.Race.ar.aS.length 9 (j.Race.ar.aS.map au.cells)),(rd cA j.Race.ar.aj.length 2 (List.zipWith ay.cells j.Race.ar.aj az)),(dU (bo ay.gn j.Race.ar.aj az)),(rd bA j.Race.ar.aa.length 4 (j.Race.ar.aa.map bK.cells)),(rd slA j.Race.aY.length 1 (j.Race.aY.map iC)),(rd drA j.Race.cd.length 1 (j.Race.cd.map iC)),(rd heA j.Race.aD.length 1 (List.zipWith cP j.Race.aD ha)),(dU (bo fg j.Race.aD ha)),(rd faA j.aA.length 4 (j.aA.map aW.cells)),(rd prA j.ao.length 5 (j.ao.map aJ.cells))] (vT [(vI (sJ j sq)),(vI (qK j sq))]):=by
 have c:=hin.race
 have W:=hin.race.line
 have i:=hin.race.iE
 have k:=hin.race.has
 have d:=hin.race.iB
 have Z:=hin.nf
 have b:=hin.np
 refine bG kr Tryz.func16 U U fun q Q hQ hN=>?_
 try dsimp only
 refine WS fun _ M=>eL U fun o=>wq U U fun AC=>bE 2 U<|RK M<|WS fun _ N=>e9 1 [] (mc 1 U I) U<|rS (CL (ue j kA kC az cA cC bA bC slA slC drA drC ha heA heC faA faC prA prC hin) (bw [2,3,4,5,6,7,8,9,10,11,12]) U)<|bE 3 U<|AL U Ht fun J=>fR U GZ U<|bE 1 U<|RK N<|aq fun _ O=>WS fun _ P=>rP 2 [] I ?_
 refine RK P<|cw U (bg fun A=>?_) (bf fun A=>?_)
 ·refine WS fun _ R=>rP 3 [] I ?_
  refine RK R<|av<|Q2 hQ U U U U ?_
  (have e:=F7 (s:=sq) A; rw [e.1,e.2]; done)
 refine WK O<|aq fun _ S=>WS fun _ C=>rP 6 [0,1] (mc 2 U (mc 1 U I)) ?_
 refine eB (xs:=[.tmp 22]) (cs:=[(vI sq)]) U dp ky U U U U (by simp [Value.cells]) U U fun K=>?_
 refine rS (CL (dK.eq (iS 0 ((j.Race.aY.length:Int)-1) ([sq]) (some ⟨K,0,none⟩) 1 (by (simp; done))) cE) (ax (bu 0 U U (by simp [bR]) U)<|aN) U) ?_
 refine rP 1 [] I ?_
 refine RK C<|cw U (bg fun L=>?_) (bf fun L=>?_)
 ·refine WS fun _ D=>rP 2 [] I ?_
  refine RK D<|av<|Q2 hQ U U U U ?_
  (have e:=Gf (s:=sq) A om; rw [e.1,e.2]; done)
 refine WK S<|WS fun _ E=>rP 2 [] (mc 3 U I) ?_
 refine rS (FU U) ?_
 refine cX (Af j.ao prA prC (Value.func (.func 36) [].toArray [(vP AC),(vP J)].toArray) (fun H B=>(AB j sq B)) (dU [(cx AC 3 [(vI sq)]),(rd kA j.Race.ar.aS.length 9 (j.Race.ar.aS.map au.cells)),(rd cA j.Race.ar.aj.length 2 (List.zipWith ay.cells j.Race.ar.aj az)),(dU (bo ay.gn j.Race.ar.aj az)),(rd bA j.Race.ar.aa.length 4 (j.Race.ar.aa.map bK.cells)),(rd slA j.Race.aY.length 1 (j.Race.aY.map iC)),(rd drA j.Race.cd.length 1 (j.Race.cd.map iC)),(rd heA j.Race.aD.length 1 (List.zipWith cP j.Race.aD ha)),(dU (bo fg j.Race.aD ha)),(rd faA j.aA.length 4 (j.aA.map aW.cells)),(rd prA j.ao.length 5 (j.ao.map aJ.cells)),(cx J 93 (df.cells (df.mk (mZ j kA kC cA cC bA bC slA slC drA drC heA heC faA faC prA prC))))]) (by intro H B X; exact k9 (fi:=[]) (ca:=[(vP AC),(vP J)]) (jY (H9 H B sq AC j kA kC az cA cC bA bC slA slC drA drC ha heA heC faA faC prA prC J asm asm (by (obtain ⟨n,_,V⟩:=X; exact ⟨n,V⟩))) (bw [0,1,2,3,4,5,6,7,8,9,10,11]))) asm) (gj 14 rfl rfl<|ax (jV (bw [2,5,6,7,8,9,10,11,12,13,14,1]))<|aN) rfl fun Y f=>?_
 obtain ⟨g,h⟩:=Y
 try dsimp only
 refine bE 1 U<|RK E<|WS fun _ F=>rP 1 [] I ?_
 have G:=(eE A).2
 have m:=G.np
 have AA:=G.kY
 have l:(ml (ir j.ao fun _ p=>AB j sq p) j.ao.length).length≤8:=Nat.le_trans oZ om
 have T:=DC (a:= -(((ml (ir j.ao fun _ p=>AB j sq p) j.ao.length).length:Nat):Int)) ⟨om,om⟩ AA
 refine bE 1 U<|rS (NG U ⟨om,om⟩)<|e9 2 [] (mc 4 U I) U<|rS (BI U (tQ T))<|rP 2 [] I ?_
 refine RK F<|av<|Q2 hQ U U U U ?_
 (have e:=Ie (s:=sq) A om; rw [e.1,e.2]; done)
end
section
open Go.RowKit
theorem H_ (l:List aW) (lA:OA) (lC:Nat) (f:Value) (p:aW→Bool) (X:aB) (hf: ∀ x0,x0∈l→DD Tryz.prog f [.agg (aW.cells x0).toArray] [X] (.bool (p x0))) (hlen:l.length≤1000000):
 dK Tryz.prog 90 [(vS lA l.length lC),f] [(rd lA l.length 4 (l.map aW.cells)),X] (vI (sD p l)):=by
 refine bG kr Tryz.func90 U U fun R Q hQ hN=>?_
 try dsimp only
 refine WS fun _ G=>bE 1 U<|RK G<|aq fun _ H=>WS fun _ AA=>rP 3 [] I ?_
 refine RK AA<|aF ?_
 have B:(0≤l.length)∧((l.take 0).any p=false):=by simp
 refine bQ (ι:={z:Nat // (z≤l.length)∧((l.take z).any p=false)}) [0,1,7] [0,1] U U (fun z=>[(8,(vI (z.1:Int)))]) (fun z=>[]) (fun _=>rfl) (fun _=>rfl) (fun z=>l.length-z.1) ⟨0,B⟩ (bk U) (aP [0,1]) ?_
 clear B
 rintro ⟨i,⟨N,A⟩⟩ J4 F
 try dsimp only
 refine WS fun _ J=>rP 1 [] I ?_
 refine RK J<|aq fun _ K=>bV U (aU fun P=>?_) (aV fun P=>?_)
 ·refine bL<|ab<|ab<|aH<|KK H<|WS fun _ E=>rP 1 [] I ?_
  refine RK E<|av<|Q1 hQ U U U ?_
  exact cI (pJ om A).symm
 refine WK K<|aq fun _ L=>aF<|WS fun _ M=>bE 2 U<|RK M<|WS fun _ C=>rP 3 [] I ?_
 obtain ⟨x,hx⟩:=aM l i om
 have O:=bO aW.cells hx
 refine rS (IA i U (aG 0 U) Ap dc om om)<|rS (lS i 0 (aW.cells x) U cq (aG 0 U) O U dc U U)<|rS (SX (qc U U U (hf x (aQ hx)) (bw [1])) U U)<|RK C<|cw U (fun hp=>?_) (fun hp=>?_)
 ·refine WS fun _ D=>rP 2 [] I ?_
  refine RK D<|av<|Q1 hQ U U U ?_
  exact cI (ud hx hp A).symm
 refine cg<|aO<|KK L<|aw<|rP 2 [] I ?_
 refine aK ?_
 refine a_ (F ⟨(i+1),⟨om,ur hx A hp⟩⟩ _ _ _ U os (bk U) (aP [0,1]))
theorem Cj (l:List aW) (lA:OA) (lC:Nat) (f:Value) (p:aW→Bool) (X:aB) (hf: ∀ x0,x0∈l→DD Tryz.prog f [.agg (aW.cells x0).toArray] [X] (.bool (p x0))) (hlen:l.length≤1000000):
 dK Tryz.prog 62 [(vS lA l.length lC),f] [(rd lA l.length 4 (l.map aW.cells)),X] (vB (l.any p)):=by
 refine bG kr Tryz.func62 U U fun C Q hQ hN=>?_
 try dsimp only
 refine WS fun _ A=>bE 1 U<|RK A<|WS fun _ B=>bE 2 U<|rS (CL (H_ l lA lC f p X (by exact hf) hlen) (bw [0,1]) U)<|rP 2 [] I ?_
 refine RK B<|av<|Q1 hQ U U U ?_
 exact cB rE
theorem PR (f:aW) (fm:List (Int×Bool)) (gm:Nat) (j:bS) (kA:OA) (kC:Nat) (az:List RA) (cA:OA) (cC:Nat) (bA:OA) (bC:Nat) (slA:OA) (slC:Nat) (drA:OA) (drC:Nat) (ha:List cZ) (heA:OA) (heC:Nat) (faA:OA) (faC:Nat) (prA:OA) (prC:Nat) (d:aC) (sgA:OA) (sgC g1:Nat) (g2 g3:Nat) (hin:gp j az ha) (hok:db j=0) (hfm:f∈j.aA) (hsl:d.bD.ag.length≤1000000):
 dK Tryz.prog 63 [(vA (aW.cells f)),(vP g1),(vP g2),(vP g3)] [(kj iV gm (cU vB fm)),(rd kA j.Race.ar.aS.length 9 (j.Race.ar.aS.map au.cells)),(rd cA j.Race.ar.aj.length 2 (List.zipWith ay.cells j.Race.ar.aj az)),(dU (bo ay.gn j.Race.ar.aj az)),(rd bA j.Race.ar.aa.length 4 (j.Race.ar.aa.map bK.cells)),(rd slA j.Race.aY.length 1 (j.Race.aY.map iC)),(rd drA j.Race.cd.length 1 (j.Race.cd.map iC)),(rd heA j.Race.aD.length 1 (List.zipWith cP j.Race.aD ha)),(dU (bo fg j.Race.aD ha)),(rd faA j.aA.length 4 (j.aA.map aW.cells)),(rd prA j.ao.length 5 (j.ao.map aJ.cells)),(rd sgA d.bD.ag.length 2 (d.bD.ag.map aI.cells)),(cx g1 45 [(Value.map (some gm))]),(cx g2 93 (df.cells (df.mk (mZ j kA kC cA cC bA bC slA slC drA drC heA heC faA faC prA prC)))),(cx g3 58 (aR.cells (aR.mk d.Out d.dB d.Time (jr d.bD sgA sgC))))] (vB (((List.lookup (oT j.aA f) fm).getD false)&& !decide (g6 j.Race.ar f d=0))):=by
 have L:=hin.race
 have AB:=hin.race.line
 have P:=hin.race.iE
 have R:=hin.race.has
 have M:=hin.race.iB
 have J:=hin.nf
 have K:=hin.np
 have D:=(eE hok).1
 have G:=(eE hok).2
 have H:=(eX D).1
 have S:=(eX D).2
 have F:=(dZ H).2.head
 unfold fp at F
 have C:=G.fault f hfm
 have O:0≤f.ig∧f.ig≤1000000:=by have N:=C.2.2; split at N<;>omega
 refine bG kr Tryz.func63 U U fun AA Q hQ hN=>?_
 try dsimp only
 refine WS fun _ E=>eL U fun T=>bE 1 U<|RK E<|aq fun _ B=>dA cy 15 kr<|lR 5 [0,1,2] (mr 13 U (mr 14 U (mc 0 U I))) U<|dS (CL (BU j.aA faA faC f asm) (bw [10]) U)<|dS (SX (vE (kV:=iV) (x:=(oT j.aA f)) (l:=fm) (f:=Value.bool) (z:=false) U U U Jq (iK sr) VP (by exact M5 1 U)) U U)<|dP 1 [] I ?_
 refine jD (t:=13) U (fun A=>?_) (fun A=>?_)
 ·refine dP 7 [] I ?_
  refine cM<|RK B<|av<|Q1 hQ U U U ?_
  (rw [A,Bool.false_and]; done)
 refine lR 3 [0,1,2] (mr 14 U (mc 0 U (mr 15 U I))) U<|dS (CL (z4 j kA kC az cA cC bA bC slA slC drA drC ha heA heC faA faC prA prC f d sgA sgC hin (by exact C.1) asm hsl) (bw [2,3,4,5,6,7,8,9,10,11,12]) U)<|dS (BI U xM)<|dP 2 [] I ?_
 refine cM<|RK B<|av<|Q1 hQ U U U ?_
 (rw [A,Bool.true_and]; done)
end
section
open Go.RowKit
theorem LD (fm:List (Int×Bool)) (gm:Nat) (j:bS) (kA:OA) (kC:Nat) (az:List RA) (cA:OA) (cC:Nat) (bA:OA) (bC:Nat) (slA:OA) (slC:Nat) (drA:OA) (drC:Nat) (ha:List cZ) (heA:OA) (heC:Nat) (faA:OA) (faC:Nat) (prA:OA) (prC g1 g2:Nat) (hin:gp j az ha) (hok:db j=0):
 O0 Tryz.prog 61 [] [(vP g1),(vP g2)] [(kj iV gm (cU vB fm)),(rd kA j.Race.ar.aS.length 9 (j.Race.ar.aS.map au.cells)),(rd cA j.Race.ar.aj.length 2 (List.zipWith ay.cells j.Race.ar.aj az)),(dU (bo ay.gn j.Race.ar.aj az)),(rd bA j.Race.ar.aa.length 4 (j.Race.ar.aa.map bK.cells)),(rd slA j.Race.aY.length 1 (j.Race.aY.map iC)),(rd drA j.Race.cd.length 1 (j.Race.cd.map iC)),(rd heA j.Race.aD.length 1 (List.zipWith cP j.Race.aD ha)),(dU (bo fg j.Race.aD ha)),(rd faA j.aA.length 4 (j.aA.map aW.cells)),(rd prA j.ao.length 5 (j.ao.map aJ.cells)),(cx g1 93 (df.cells (df.mk (mZ j kA kC cA cC bA bC slA slC drA drC heA heC faA faC prA prC)))),(cx g2 45 [(Value.map (some gm))])] ((0:Nat)) (IQ (ij j (lJ j.aA fm))) (fun k=>k=j.Race.aD.length):=by
 have Cp:=hin.race
 have IO:=hin.race.line
 have Iw:=hin.race.iE
 have J3:=hin.race.has
 have Ig:=hin.race.iB
 have IR:=hin.nf
 have If:=hin.np
 have Ck:=(eE hok).1
 have J4:=(eE hok).2
 have H1:=(eX Ck).1
 have IP:=(eX Ck).2
 have Go:=(dZ H1).2.head
 unfold fp at Go
 refine No kr Tryz.func61 U U fun l J Z A0 w0 Q hY Eq EQ hQ hN=>?_
 try dsimp only
 refine WS fun _ FG=>rP 6 [] (mr 12 U I) ?_
 refine RK FG<|aF ?_
 have B:(0≤j.Race.aD.length)∧(J 0 A0)∧(Fo A0 w0 A0):=by exact ⟨Nat.zero_le _,Eq,EQ⟩
 refine bQ (ι:={z:Nat×aB // (z.1≤j.Race.aD.length)∧(J z.1 z.2)∧(Fo A0 w0 z.2)}) [0,1,2,15,16] [1,2,3,4,5,6,7,8,9,10,11,12,13] U U (fun z=>[(17,(vI (z.1.1:Int)))]) (fun z=>[z.1.2]) (fun _=>rfl) (fun _=>rfl) (fun z=>j.Race.aD.length-z.1.1) ⟨(0,A0),B⟩ (bk U) (aP [1,2,3,4,5,6,7,8,9,10,11,12,13,0]) ?_
 clear B
 rintro ⟨⟨h,A⟩,⟨X,F,G⟩⟩ J2 Eu
 try dsimp only at X F G
 try dsimp only
 refine WS fun _ FS=>rP 1 [] I ?_
 refine RK FS<|aq fun _ Fd=>bV U (aU fun h5=>?_) (aV fun h5=>?_)
 ·refine bL<|ab<|ab<|aH ?_
  refine hN _ _ _ (jX (vs:=[]) trivial fun w hs=>Pt 13 U (by show h=j.Race.aD.length; omega) F G hs)
 refine WK Fd<|aq fun _ Fn=>aF<|WS fun _ GE=>?_
 obtain ⟨ht,E⟩:=aM j.Race.aD h om
 obtain ⟨C,D⟩:=aM ha h om
 have Ci:(List.zipWith cP j.Race.aD ha)[h]? =some (cP ht C):=dx E D
 refine rS (IA h U (aG 7 U) oQ dc om om) ?_
 have B9:=Cp.gL _ _ _ E D
 have Ic:=B9.nP
 have Id:=(IP.gL ht (aQ E)).1
 refine rS (gQ h 0 (vS C.1.1 ht.length C.1.2) U cq (aG 7 U) Ci U dc U)<|rP 1 [] I ?_
 refine RK GE<|WS fun _ GT=>mG (kV:=iV) U U fun b9=>?_
 try dsimp only
 refine bE 1 U<|RK GT<|aq fun _ b=>WS fun _ e=>rP 3 [] I ?_
 refine RK e<|aF ?_
 skip
 have B:(0≤ht.length):=by exact Nat.zero_le _
 refine bQ (ι:={z:Nat // (z≤ht.length)}) [0,1,2,5,6,15,16,17,23] [1,2,3,4,5,6,7,8,9,10,11,12,13,14] U U (fun z=>[(24,(vI (z.1:Int)))]) (fun z=>[(kj iV b9 (cU vB (im (lx j.Race.ar j.aA fm ht) z.1 0)))]) (fun _=>rfl) (fun _=>rfl) (fun z=>ht.length-z.1) ⟨0,B⟩ (bk U) (aP [1,2,3,4,5,6,7,8,9,10,11,12,13,14,0]) ?_
 clear B
 rintro ⟨q,Hi⟩ J12 Y
 try dsimp only
 refine WS fun _ g=>rP 1 [] I ?_
 refine RK g<|aq fun _ i=>cw U (aV fun C3=>?_) (aU fun C3=>?_)
 ·refine WK i<|aq fun _ m=>aF<|WS fun _ o=>bE 2 U<|RK o<|aw<|rP 2 [] I ?_
  have A3:(ep (im (lx j.Race.ar j.aA fm ht) q 0) (q:Int) true)=(im (lx j.Race.ar j.aA fm ht) (q+1) 0):=by exact Ks
  refine jc (kV:=iV) (x:=(q:Int)) (C':=[_,_,_,_,_,_,_,_,_,_,_,_,_,_,(kj iV b9 (cU vB (im (lx j.Race.ar j.aA fm ht) (q+1) 0)))]) 14 U U U U Jq (iK sr) U ((gP _ _ _ _).symm.trans (congrArg _ A3)) U<|aK<|aO<|KK m<|aw<|rP 2 [] I ?_
  refine aK ?_
  have A4:(vI (((q+1):Nat):Int))=(vI ((q:Int)+1)):=by exact cI om
  refine a_ (Y ⟨(q+1),(by first|omega|(simp only []; omega))⟩ _ _ _ U os (cK 9<|bj U A4<|dv.nil _) (aP [0,1,2,3,4,5,6,7,8,9,10,11,12,13,14]))
 refine bL<|ab<|ab<|aH<|KK b<|aq fun _ p=>WS fun _ r=>rP 3 [] I ?_
 refine RK r<|aF ?_
 rw [show (im (lx j.Race.ar j.aA fm ht) q 0)=(im (lx j.Race.ar j.aA fm ht) ht.length 0) from by rw [show q=ht.length by omega]]
 have B:(0≤ht.length):=by exact Nat.zero_le _
 refine bQ (ι:={z:Nat // (z≤ht.length)}) [0,1,2,5,6,15,16,17,30,31] [0,1,2,3,4,5,6,7,8,9,10,11,12,13] U U (fun z=>[(32,(vI (z.1:Int)))]) (fun z=>[(kj iV b9 (cU vB (im (lx j.Race.ar j.aA fm ht) ht.length z.1)))]) (fun _=>rfl) (fun _=>rfl) (fun z=>ht.length-z.1) ⟨0,B⟩ (bk U) (aP [0,1,2,3,4,5,6,7,8,9,10,11,12,13,14]) ?_
 clear B
 rintro ⟨q,C0⟩ J22 R
 try dsimp only
 refine WS fun _ s=>rP 1 [] I ?_
 refine RK s<|aq fun _ t=>bV U (aU fun Di=>?_) (aV fun Di=>?_)
 ·refine bL<|ab<|ab<|aH<|KK p<|WS fun _ y=>bE 1 U<|RK y<|aq fun _ AC=>WS fun _ AN=>rP 3 [] I ?_
  refine RK AN<|aF ?_
  rw [show (im (lx j.Race.ar j.aA fm ht) ht.length q)=(im (lx j.Race.ar j.aA fm ht) ht.length ht.length) from by rw [show q=ht.length by omega]]
  refine eP 3 1 ?_
  have B:(0≤ht.length):=by exact Nat.zero_le _
  refine bQ (ι:={z:Nat×(OA)×Nat // (z.1≤ht.length)}) [0,1,2,5,6,15,16,17,47] [1,2,3,4,5,6,7,8,9,10,11,12,13,14,15] U U (fun z=>[(10,(vS z.1.2.1 ((ml (lx j.Race.ar j.aA fm ht) z.1.1).length) z.1.2.2)),(48,(vI (z.1.1:Int)))]) (fun z=>[(own z.1.2.1 z.1.2.2 3 1 ((ml (lx j.Race.ar j.aA fm ht) z.1.1).map iC))]) (fun _=>rfl) (fun _=>rfl) (fun z=>ht.length-z.1.1) ⟨(0,none,0),B⟩ (bk U) (aP [1,2,3,4,5,6,7,8,9,10,11,12,13,14,15,0]) ?_
  clear B
  rintro ⟨⟨q,a,c⟩,M⟩ J37 S
  try dsimp only at M
  try dsimp only
  refine WS fun _ AO=>rP 1 [] I ?_
  refine RK AO<|aq fun _ Am=>bV U (aU fun Do=>?_) (aV fun Do=>?_)
  ·refine bL<|ab<|ab<|aH<|KK AC<|aq fun _ V=>?_
   rw [show (ml (lx j.Race.ar j.aA fm ht) q)=(ml (lx j.Race.ar j.aA fm ht) ht.length) from by rw [show q=ht.length by omega]]
   refine aw<|rP 2 [] I ?_
   refine Kk (k:=h) (k':=(h+1)) 13 15 U hY F G U U U ⟨_,_,_,Ip E,U,U,U⟩ U U U U (fun B50 K AB=>?_) (fun B50 K AB=>?_)
   rotate_left 1
   ·refine rP 1 [] I ?_
    refine RK V<|aT U<|av ?_
    refine hQ _ _ _ (jX (vs:=[]) trivial fun w hs=>E0 0 U K AB hs)
   refine bE 1 U<|RK V<|cj U<|cg<|aO<|KK Fn<|aw<|rP 2 [] I ?_
   refine aK ?_
   have Bx:(vI (((h+1):Nat):Int))=(vI ((h:Int)+1)):=by exact cI om
   refine a_ (Eu ⟨((h+1),B50),⟨om,K,AB⟩⟩ _ _ _ U os (cK 5<|bj U Bx<|dv.nil _) (aP [1,2,3,4,5,6,7,8,9,10,11,12,13,0]))
  refine WK Am<|aq fun _ AA=>aF<|WS fun _ A1=>bE 2 U<|RK A1<|WS fun _ A2=>rP 2 [] I ?_
  refine rS (SX (vE (kV:=iV) (x:=(q:Int)) (l:=(im (lx j.Race.ar j.aA fm ht) ht.length ht.length)) (f:=Value.bool) (z:=false) U U U Jq (iK sr) VP (by exact aG 14 U)) U U)<|RK A2<|bV U (fun W=>?_) (fun W=>?_)
  ·refine cg<|aO<|KK AA<|aw<|rP 2 [] I ?_
   refine aK ?_
   rw [show (ml (lx j.Race.ar j.aA fm ht) q)=(ml (lx j.Race.ar j.aA fm ht) (q+1)) from (su (by rw [← yS (P:=(lx j.Race.ar j.aA fm ht)) (show q<ht.length by omega)]; simpa using W)).symm]
   have A9:(vI (((q+1):Nat):Int))=(vI ((q:Int)+1)):=by exact cI om
   refine a_ (S ⟨((q+1),a,c),(by first|omega|(simp only []; omega))⟩ _ _ _ U os (cK 10<|bj U A9<|dv.nil _) (aP [0,1,2,3,4,5,6,7,8,9,10,11,12,13,14,15]))
  refine aw<|rP 2 [] I ?_
  refine eB (xs:=[.tmp 55]) (cs:=[(vI (q:Int))]) U dp ky U U U U (by simp [Value.cells]) U U fun Io=>?_
  refine dH (es2:=(List.map iC (ml (lx j.Race.ar j.aA fm ht) (q+1)))) (m':=(ml (lx j.Race.ar j.aA fm ht) (q+1)).length) 16 U U U r8 U U sm (bu (es:=List.map iC [(q:Int)]) 0 U U (by simp [bR]) U) (kZ _) (by have:=oZ (P:=(lx j.Race.ar j.aA fm ht)) (n:=q); omega) (by have:=oZ (P:=(lx j.Race.ar j.aA fm ht)) (n:=q); simp only [maxLen]; omega) (by rw [xu (by rw [← yS (P:=(lx j.Race.ar j.aA fm ht)) (show q<ht.length by omega)]; exact W)]; simp) sm U fun C1 C2=>?_
  try dsimp only
  refine bE 1 U<|aK<|aO<|KK AA<|aw<|rP 2 [] I ?_
  refine aK ?_
  have A8:(vI (((q+1):Nat):Int))=(vI ((q:Int)+1)):=by exact cI om
  refine a_ (S ⟨((q+1),C1,C2),(by first|omega|(simp only []; omega))⟩ _ _ _ U os (cK 10<|bj U A8<|dv.nil _) (aP [1,2,3,4,5,6,7,8,9,10,11,12,13,14,15,16]))
 refine WK t<|aq fun _ T=>aF<|WS fun _ u=>rP 1 [] I ?_
 obtain ⟨d,hd⟩:=aM ht q om
 obtain ⟨da,B3⟩:=aM C.2 q om
 have Gi:(List.zipWith aC.cells ht C.2)[q]? =some (aC.cells d da):=dx hd B3
 refine rS (IA q U (show iH _ (rd C.1.1 ht.length 7 (List.zipWith aC.cells ht C.2)).holds from (cY 8 U (bP E D cH))) sh dc om om) ?_
 have J5:=B9.sig d (aQ hd)
 refine rS (lS q 0 (aR.cells (aR.mk d.Out d.dB d.Time (cN.mk d.bD.Start d.bD.gf (bx.mk da.1 d.bD.ag.length da.2)))) U cq (show iH _ (rd C.1.1 ht.length 7 (List.zipWith aC.cells ht C.2)).holds from (cY 8 U (bP E D cH))) Gi U dc U U)<|AL U Cu fun L=>bE 1 U<|fR U Gg U<|RK u<|WS fun _ v=>rP 3 [] (mr 12 U I) ?_
 refine rS (FU U) ?_
 refine rS (CL (Cj j.aA faA faC (Value.func (.func 63) [].toArray [(vP g2),(vP g1),(vP L)].toArray) (fun O=>(((List.lookup (oT j.aA O) fm).getD false)&& !decide (g6 j.Race.ar O d=0))) (dU [(kj iV gm (cU vB fm)),(rd kA j.Race.ar.aS.length 9 (j.Race.ar.aS.map au.cells)),(rd cA j.Race.ar.aj.length 2 (List.zipWith ay.cells j.Race.ar.aj az)),(dU (bo ay.gn j.Race.ar.aj az)),(rd bA j.Race.ar.aa.length 4 (j.Race.ar.aa.map bK.cells)),(rd slA j.Race.aY.length 1 (j.Race.aY.map iC)),(rd drA j.Race.cd.length 1 (j.Race.cd.map iC)),(rd heA j.Race.aD.length 1 (List.zipWith cP j.Race.aD ha)),(dU (bo fg j.Race.aD ha)),(rd faA j.aA.length 4 (j.aA.map aW.cells)),(rd prA j.ao.length 5 (j.ao.map aJ.cells)),(rd da.1 d.bD.ag.length 2 (d.bD.ag.map aI.cells)),(cx g2 45 [(Value.map (some gm))]),(cx g1 93 (df.cells (df.mk (mZ j kA kC cA cC bA bC slA slC drA drC heA heC faA faC prA prC)))),(cx L 58 (aR.cells (aR.mk d.Out d.dB d.Time (cN.mk d.bD.Start d.bD.gf (bx.mk da.1 d.bD.ag.length da.2)))))]) (by intro O N; exact k9 (fi:=[]) (ca:=[(vP g2),(vP g1),(vP L)]) (jY (PR O fm gm j kA kC az cA cC bA bC slA slC drA drC ha heA heC faA faC prA prC d da.1 da.2 g2 g1 L (by first|assumption|exact N|omega) (by first|assumption|exact N|omega) (by first|assumption|exact N|omega) (by first|assumption|exact N|omega)) (bw [0,1,2,3,4,5,6,7,8,9,10,11,12,13,14]))) asm) (gj 10 U U<|ax (jV (oP [1,2,3,4,5,6,7,8,9,10,11]<|ax (show iH _ (rd da.1 d.bD.ag.length 2 (d.bD.ag.map aI.cells)).holds from (cY 9 U (bP E D (dR _ (bP hd B3 (by simp [aC.gn]))))))<|gj 13 U U<|gj 12 U U<|gj 0 U U<|aN))<|aN) U) ?_
 refine rP 1 [] I ?_
 refine RK v<|bV U (fun H=>?_) (fun H=>?_)
 ·rw [Bool.not_eq_false'] at H
  refine cg<|aO<|KK T<|aw<|rP 2 [] I ?_
  refine aK ?_
  rw [show (im (lx j.Race.ar j.aA fm ht) ht.length q)=(im (lx j.Race.ar j.aA fm ht) ht.length (q+1)) from F5 (by rw [Ez hd]; simpa using H)]
  have A7:(vI (((q+1):Nat):Int))=(vI ((q:Int)+1)):=by exact cI om
  refine a_ (R ⟨(q+1),(by first|omega|(simp only []; omega))⟩ _ _ _ U os (cK 10<|bj U A7<|dv.nil _) (aP [1,2,3,4,5,6,7,8,9,10,11,12,13,14,15]))
 rw [Bool.not_eq_true'] at H
 refine aw<|rP 2 [] I ?_
 have A5:(fz (im (lx j.Race.ar j.aA fm ht) ht.length q) (q:Int))=(im (lx j.Race.ar j.aA fm ht) ht.length (q+1)):=by exact H5 (by rw [Ez hd]; exact H)
 refine sM (kV:=iV) (x:=(q:Int)) (C':=[_,_,_,_,_,_,_,_,_,_,_,_,_,_,_,(kj iV b9 (cU vB (im (lx j.Race.ar j.aA fm ht) ht.length (q+1))))]) 15 U U U U Jq (iK sr) U ((n9 _ _ _).symm.trans (congrArg _ A5)) U<|aK<|aO<|KK T<|aw<|rP 2 [] I ?_
 refine aK ?_
 have A6:(vI (((q+1):Nat):Int))=(vI ((q:Int)+1)):=by exact cI om
 refine a_ (R ⟨(q+1),(by first|omega|(simp only []; omega))⟩ _ _ _ U os (cK 10<|bj U A6<|dv.nil _) (aP [1,2,3,4,5,6,7,8,9,10,11,12,13,14,15]))
end
section
open Go.RowKit
theorem OG (gm:Nat) (j:bS) (kA:OA) (kC:Nat) (cA:OA) (cC:Nat) (bA:OA) (bC:Nat) (slA:OA) (slC:Nat) (drA:OA) (drC:Nat) (heA:OA) (heC:Nat) (faA:OA) (faC:Nat) (prA:OA) (prC:Nat):
 p9 Tryz.prog 40 [(vA (df.cells (df.mk (mZ j kA kC cA cC bA bC slA slC drA drC heA heC faA faC prA prC)))),(Value.map (some gm))] [] (fun (x:Nat×Nat)=>(Value.func (.func 61) [].toArray [(Value.pointer (some ⟨x.1,0,none⟩)),(Value.pointer (some ⟨x.2,0,none⟩))].toArray)) (fun (x:Nat×Nat)=>True) (fun (x:Nat×Nat)=>[(cx x.1 93 (df.cells (df.mk (mZ j kA kC cA cC bA bC slA slC drA drC heA heC faA faC prA prC)))),(cx x.2 45 [(Value.map (some gm))])]):=by
 refine fF kr Tryz.func40 U U fun E Q hQ hN=>?_
 try dsimp only
 refine WS fun _ A=>eL U fun C=>wq U U fun D=>bE 1 U<|RK A<|WS fun _ B=>rS (FU U)<|rP 1 [] I ?_
 refine RK B<|av<|LX hQ (C,D) [1,0] [] I U U U U ?_
 trivial
theorem ME (fm:List (Int×Bool)) (gm:Nat) (j:bS) (kA:OA) (kC:Nat) (az:List RA) (cA:OA) (cC:Nat) (bA:OA) (bC:Nat) (slA:OA) (slC:Nat) (drA:OA) (drC:Nat) (ha:List cZ) (heA:OA) (heC:Nat) (faA:OA) (faC:Nat) (prA:OA) (prC g1 g2:Nat) (hin:gp j az ha) (hok:db j=0):
 p9 Tryz.prog 60 [(vS none 0 0),(Value.func (.func 61) [].toArray [(vP g1),(vP g2)].toArray)] [(kj iV gm (cU vB fm)),(rd kA j.Race.ar.aS.length 9 (j.Race.ar.aS.map au.cells)),(rd cA j.Race.ar.aj.length 2 (List.zipWith ay.cells j.Race.ar.aj az)),(dU (bo ay.gn j.Race.ar.aj az)),(rd bA j.Race.ar.aa.length 4 (j.Race.ar.aa.map bK.cells)),(rd slA j.Race.aY.length 1 (j.Race.aY.map iC)),(rd drA j.Race.cd.length 1 (j.Race.cd.map iC)),(rd heA j.Race.aD.length 1 (List.zipWith cP j.Race.aD ha)),(dU (bo fg j.Race.aD ha)),(rd faA j.aA.length 4 (j.aA.map aW.cells)),(rd prA j.ao.length 5 (j.ao.map aJ.cells)),(cx g1 93 (df.cells (df.mk (mZ j kA kC cA cC bA bC slA slC drA drC heA heC faA faC prA prC)))),(cx g2 45 [(Value.map (some gm))])] (fun (x:(List RA)×(OA)×Nat)=>(vS x.2.1 ((ij j (lJ j.aA fm)).length) x.2.2)) (fun (x:(List RA)×(OA)×Nat)=>x.1.length=(ij j (lJ j.aA fm)).length) (fun (x:(List RA)×(OA)×Nat)=>[(own x.2.1 x.2.2 29 1 (List.zipWith ru (ij j (lJ j.aA fm)) x.1)),(bU (bo GB (ij j (lJ j.aA fm)) x.1))]):=by
 have W:=hin.race
 have P:=hin.race.line
 have g:=hin.race.iE
 have m:=hin.race.has
 have X:=hin.race.iB
 have AA:=hin.nf
 have V:=hin.np
 have f:(ij j (lJ j.aA fm)).length=j.Race.aD.length:=by unfold ij; rw [List.length_map]
 refine fF kr Tryz.func60 U U fun s Q hQ hN=>?_
 try dsimp only
 refine WS fun _ K=>wq U U fun T=>bE 1 U<|RK K<|aq fun _ L=>WS fun _ M=>rP 1 [] I ?_
 refine RK M<|aF<|jq 1 U (by exact fun _ h=>h)<|jq 3 U (by exact fun _ h=>h)<|jq 5 U (by exact fun _ h=>h)<|jq 7 U (by exact fun _ h=>h)<|jq 9 U (by exact fun _ h=>h)<|jq 11 U (by exact fun _ h=>h)<|jq 13 U (by exact fun _ h=>h)<|jq 15 U (by exact fun _ h=>h)<|jq 17 U (by exact fun _ h=>h)<|jq 19 U (by exact fun _ h=>h)<|jq 21 U (by exact fun _ h=>h)<|jq 23 U (by exact fun _ h=>h)<|jq 25 U (by exact fun _ h=>h)<|eP 29 1<|od ?_
 refine Ik (L0:=[(2,(vP T))]) (F:=[(kj iV gm (cU vB fm)).ro,(rd kA j.Race.ar.aS.length 9 (j.Race.ar.aS.map au.cells)).ro,(rd cA j.Race.ar.aj.length 2 (List.zipWith ay.cells j.Race.ar.aj az)).ro,(dU (bo ay.gn j.Race.ar.aj az)).ro,(rd bA j.Race.ar.aa.length 4 (j.Race.ar.aa.map bK.cells)).ro,(rd slA j.Race.aY.length 1 (j.Race.aY.map iC)).ro,(rd drA j.Race.cd.length 1 (j.Race.cd.map iC)).ro,(rd heA j.Race.aD.length 1 (List.zipWith cP j.Race.aD ha)).ro,(dU (bo fg j.Race.aD ha)).ro,(rd faA j.aA.length 4 (j.aA.map aW.cells)).ro,(rd prA j.ao.length 5 (j.ao.map aJ.cells)).ro,(cx g1 93 (df.cells (df.mk (mZ j kA kC cA cC bA bC slA slC drA drC heA heC faA faC prA prC)))).ro,(cx g2 45 [(Value.map (some gm))]).ro]) (fun k (y:(List RA)×(OA)×Nat)=>(y.1.length=k)) (fun k y=>[(bU (bo GB (List.take k (ij j (lJ j.aA fm))) y.1)),(own y.2.1 y.2.2 29 1 (List.zipWith ru (List.take k (ij j (lJ j.aA fm))) y.1)),(cx T 42 [(vS y.2.1 ((List.take k (ij j (lJ j.aA fm))).length) y.2.2)]),(kj iV gm (cU vB fm)).ro,(rd kA j.Race.ar.aS.length 9 (j.Race.ar.aS.map au.cells)).ro,(rd cA j.Race.ar.aj.length 2 (List.zipWith ay.cells j.Race.ar.aj az)).ro,(dU (bo ay.gn j.Race.ar.aj az)).ro,(rd bA j.Race.ar.aa.length 4 (j.Race.ar.aa.map bK.cells)).ro,(rd slA j.Race.aY.length 1 (j.Race.aY.map iC)).ro,(rd drA j.Race.cd.length 1 (j.Race.cd.map iC)).ro,(rd heA j.Race.aD.length 1 (List.zipWith cP j.Race.aD ha)).ro,(dU (bo fg j.Race.aD ha)).ro,(rd faA j.aA.length 4 (j.aA.map aW.cells)).ro,(rd prA j.ao.length 5 (j.ao.map aJ.cells)).ro]) (fun _ (_:Unit)=>False) (fun _ _=>[]) [0,1,15,16,17,18,19,20,21,22,23,24,25,26] [14,13,12,11,10,9,8,7,6,5,4,3,2] (([]:List RA),none,0) rfl rfl (LD fm gm j kA kC az cA cC bA bC slA slC drA drC ha heA heC faA faC prA prC g1 g2 (by first|assumption|omega|(simp; done)) (by first|assumption|omega|(simp; done))) rfl rfl rfl (by exact rfl) (by simp only [List.forall_mem_cons,List.not_mem_nil,false_imp_iff,implies_true,and_true]; exact ⟨⟨_,aQ (i:=0) rfl,(dL (bY _))⟩,⟨_,aQ (i:=1) rfl,(dL (bY _))⟩,⟨_,aQ (i:=2) rfl,(dL (bY _))⟩,⟨_,aQ (i:=3) rfl,(dL (bY _))⟩,⟨_,aQ (i:=4) rfl,(dL (bY _))⟩,⟨_,aQ (i:=5) rfl,(dL (bY _))⟩,⟨_,aQ (i:=6) rfl,(dL (bY _))⟩,⟨_,aQ (i:=7) rfl,(dL (bY _))⟩,⟨_,aQ (i:=8) rfl,(dL (bY _))⟩,⟨_,aQ (i:=9) rfl,(dL (bY _))⟩,⟨_,aQ (i:=10) rfl,(dL (bY _))⟩,⟨_,aQ (i:=11) rfl,(dL (bY _))⟩,⟨_,aQ (i:=12) rfl,(dL (bY _))⟩⟩) (by rintro k x R0 p ⟨_,_,_,_,rfl,_,_⟩; rfl) rfl (bk rfl) ?_ ?_ (fun _ _ _ h=>h.elim) (fun _ _ h=>h.elim)
 rotate_left 1
 ·rintro q k ⟨gz,a,c⟩ B C
  have D:=C
  try dsimp only at D
  try dsimp only
  rw [show (List.take k (ij j (lJ j.aA fm)))=(ij j (lJ j.aA fm)) from List.take_of_length_le (by have d:k=j.Race.aD.length:=B; omega)]
  have O:gz.length=(ij j (lJ j.aA fm)).length:=by have d:k=j.Race.aD.length:=B; omega
  refine aO<|KK L<|WS fun _ G=>rP 2 [] (mc 16 U I) ?_
  refine RK G<|av ?_
  refine hQ _ _ _ (qG 0 U U<|jX (vs:=[(vS a ((ij j (lJ j.aA fm)).length) c)]) ⟨U,trivial⟩ fun w hs=>PM (gz,a,c) [15,14] ?_ ?_ U U (by show List.all _ _=true; simp only [fu,List.all_nil,wQ,Bool.and_true]; rfl) hs)
  ·rfl
  ·exact O
 rintro k x R0 p ⟨gz,a,c⟩ l ra rb S t K5 Qr6 o hx AB N H Y Z
 obtain ⟨xa,xc,row,A,rfl,rfl,rfl⟩:=hx
 have D:=AB
 try dsimp only at D
 try dsimp only
 have n:=(aX.1 A).1
 have E:gz.length=(List.take k (ij j (lJ j.aA fm))).length:=by rw [List.length_take]; omega
 have R:(List.take (k+1) (ij j (lJ j.aA fm))).length=k+1:=by rw [List.length_take]; omega
 refine aw<|rP 1 [] I ?_
 refine aK<|a_ (N _ _ ?_)
 refine aF<|aw<|rP 2 [] (mc 3 U I) ?_
 refine eB (xs:=[.tmp 9]) (cs:=[(vS xa row.length xc)]) U yr QZ U U U U (by simp [Value.cells]) U U fun r=>?_
 refine dH (es2:=(List.zipWith ru (List.take (k+1) (ij j (lJ j.aA fm))) (gz++[(xa,xc)]))) (m':=(List.take (k+1) (ij j (lJ j.aA fm))).length) 3 rfl rfl rfl Ut rfl rfl (jf E).symm (bu (es:=List.zipWith ru [row] [(xa,xc)]) 0 rfl rfl (by intro e he; simp [ru] at he; subst he; rfl) rfl) (MO _ _) om (by simp only [maxLen]; omega) (by rw [w6 A]; exact Hl E.symm) (by exact jf (by rw [R]; simp; omega)) rfl fun b J=>?_
 try dsimp only
 refine OE (Y':=bo GB (List.take (k+1) (ij j (lJ j.aA fm))) (gz++[(xa,xc)])) 2 16 U U (by rw [w6 A]; exact Ep E.symm U) ?_
 refine V5 U UU U U<|aK<|aO ?_
 exact H ((gz++[(xa,xc)]),b,J) _ _ (by (rw [List.length_append]; simp; omega)) (aP [2,0,3,4,5,6,7,8,9,10,11,12,13,14,15])
theorem Ms (fm:List (Int×Bool)) (gm:Nat) (j:bS) (kA:OA) (kC:Nat) (az:List RA) (cA:OA) (cC:Nat) (bA:OA) (bC:Nat) (slA:OA) (slC:Nat) (drA:OA) (drC:Nat) (ha:List cZ) (heA:OA) (heC:Nat) (faA:OA) (faC:Nat) (prA:OA) (prC g1 g2:Nat) (hin:gp j az ha) (hok:db j=0):
 p9 Tryz.prog 39 [(Value.func (.func 61) [].toArray [(vP g1),(vP g2)].toArray)] [(kj iV gm (cU vB fm)),(rd kA j.Race.ar.aS.length 9 (j.Race.ar.aS.map au.cells)),(rd cA j.Race.ar.aj.length 2 (List.zipWith ay.cells j.Race.ar.aj az)),(dU (bo ay.gn j.Race.ar.aj az)),(rd bA j.Race.ar.aa.length 4 (j.Race.ar.aa.map bK.cells)),(rd slA j.Race.aY.length 1 (j.Race.aY.map iC)),(rd drA j.Race.cd.length 1 (j.Race.cd.map iC)),(rd heA j.Race.aD.length 1 (List.zipWith cP j.Race.aD ha)),(dU (bo fg j.Race.aD ha)),(rd faA j.aA.length 4 (j.aA.map aW.cells)),(rd prA j.ao.length 5 (j.ao.map aJ.cells)),(cx g1 93 (df.cells (df.mk (mZ j kA kC cA cC bA bC slA slC drA drC heA heC faA faC prA prC)))),(cx g2 45 [(Value.map (some gm))])] (fun (x:(List RA)×(OA)×Nat)=>(vS x.2.1 ((ij j (lJ j.aA fm)).length) x.2.2)) (fun (x:(List RA)×(OA)×Nat)=>x.1.length=(ij j (lJ j.aA fm)).length) (fun (x:(List RA)×(OA)×Nat)=>[(own x.2.1 x.2.2 29 1 (List.zipWith ru (ij j (lJ j.aA fm)) x.1)),(bU (bo GB (ij j (lJ j.aA fm)) x.1))]):=by
 refine fF kr Tryz.func39 U U fun AA Q hQ hN=>?_
 try dsimp only
 refine WS fun _ B=>bE 1 U<|RK B<|WS fun _ C=>rP 1 [] I ?_
 refine cX (ME fm gm j kA kC az cA cC bA bC slA slC drA drC ha heA heC faA faC prA prC g1 g2 hin hok) (bw [0,1,2,3,4,5,6,7,8,9,10,11,12]) U fun H E=>?_
 obtain ⟨A,F,G⟩:=H
 try dsimp only
 have D:=E
 refine rP 1 [] I ?_
 refine RK C<|av ?_
 refine LX hQ (A,F,G) [0,1] [] I U (by show List.all _ _=true; simp only [fu,List.all_nil,wQ,Bool.and_true]; rfl) U U ?_
 exact D
end
section
open Go.RowKit
theorem FZ (j:bS) (kA:OA) (kC:Nat) (az:List RA) (cA:OA) (cC:Nat) (bA:OA) (bC:Nat) (slA:OA) (slC:Nat) (drA:OA) (drC:Nat) (ha:List cZ) (heA:OA) (heC:Nat) (faA:OA) (faC:Nat) (prA:OA) (prC:Nat) (hin:gp j az ha) (hok:db j=0):
 p9 Tryz.prog 32 [(vA (df.cells (df.mk (mZ j kA kC cA cC bA bC slA slC drA drC heA heC faA faC prA prC))))] [(rd kA j.Race.ar.aS.length 9 (j.Race.ar.aS.map au.cells)),(rd cA j.Race.ar.aj.length 2 (List.zipWith ay.cells j.Race.ar.aj az)),(dU (bo ay.gn j.Race.ar.aj az)),(rd bA j.Race.ar.aa.length 4 (j.Race.ar.aa.map bK.cells)),(rd slA j.Race.aY.length 1 (j.Race.aY.map iC)),(rd drA j.Race.cd.length 1 (j.Race.cd.map iC)),(rd heA j.Race.aD.length 1 (List.zipWith cP j.Race.aD ha)),(dU (bo fg j.Race.aD ha)),(rd faA j.aA.length 4 (j.aA.map aW.cells)),(rd prA j.ao.length 5 (j.ao.map aJ.cells))] (fun (x:(List RA)×(OA)×Nat)=>(vS x.2.1 ((jv j).length) x.2.2)) (fun (x:(List RA)×(OA)×Nat)=>x.1.length=(jv j).length) (fun (x:(List RA)×(OA)×Nat)=>[(own x.2.1 x.2.2 29 1 (List.zipWith ru (jv j) x.1)),(bU (bo GB (jv j) x.1))]):=by
 have AC:=hin.race
 have i:=hin.race.line
 have A3:=hin.race.iE
 have A4:=hin.race.has
 have AN:=hin.race.iB
 have u:=hin.nf
 have y:=hin.np
 have P:=(eE hok).1
 have O:=(eE hok).2
 have h:=(eX P).1
 have A7:=(eX P).2
 have d:=(dZ h).2.head
 unfold fp at d
 have A5:=O.np
 have w:=yl (j:=j)
 refine fF kr Tryz.func32 U U fun w0 Q hQ hN=>?_
 try dsimp only
 refine WS fun _ Y=>eL U fun b2=>rP 1 [] I ?_
 refine RK Y<|WS fun _ Z=>mG (kV:=iV) U U fun T=>?_
 try dsimp only
 refine bE 1 U<|RK Z<|aq fun _ a=>WS fun _ b=>rP 4 [] (mc 1 U I) ?_
 refine rS (FU U) ?_
 refine cX (Af j.ao prA prC (Value.func (.func 31) [(vA (df.cells (df.mk (mZ j kA kC cA cC bA bC slA slC drA drC heA heC faA faC prA prC))))].toArray [].toArray) (fun q S=>(f_ j S)) (dU [(rd kA j.Race.ar.aS.length 9 (j.Race.ar.aS.map au.cells)),(rd cA j.Race.ar.aj.length 2 (List.zipWith ay.cells j.Race.ar.aj az)),(dU (bo ay.gn j.Race.ar.aj az)),(rd bA j.Race.ar.aa.length 4 (j.Race.ar.aa.map bK.cells)),(rd slA j.Race.aY.length 1 (j.Race.aY.map iC)),(rd drA j.Race.cd.length 1 (j.Race.cd.map iC)),(rd heA j.Race.aD.length 1 (List.zipWith cP j.Race.aD ha)),(dU (bo fg j.Race.aD ha)),(rd faA j.aA.length 4 (j.aA.map aW.cells)),(rd prA j.ao.length 5 (j.ao.map aJ.cells))]) (by intro q S k; exact k9 (fi:=[(vA (df.cells (df.mk (mZ j kA kC cA cC bA bC slA slC drA drC heA heC faA faC prA prC))))]) (ca:=[]) (jY (vt j kA kC az cA cC bA bC slA slC drA drC ha heA heC faA faC prA prC q S asm asm (by (obtain ⟨i_,_,e⟩:=k; exact ⟨i_,e⟩))) (bw [0,1,2,3,4,5,6,7,8,9]))) asm) (gj 11 rfl rfl<|ax (jV (bw [2,3,4,5,6,7,8,9,10,11]))<|aN) rfl fun y9 AO=>?_
 obtain ⟨A0,A1⟩:=y9
 try dsimp only
 rw [show (ml (ir j.ao (fun q S=>(f_ j S))) j.ao.length)=iy j from rfl]
 refine rP 2 [] I ?_
 refine RK b<|aF ?_
 skip
 have A:(0≤(iy j).length):=by exact Nat.zero_le _
 refine bQ (ι:={z:Nat // (z≤(iy j).length)}) [1,3,12,13] [0,2,3,4,5,6,7,8,9,10,11,12] U U (fun z=>[(14,(vI (z.1:Int)))]) (fun z=>[(kj iV T (cU vB (wa j.aA (F3 j z.1))))]) (fun _=>rfl) (fun _=>rfl) (fun z=>(iy j).length-z.1) ⟨0,A⟩ (bk U) (aP [0,2,3,4,5,6,7,8,9,10,11,12,1]) ?_
 clear A
 rintro ⟨t,g⟩ J13 E
 try dsimp only
 refine WS fun _ F=>rP 1 [] I ?_
 refine RK F<|aq fun _ G=>bV U (aU fun X=>?_) (aV fun X=>?_)
 ·refine bL<|ab<|ab<|aH<|KK a<|WS fun _ J=>rP 2 [] (mc 1 U I) ?_
  refine cX (OG T j kA kC cA cC bA bC slA slC drA drC heA heC faA faC prA prC) (aN) U fun r Am=>?_
  obtain ⟨V,C⟩:=r
  try dsimp only
  refine cX (Ms (wa j.aA (F3 j t)) T j kA kC az cA cC bA bC slA slC drA drC ha heA heC faA faC prA prC V C hin hok) (bw [14,4,5,6,7,8,9,10,11,12,13,0,1]) U fun s R=>?_
  obtain ⟨D,AA,W⟩:=s
  try dsimp only
  have N:=R
  have o:(ij j (lJ j.aA (wa j.aA (F3 j t))))=(jv j):=by exact D5 om
  rw [o] at N ⊢
  refine rP 1 [] I ?_
  refine RK J<|av ?_
  refine LX hQ (D,AA,W) [0,1] [] I U (by show List.all _ _=true; simp only [fu,List.all_nil,wQ,Bool.and_true]; rfl) U U ?_
  exact N
 refine WK G<|aq fun _ H=>aF<|WS fun _ AB=>?_
 obtain ⟨gi,B⟩:=aM (iy j) t om
 have M:=bO iC B
 refine rS (IA t U (ak (n:=(iy j).length) 0 U sm) dp dc om om)<|rS (gQ t 0 (vI gi) U cq (ak (n:=(iy j).length) 0 U sm) M U dc U)<|bE 1 U<|RK AB<|dA cy 17 kr<|dP 10 [] (mc 1 U I) ?_
 obtain ⟨gk,A2,v⟩:=G4 B
 refine dP 1 [] I ?_
 obtain ⟨p,hp⟩:=aM j.ao ((gi).toNat) om
 have l:=bO aJ.cells hp
 refine dS (IA ((gi).toNat) U (aG 11 U) yq dc om om)<|dS (o1 ((((gi).toNat)*5)+3) U (aG 11 U) (Nat.mul_pos om dc) fK U) ?_
 have m:=O.gU _ p hp
 have A6:=m.fault
 refine dS (gQ ((gi).toNat) 3 (vI p.ew) U cq (aG 11 U) l U dc U) ?_
 obtain ⟨f,hf⟩:=aM j.aA ((p.ew).toNat) om
 have c:=bO aW.cells hf
 refine dS (IA ((p.ew).toNat) U (aG 10 U) Ap dc om om)<|dS (lS ((p.ew).toNat) 0 (aW.cells f) U cq (aG 10 U) c U dc U U)<|dS (CL (BU j.aA faA faC f asm) (bw [10]) U)<|cM ?_
 have K:(ep (wa j.aA (F3 j t)) (oT j.aA f) true)=(wa j.aA (F3 j (t+1))):=by rw [I7 B hp hf,GA]
 refine jc (kV:=iV) (x:=(oT j.aA f)) (C':=[_,_,_,_,_,_,_,_,_,_,_,_,(kj iV T (cU vB (wa j.aA (F3 j (t+1)))))]) 12 U U U U Jq (iK sr) U ((gP _ _ _ _).symm.trans (congrArg _ K)) U<|aK<|aO<|KK H<|aw<|rP 2 [] I ?_
 refine aK ?_
 have L:(vI (((t+1):Nat):Int))=(vI ((t:Int)+1)):=by exact cI om
 refine a_ (E ⟨(t+1),(by first|omega|(simp only []; omega))⟩ _ _ _ U os (cK 4<|bj U L<|dv.nil _) (aP [0,1,2,3,4,5,6,7,8,9,10,11,12]))
theorem pd (j:bS) (kA:OA) (kC:Nat) (az:List RA) (cA:OA) (cC:Nat) (bA:OA) (bC:Nat) (slA:OA) (slC:Nat) (drA:OA) (drC:Nat) (ha:List cZ) (heA:OA) (heC:Nat) (faA:OA) (faC:Nat) (prA:OA) (prC:Nat) (hin:gp j az ha):
 p9 Tryz.prog 11 [(vA (du.cells (mZ j kA kC cA cC bA bC slA slC drA drC heA heC faA faC prA prC)))] [(rd gV 3 2 fW),(rd kA j.Race.ar.aS.length 9 (j.Race.ar.aS.map au.cells)),(rd cA j.Race.ar.aj.length 2 (List.zipWith ay.cells j.Race.ar.aj az)),(dU (bo ay.gn j.Race.ar.aj az)),(rd bA j.Race.ar.aa.length 4 (j.Race.ar.aa.map bK.cells)),(rd slA j.Race.aY.length 1 (j.Race.aY.map iC)),(rd drA j.Race.cd.length 1 (j.Race.cd.map iC)),(rd heA j.Race.aD.length 1 (List.zipWith cP j.Race.aD ha)),(dU (bo fg j.Race.aD ha)),(rd faA j.aA.length 4 (j.aA.map aW.cells)),(rd prA j.ao.length 5 (j.ao.map aJ.cells))] (fun (x:(List RA)×(OA)×Nat)=>(vT [(vS x.2.1 ((bT j).length) x.2.2),(vI (db j))])) (fun (x:(List RA)×(OA)×Nat)=>x.1.length=(bT j).length) (fun (x:(List RA)×(OA)×Nat)=>[(own x.2.1 x.2.2 29 1 (List.zipWith ru (bT j) x.1)),(bU (bo GB (bT j) x.1))]):=by
 have S:=hin.race
 have N:=hin.race.line
 have AA:=hin.race.iE
 have V:=hin.race.has
 have T:=hin.race.iB
 have P:=hin.nf
 have R:=hin.np
 refine fF kr Tryz.func11 U U fun Z Q hQ hN=>?_
 try dsimp only
 refine WS fun _ H=>eL U fun X=>bE 1 U<|bE 1 U<|RK H<|WS fun _ AB=>e9 1 [] (mc 0 U I) U<|rS (CL (ue j kA kC az cA cC bA bC slA slC drA drC ha heA heC faA faC prA prC hin) (bw [1,2,3,4,5,6,7,8,9,10,11]) U)<|bE 3 U<|AL U Ht fun Y=>fR U GZ U<|bE 1 U<|RK AB<|aq fun _ J=>WS fun _ K=>rP 2 [] I ?_
 refine RK K<|cw U (bg fun A=>?_) (bf fun A=>?_)
 ·refine WS fun _ L=>?_
  have C:(bT j)=[]:=vQ A
  have B:([]:List RA).length=(bT j).length:=by rw [C]; rfl
  refine lk 29 1<|xd ?_
  rw [show (own none 0 29 1 ([]:List (List Value)))=own none 0 29 1 (List.zipWith ru (bT j) []) from by rw [C]; rfl,show bU []=bU (bo GB (bT j) []) from by rw [C]; rfl]
  refine bE 2 U<|rP 1 [] I ?_
  refine RK L<|av ?_
  refine LX hQ ([],none,0) [1,0] [] I U (by show List.all _ _=true; simp only [fu,List.all_nil,wQ,Bool.and_true]; rfl) U ?_ ?_
  ·(rw [vQ A]; rfl)
  ·exact B
 refine WK J<|WS fun _ M=>rP 1 [] (mc 0 U I) ?_
 refine cX (FZ j kA kC az cA cC bA bC slA slC drA drC ha heA heC faA faC prA prC hin asm) (bw [3,4,5,6,7,8,9,10,11,12]) U fun W E=>?_
 obtain ⟨D,F,G⟩:=W
 try dsimp only
 have B:=E
 refine rP 1 [] I ?_
 have O:(jv j)=(bT j):=by exact (iD A).symm
 rw [O] at B ⊢
 refine rP 1 [] I ?_
 refine RK M<|av ?_
 refine LX hQ (D,F,G) [0,1] [] I U (by show List.all _ _=true; simp only [fu,List.all_nil,wQ,Bool.and_true]; rfl) U ?_ ?_
 ·(rw [A]; rfl)
 ·exact B
end
section
open Go.RowKit
theorem je (n lo hi:Int):
 dK Tryz.prog 137 [(vI n),(vI lo),(vI hi)] [] (vB (decide (lo≤n∧n≤hi))):=by
 refine bG kr Tryz.func137 U U fun D Q hQ hN=>?_
 try dsimp only
 refine WS fun _ B=>bE 1 U<|RK B<|WS fun _ A=>rP 4 [] I ?_
 refine bZ (t:=10) U (aV fun C=>?_) (aU fun C=>?_)
 ·refine rP 5 [] I ?_
  refine RK A<|av<|Q1 hQ U U U ?_
  exact cB (gY.2 om)
 refine rP 5 [] I ?_
 refine RK A<|av<|Q1 hQ U U U ?_
 exact cB (bH om).symm
theorem BR (ts:List au) (tsA:OA) (tsC:Nat) (hst: ∀ x∈ts,bX x) (hlen:ts.length≤12):
 p9 Tryz.prog 160 [(vA (bM.cells (bM.mk (bx.mk tsA ts.length tsC))))] [(rd tsA ts.length 9 (ts.map au.cells))] (fun (x:(OA)×Nat)=>(vS x.1 ((iw ts (ts.length+1)).length) x.2)) (fun (x:(OA)×Nat)=>True) (fun (x:(OA)×Nat)=>[(own x.1 x.2 53 2 ((iw ts (ts.length+1)).map ai.cells))]):=by
 refine fF kr Tryz.func160 U U fun V Q hQ hN=>?_
 try dsimp only
 refine WS fun _ J=>eL U fun AA=>bE 1 U<|RK J<|WS fun _ K=>bE 1 U<|RK K<|aq fun _ L=>WS fun _ M=>rP 1 [] I ?_
 refine RK M<|aF<|eP 53 2 ?_
 have A:(0≤ts.length+1):=by exact Nat.zero_le _
 refine bQ (ι:={z:Nat×(OA)×Nat // (z.1≤ts.length+1)}) [1] [1,2] U U (fun z=>[(3,(vS z.1.2.1 ((iw ts z.1.1).length) z.1.2.2)),(4,(vI (z.1.1:Int)))]) (fun z=>[(own z.1.2.1 z.1.2.2 53 2 ((iw ts z.1.1).map ai.cells))]) (fun _=>rfl) (fun _=>rfl) (fun z=>ts.length+1-z.1.1) ⟨(0,none,0),A⟩ (bk U) (aP [1,2,0]) ?_
 clear A
 rintro ⟨⟨i,a,c⟩,B⟩ J6 AB
 try dsimp only at B
 try dsimp only
 refine aq fun _ N=>WS fun _ O=>rP 5 [] (mc 0 U I) ?_
 refine RK O<|bV U (aU fun T=>?_) (aV fun T=>?_)
 ·refine bL<|ab<|ab<|aH<|KK L<|WS fun _ E=>?_
  obtain rfl:i=ts.length+1:=by omega
  refine rP 2 [] I ?_
  refine RK E<|av<|LX hQ (a,c) [2] [] I U U U U ?_
  trivial
 refine WK N<|aq fun _ C=>aF<|WS fun _ D=>e9 2 [] (mc 0 U I) U<|rS (CL (Ab ts tsA tsC 0 (i:Int) hst hlen om) (bw [1]) U)<|bE 3 U<|AL U ed fun P=>AL U ed fun R=>qy U c_ U<|fR U c_ U<|RK D<|aw<|rP 2 [] (mc 1 U I) ?_
 refine eB (xs:=[.tmp 21]) (cs:=(ai.cells (eK ts (0:Int).toNat ((i:Int)-0).toNat))) U lu ed U U U U (by simp [Value.cells,ai.aZ]) U U fun S=>?_
 refine dH (es2:=(List.map ai.cells (iw ts (i+1)))) (m':=(iw ts (i+1)).length) 5 U U U FC U U sm (bu (es:=List.map ai.cells [(eK ts (0:Int).toNat ((i:Int)-0).toNat)]) 0 U U (by simp [ai.aZ]) U) (kT _) (by simp only [oV]; omega) (by simp only [maxLen,oV]; omega) (by rw [B7]; simp) sm U fun G H=>?_
 try dsimp only
 refine bE 1 U<|aK<|aO<|KK C<|aw<|rP 3 [] I ?_
 refine aK ?_
 have F:(vI (((i+1):Nat):Int))=(vI ((i:Int)+1)):=by exact cI om
 refine a_ (AB ⟨((i+1),G,H),(by first|omega|(simp only []; omega))⟩ _ _ _ U os (dv.cons U<|dv.cons U<|bj U F<|dv.nil _) (aP [3,4,5]))
theorem Rv (ts:List au) (tsA:OA) (tsC:Nat) (s:cG) (hlen:ts.length≤1000000) (hside: ∀ x∈ts,0≤x.jm∧x.jm≤255):
 dK Tryz.prog 153 [(vA (bM.cells (bM.mk (bx.mk tsA ts.length tsC)))),(vA (cG.cells s))] [(rd tsA ts.length 9 (ts.map au.cells))] (vT [(vA (ai.cells (OD ts s))),(vI (E4 ts s))]):=by
 refine bG kr Tryz.func153 U U fun r Q hQ hN=>?_
 try dsimp only
 refine WS fun _ R=>eL U fun i=>eL U fun k=>AL U ed fun l=>bE 1 U<|RK R<|aq fun _ S=>WS fun _ T=>e9 1 [] (mc 2 U I) U<|rS (CL (wx ts tsA tsC hlen) (bw [3]) U)<|rP 1 [] I ?_
 refine RK T<|cw U (fun AB=>?_) (fun AB=>?_)
 ·rw [Bool.not_eq_true'] at AB
  refine WS fun _ AA=>rS (SX (bq (xs:=[]) (cs:=(ai.cells (ai.mk 0 0))) U U (bp g4 U)) U U)<|fR U c_ U<|rP 1 [] I ?_
  refine RK AA<|av<|mY hQ [0] (mc 0 U I) U ?_
  (have e:=JU (s:=s) (by simpa using AB); rw [e.1,e.2]<;>rfl)
 rw [Bool.not_eq_false'] at AB
 refine WK S<|aq fun _ V=>WS fun _ W=>?_
 have M:=j9 AB
 have Z:=kX AB
 refine e9 2 [0,1] (mc 2 U (mc 1 U I)) U<|rS (CL (rr ts tsA tsC s asm asm) (bw [3]) U)<|rP 1 [] I ?_
 refine RK W<|cw U (bg fun D=>?_) (bf fun D=>?_)
 ·refine WS fun _ O=>rS (SX (bq (xs:=[]) (cs:=(ai.cells (ai.mk 0 0))) U U (bp g4 U)) U U)<|fR U c_ U<|rP 1 [] I ?_
  refine RK O<|av<|mY hQ [0] (mc 0 U I) U ?_
  (have e:=KD AB D; rw [e.1,e.2]<;>rfl)
 refine WK V<|aq fun _ H=>lI cy [0,2,3] [1,4,5,6,7] [false,false,false] [] [(cx l 53 (ai.cells (ai.mk 0 0))),(cx k 120 (cG.cells s)),(cx i 24 (bM.cells (bM.mk (bx.mk tsA ts.length tsC)))),(rd tsA ts.length 9 (ts.map au.cells)).ro] [] kr (aP [0,1,2,3]) (aP []) ?_
 have q:=D.1
 have N:=qD M D
 have p:(iw ts (ts.length+1)).length=ts.length+1:=oV
 refine eS U (LW 2 U cq U U)<|eS U (FA 0 U fK U)<|eS U (L1 (vI s.bB) 1 U cq U U)<|eC U<|mW [1,6] kr (iR ?_<|iR ?_<|ql)
 rotate_left 1
 ·refine NO U U [1,4,5,7] fun T12 J=>AL U ed fun f=>RD J 1 U<|N1 1<|NO U U [4,5,7] fun T14 P=>cX (BR ts tsA tsC asm asm) (bw [4]) U fun Y b=>?_
  obtain ⟨d,o⟩:=Y
  try dsimp only
  refine RD P 2 U<|N1 4<|NO U U [5,7] fun T19 E=>?_
  obtain ⟨z,hz⟩:=aM (iw ts (ts.length+1)) ((s.bB).toNat) om
  have A:=bO ai.cells hz
  refine rS (IA ((s.bB).toNat) U (ak (n:=(iw ts (ts.length+1)).length) 0 U sm) lu dc om om)<|RD E 2 U<|N1 5<|NO U U [7] fun T20 F=>rS (lS ((s.bB).toNat) 0 (ai.cells z) U cq (ak (n:=(iw ts (ts.length+1)).length) 0 U sm) A U dc U U)<|RD F 2 U<|N1 7<|NO U U [] fun T21 C=>qy U c_ U<|RD C 2 U<|lU<|KK H<|WS fun _ B=>rP 1 [] I ?_
  have A:=p_ hz
  have G:=mw M 0 s.bB.toNat
  unfold lT at N
  rw [← A] at G
  refine e9 11 [0,1,0,1] (mc 1 U (mc 3 U I)) U<|rS (SX (bq (xs:=[(0,.tmp 27),(1,.tmp 33)]) (cs:=(ai.cells (ai.mk (z.Lo+s.mU.Lo) (z.Hi+s.mU.Hi)))) U U (bp g4 U)) U U)<|FH U c_ U<|rP 1 [] I ?_
  refine RK B<|av<|mY hQ [0] (mc 2 U I) U ?_
  (have e:=xh AB D; subst A; rw [e.1,e.2]<;>rfl)
 refine NO U U [4,5,6,7] fun T12 J=>cX (BR ts tsA tsC asm asm) (bw [3]) U fun X a=>?_
 obtain ⟨c,m⟩:=X
 try dsimp only
 refine RD J 1 U<|mW [4,6] kr (iR ?_<|iR ?_<|ql)
 rotate_left 1
 ·refine NO U U [4,5,7] fun T17 K=>AL U ed fun g=>RD K 2 U<|N1 4<|NO U U [5,7] fun T19 E=>?_
  obtain ⟨z,hz⟩:=aM (iw ts (ts.length+1)) ((s.bB).toNat) om
  have A:=bO ai.cells hz
  refine rS (IA ((s.bB).toNat) U (ak (n:=(iw ts (ts.length+1)).length) 1 U sm) lu dc om om)<|RD E 2 U<|N1 5<|NO U U [7] fun T20 F=>rS (lS ((s.bB).toNat) 0 (ai.cells z) U cq (ak (n:=(iw ts (ts.length+1)).length) 1 U sm) A U dc U U)<|RD F 2 U<|N1 7<|NO U U [] fun T21 C=>fR U c_ U<|RD C 2 U<|lU<|KK H<|WS fun _ B=>rP 1 [] I ?_
  have A:=p_ hz
  have G:=mw M 0 s.bB.toNat
  unfold lT at N
  rw [← A] at G
  refine e9 11 [0,1,0,1] (mc 0 U (mc 3 U I)) U<|rS (SX (bq (xs:=[(0,.tmp 27),(1,.tmp 33)]) (cs:=(ai.cells (ai.mk (z.Lo+s.mU.Lo) (z.Hi+s.mU.Hi)))) U U (bp g4 U)) U U)<|FH U c_ U<|rP 1 [] I ?_
  refine RK B<|av<|mY hQ [0] (mc 2 U I) U ?_
  (have e:=xh AB D; subst A; rw [e.1,e.2]<;>rfl)
 refine NO U U [5,6,7] fun T17 K=>?_
 obtain ⟨z,hz⟩:=aM (iw ts (ts.length+1)) ((s.bB).toNat) om
 have A:=bO ai.cells hz
 refine rS (IA ((s.bB).toNat) U (ak (n:=(iw ts (ts.length+1)).length) 0 U sm) lu dc om om)<|RD K 1 U<|mW [5,6] kr (iR ?_<|iR ?_<|ql)
 rotate_left 1
 ·refine NO U U [5,7] fun T18 L=>AL U ed fun h=>RD L 2 U<|N1 5<|NO U U [7] fun T20 F=>rS (lS ((s.bB).toNat) 0 (ai.cells z) U cq (ak (n:=(iw ts (ts.length+1)).length) 1 U sm) A U dc U U)<|RD F 2 U<|N1 7<|NO U U [] fun T21 C=>fR U c_ U<|RD C 2 U<|lU<|KK H<|WS fun _ B=>rP 1 [] I ?_
  have A:=p_ hz
  have G:=mw M 0 s.bB.toNat
  unfold lT at N
  rw [← A] at G
  refine e9 11 [0,1,0,1] (mc 0 U (mc 3 U I)) U<|rS (SX (bq (xs:=[(0,.tmp 27),(1,.tmp 33)]) (cs:=(ai.cells (ai.mk (z.Lo+s.mU.Lo) (z.Hi+s.mU.Hi)))) U U (bp g4 U)) U U)<|FH U c_ U<|rP 1 [] I ?_
  refine RK B<|av<|mY hQ [0] (mc 2 U I) U ?_
  (have e:=xh AB D; subst A; rw [e.1,e.2]<;>rfl)
 refine NO U U [6,7] fun T18 L=>rS (lS ((s.bB).toNat) 0 (ai.cells z) U cq (ak (n:=(iw ts (ts.length+1)).length) 0 U sm) A U dc U U)<|RD L 1 U<|N1 6<|NO U U [7] fun T19 E=>AL U ed fun j=>RD E 2 U<|N1 7<|NO U U [] fun T21 C=>fR U c_ U<|RD C 2 U<|lU<|KK H<|WS fun _ B=>rP 1 [] I ?_
 have A:=p_ hz
 have G:=mw M 0 s.bB.toNat
 unfold lT at N
 rw [← A] at G
 refine e9 11 [0,1,0,1] (mc 0 U (mc 3 U I)) U<|rS (SX (bq (xs:=[(0,.tmp 27),(1,.tmp 33)]) (cs:=(ai.cells (ai.mk (z.Lo+s.mU.Lo) (z.Hi+s.mU.Hi)))) U U (bp g4 U)) U U)<|FH U c_ U<|rP 1 [] I ?_
 refine RK B<|av<|mY hQ [0] (mc 2 U I) U ?_
 (have e:=xh AB D; subst A; rw [e.1,e.2]<;>rfl)
theorem FO (ts:List au) (tsA:OA) (tsC:Nat) (p:cG) (q:cG) (hlen:ts.length≤1000000) (hside: ∀ x∈ts,0≤x.jm∧x.jm≤255) (hord: ¬ q.bB<p.bB):
 dK Tryz.prog 154 [(vA (bM.cells (bM.mk (bx.mk tsA ts.length tsC)))),(vA (cG.cells p)),(vA (cG.cells q))] [(rd tsA ts.length 9 (ts.map au.cells))] (vT [(vA (ai.cells (k7 ts p q))),(vI (l9 ts p q))]):=by
 refine bG kr Tryz.func154 U U fun k Q hQ hN=>?_
 try dsimp only
 refine WS fun _ N=>eL U fun f=>eL U fun g=>eL U fun i=>AL U ed fun j=>bE 1 U<|RK N<|aq fun _ O=>WS fun _ P=>e9 1 [] (mc 3 U I) U<|rS (CL (wx ts tsA tsC hlen) (bw [4]) U)<|rP 1 [] I ?_
 refine RK P<|cw U (fun A=>?_) (fun A=>?_)
 ·rw [Bool.not_eq_true'] at A
  refine WS fun _ R=>rS (SX (bq (xs:=[]) (cs:=(ai.cells (ai.mk 0 0))) U U (bp g4 U)) U U)<|fR U c_ U<|rP 1 [] I ?_
  refine RK R<|av<|mY hQ [0] (mc 0 U I) U ?_
  (have e:=uX (a:=p) (b:=q) (by simpa using A); rw [e.1,e.2]<;>rfl)
 rw [Bool.not_eq_false'] at A
 refine WK O<|aq fun _ S=>WS fun _ E=>?_
 have D:=j9 A
 have M:=kX A
 refine e9 2 [0,1] (mc 3 U (mc 2 U I)) U<|rS (CL (rr ts tsA tsC p asm asm) (bw [4]) U)<|rP 2 [] I ?_
 refine bZ (t:=20) U (bg fun B=>?_) (bf fun B=>?_)
 ·refine bE 5 U<|RK E<|aT U<|WS fun _ G=>rS (SX (bq (xs:=[]) (cs:=(ai.cells (ai.mk 0 0))) U U (bp g4 U)) U U)<|fR U c_ U<|rP 1 [] I ?_
  refine RK G<|av<|mY hQ [0] (mc 0 U I) U ?_
  (have e:=pq (a:=p) (b:=q) A (fun h=>by first|exact B h.1|exact C h.2); rw [e.1,e.2]<;>rfl)
 refine e9 2 [0,1] (mc 3 U (mc 1 U I)) U<|rS (CL (rr ts tsA tsC q asm asm) (bw [4]) U)<|rP 2 [] I ?_
 refine RK E<|cw U (bg fun C=>?_) (bf fun C=>?_)
 ·refine WS fun _ H=>rS (SX (bq (xs:=[]) (cs:=(ai.cells (ai.mk 0 0))) U U (bp g4 U)) U U)<|fR U c_ U<|rP 1 [] I ?_
  refine RK H<|av<|mY hQ [0] (mc 0 U I) U ?_
  (have e:=pq (a:=p) (b:=q) A (fun h=>by first|exact B h.1|exact C h.2); rw [e.1,e.2]<;>rfl)
 refine WK S<|aq fun _ AB=>WS fun _ J=>?_
 have AA:fO ts p∧fO ts q:=⟨B,C⟩
 have T:=qD D B
 have V:=qD D C
 have c:=B.1
 have d:=C.1
 have Y:=xH D M C B
 unfold lT at T V
 refine rP 5 [0,1] (mc 1 U (mc 2 U I)) ?_
 refine RK J<|cw U (aV fun F=>?_) (aU fun F=>?_)
 ·exfalso; omega
 refine WK AB<|WS fun _ K=>rP 2 [] (mc 3 U I) ?_
 have Z:=mw D p.bB.toNat (q.bB-p.bB).toNat
 refine e9 3 [0,1] (mc 2 U (mc 1 U I)) U<|rS (CL (Ab ts tsA tsC p.bB q.bB asm asm om) (bw [4]) U)<|bE 3 U<|AL U ed fun W=>AL U ed fun X=>qy U c_ U<|fR U c_ U<|RK K<|WS fun _ L=>e9 20 [0,1,2,0,1,2] (mc 1 U (mc 3 U (mc 4 U I))) U<|rS (SX (bq (xs:=[(0,.tmp 64),(1,.tmp 74)]) (cs:=(ai.cells (ai.mk ((((eK ts p.bB.toNat (q.bB-p.bB).toNat).Lo)+q.mU.Lo)-p.mU.Hi) ((((eK ts p.bB.toNat (q.bB-p.bB).toNat).Hi)+q.mU.Hi)-p.mU.Lo)))) U U (bp g4 U)) U U)<|FH U c_ U<|rP 1 [] I ?_
 refine RK L<|av<|mY hQ [0] (mc 2 U I) U ?_
 (have e:=lK A AA; rw [e.1,e.2,qL F]<;>rfl)
theorem KT (ts:List au) (tsA:OA) (tsC:Nat) (p:cG) (q:cG) (hlen:ts.length≤1000000) (hside: ∀ x∈ts,0≤x.jm∧x.jm≤255):
 dK Tryz.prog 154 [(vA (bM.cells (bM.mk (bx.mk tsA ts.length tsC)))),(vA (cG.cells p)),(vA (cG.cells q))] [(rd tsA ts.length 9 (ts.map au.cells))] (vT [(vA (ai.cells (k7 ts p q))),(vI (l9 ts p q))]):=by
 refine bG kr Tryz.func154 U U fun u Q hQ hN=>?_
 try dsimp only
 refine WS fun _ S=>eL U fun n=>eL U fun o=>eL U fun r=>AL U ed fun s=>bE 1 U<|RK S<|aq fun _ T=>WS fun _ AA=>e9 1 [] (mc 3 U I) U<|rS (CL (wx ts tsA tsC hlen) (bw [4]) U)<|rP 1 [] I ?_
 refine RK AA<|cw U (fun A=>?_) (fun A=>?_)
 ·rw [Bool.not_eq_true'] at A
  refine WS fun _ V=>rS (SX (bq (xs:=[]) (cs:=(ai.cells (ai.mk 0 0))) U U (bp g4 U)) U U)<|fR U c_ U<|rP 1 [] I ?_
  refine RK V<|av<|mY hQ [0] (mc 0 U I) U ?_
  (have e:=uX (a:=p) (b:=q) (by simpa using A); rw [e.1,e.2]<;>rfl)
 rw [Bool.not_eq_false'] at A
 refine WK T<|aq fun _ W=>WS fun _ E=>?_
 have D:=j9 A
 have P:=kX A
 refine e9 2 [0,1] (mc 3 U (mc 2 U I)) U<|rS (CL (rr ts tsA tsC p asm asm) (bw [4]) U)<|rP 2 [] I ?_
 refine bZ (t:=20) U (bg fun B=>?_) (bf fun B=>?_)
 ·refine bE 5 U<|RK E<|aT U<|WS fun _ G=>rS (SX (bq (xs:=[]) (cs:=(ai.cells (ai.mk 0 0))) U U (bp g4 U)) U U)<|fR U c_ U<|rP 1 [] I ?_
  refine RK G<|av<|mY hQ [0] (mc 0 U I) U ?_
  (have e:=pq (a:=p) (b:=q) A (fun h=>by first|exact B h.1|exact C h.2); rw [e.1,e.2]<;>rfl)
 refine e9 2 [0,1] (mc 3 U (mc 1 U I)) U<|rS (CL (rr ts tsA tsC q asm asm) (bw [4]) U)<|rP 2 [] I ?_
 refine RK E<|cw U (bg fun C=>?_) (bf fun C=>?_)
 ·refine WS fun _ H=>rS (SX (bq (xs:=[]) (cs:=(ai.cells (ai.mk 0 0))) U U (bp g4 U)) U U)<|fR U c_ U<|rP 1 [] I ?_
  refine RK H<|av<|mY hQ [0] (mc 0 U I) U ?_
  (have e:=pq (a:=p) (b:=q) A (fun h=>by first|exact B h.1|exact C h.2); rw [e.1,e.2]<;>rfl)
 refine WK W<|aq fun _ AB=>WS fun _ J=>?_
 have R:fO ts p∧fO ts q:=⟨B,C⟩
 have X:=qD D B
 have Y:=qD D C
 have l:=B.1
 have m:=C.1
 have j:=xH D P C B
 unfold lT at X Y
 refine rP 5 [0,1] (mc 1 U (mc 2 U I)) ?_
 refine RK J<|cw U (aV fun F=>?_) (aU fun F=>?_)
 ·refine WS fun _ K=>e9 3 [0,1,2] (mc 3 U (mc 1 U (mc 2 U I))) U<|rS (CL (FO ts tsA tsC q p hlen hside om) (bw [4]) U)<|bE 3 U<|AL U ed fun d=>fR U c_ U<|bE 1 U<|RK K<|WS fun _ L=>rP 2 [] (mc 0 U I) ?_
  have O:k7 ts q p=j4 ts q p:=(lK A ⟨C,B⟩).2
  have Z: -400000≤(k7 ts q p).Lo∧(k7 ts q p).Hi≤400000:=by rw [O]; omega
  have c:(k7 ts q p).Lo≤(k7 ts q p).Hi:=by rw [O]; omega
  refine rS (NG U ⟨om,om⟩)<|e9 2 [] (mc 0 U I) U<|rS (NG U ⟨om,om⟩)<|rS (SX (bq (xs:=[(0,.tmp 41),(1,.tmp 44)]) (cs:=(ai.cells (ai.mk (-((k7 ts q p).Hi)) (-((k7 ts q p).Lo))))) U U (bp g4 U)) U U)<|qy U c_ U<|rP 1 [] I ?_
  refine RK L<|av<|mY hQ [0] (mc 1 U I) U ?_
  (have e:=lK A R; have i:=lK A ⟨C,B⟩; rw [e.1,e.2,i.2,DQ F]<;>rfl)
 refine WK AB<|WS fun _ M=>rP 2 [] (mc 3 U I) ?_
 have k:=mw D p.bB.toNat (q.bB-p.bB).toNat
 refine e9 3 [0,1] (mc 2 U (mc 1 U I)) U<|rS (CL (Ab ts tsA tsC p.bB q.bB asm asm om) (bw [4]) U)<|bE 3 U<|AL U ed fun f=>AL U ed fun g=>qy U c_ U<|fR U c_ U<|RK M<|WS fun _ N=>e9 20 [0,1,2,0,1,2] (mc 1 U (mc 3 U (mc 4 U I))) U<|rS (SX (bq (xs:=[(0,.tmp 64),(1,.tmp 74)]) (cs:=(ai.cells (ai.mk ((((eK ts p.bB.toNat (q.bB-p.bB).toNat).Lo)+q.mU.Lo)-p.mU.Hi) ((((eK ts p.bB.toNat (q.bB-p.bB).toNat).Hi)+q.mU.Hi)-p.mU.Lo)))) U U (bp g4 U)) U U)<|FH U c_ U<|rP 1 [] I ?_
 refine RK N<|av<|mY hQ [0] (mc 2 U I) U ?_
 (have e:=lK A R; rw [e.1,e.2,qL F]<;>rfl)
end
section
open Go.RowKit
theorem HW (l:br) (kA:OA) (kC:Nat) (az:List RA) (cA:OA) (cC:Nat) (bA:OA) (bC:Nat) (hraw:s9 l az):
 dK Tryz.prog 75 [(vA (ct.cells (jW l kA kC cA cC bA bC)))] [(rd kA l.aS.length 9 (l.aS.map au.cells)),(rd cA l.aj.length 2 (List.zipWith ay.cells l.aj az)),(dU (bo ay.gn l.aj az)),(rd bA l.aa.length 4 (l.aa.map bK.cells))] (vB (decide (mo l))):=by
 have e:=hraw.se
 have d:=hraw.sb
 have a:=hraw.nP
 have b:=hraw.r9
 refine bG kr Tryz.func75 U U fun g Q hQ hN=>?_
 try dsimp only
 refine WS fun _ O=>eL U fun f=>bE 1 U<|RK O<|aq fun _ P=>WS fun _ D=>bE 1 U<|rS (LP (bM.cells (bM.mk (bx.mk kA l.aS.length kC))) 0 U cq U U U)<|rS (CL (MS l.aS kA kC) (bw [1]) U)<|rP 1 [] I ?_
 refine bZ (t:=7) U (aV fun Z=>?_) (aU fun Z=>?_)
 ·refine bE 11 U<|RK D<|aT U<|WS fun _ R=>rP 1 [] I ?_
  refine RK R<|av<|Q1 hQ U U U ?_
  exact cB (dI (.inl om)).symm
 refine rP 6 [] (mc 0 U I) ?_
 refine bZ (t:=13) U (aV fun C=>?_) (aU fun C=>?_)
 ·refine bE 5 U<|RK D<|aT U<|WS fun _ S=>rP 1 [] I ?_
  refine RK S<|av<|Q1 hQ U U U ?_
  exact cB (dI (.inl om)).symm
 refine rP 5 [] (mc 0 U I) ?_
 refine RK D<|cw U (aV fun N=>?_) (aU fun N=>?_)
 ·refine WS fun _ T=>rP 1 [] I ?_
  refine RK T<|av<|Q1 hQ U U U ?_
  exact cB (dI (.inl om)).symm
 refine WK P<|aq fun _ AA=>WS fun _ V=>rP 1 [] I ?_
 refine RK V<|aF ?_
 have A:(0≤l.aj.length)∧(zP l 0):=by exact ⟨Nat.zero_le _,fun j c hj=>absurd hj (Nat.not_lt_zero _)⟩
 refine bQ (ι:={z:Nat // (z≤l.aj.length)∧(zP l z)}) [1] [0,1,2,3,4] U U (fun z=>[(3,(vI (z.1:Int)))]) (fun z=>[]) (fun _=>rfl) (fun _=>rfl) (fun z=>l.aj.length-z.1) ⟨0,A⟩ (bk U) (aP [0,1,2,3,4]) ?_
 clear A
 rintro ⟨i,⟨W,B⟩⟩ J10 F
 try dsimp only
 refine aq fun _ G=>WS fun _ H=>rP 5 [] (mc 0 U I) ?_
 refine RK H<|bV U (aU fun C=>?_) (aV fun C=>?_)
 ·refine bL<|ab<|ab<|aH<|KK AA<|WS fun _ L=>rP 1 [] I ?_
  refine RK L<|av<|Q1 hQ U U U ?_
  exact cB (bH (Jb om om B)).symm
 refine WK G<|aq fun _ AB=>aF<|WS fun _ J=>rP 3 [] (mc 0 U I) ?_
 obtain ⟨x,hx⟩:=aM l.aj i om
 obtain ⟨xa,X⟩:=aM az i om
 have Y:(List.zipWith ay.cells l.aj az)[i]? =some (ay.cells x xa):=dx hx X
 refine rS (IA i U (aG 2 U) Ae dc om om)<|rS (o1 ((i*2)+1) U (aG 2 U) (Nat.mul_pos om dc) fK U)<|rS (gQ i 1 (vS xa.1 x.bI.length xa.2) U cq (aG 2 U) Y U dc U)<|rP 2 [] I ?_
 refine RK J<|cw U (aV fun E=>?_) (aU fun E=>?_)
 ·refine WS fun _ K=>rP 1 [] I ?_
  refine RK K<|av<|Q1 hQ U U U ?_
  exact cB (dI (Ka hx E)).symm
 refine cg<|aO<|KK AB<|aw<|rP 3 [] I ?_
 refine aK ?_
 have M:(vI (((i+1):Nat):Int))=(vI ((i:Int)+1)):=by exact cI om
 refine a_ (F ⟨(i+1),⟨om,lX B hx om⟩⟩ _ _ _ U os (dv.cons U<|bj U M<|dv.nil _) (aP [0,1,2,3,4]))
theorem yg (d m:Int) (hd:0≤d∧d≤1000) (hm:0≤m∧m≤90000000):
 dK Tryz.prog 152 [(vI d),(vI m)] [] (vI (o0 (d*m) 1000000)):=by
 have J:=Qo (a:=d) (b:=m) (A:=1000) (B:=90000000) hd.1 hd.2 hm.1 hm.2
 refine bG kr Tryz.func152 U U fun K Q hQ hN=>?_
 try dsimp only
 refine WS fun _ C=>bE 1 U<|RK C<|WS fun _ D=>bE 2 U<|rS (BI U (tQ ⟨om,om⟩))<|bE 1 U<|RK D<|aq fun _ E=>WS fun _ F=>bE 1 U<|rS (BI U (HD om om))<|rP 1 [] I ?_
 refine RK F<|cw U (aV fun AA=>?_) (aU fun AA=>?_)
 ·refine WS fun _ G=>bE 1 U<|rS (BI U (uk om om om))<|rP 2 [] I ?_
  refine RK G<|av<|Q1 hQ U U U ?_
  exact cI (by unfold o0; omega)
 refine WK E<|WS fun _ H=>bE 1 U<|rS (BI U (uk om om om))<|rP 1 [] I ?_
 refine RK H<|av<|Q1 hQ U U U ?_
 exact cI (by unfold o0; omega)
theorem Jx (c:ay) (sA:OA) (sC:Nat) (hlen:c.bI.length≤1000000):
 dK Tryz.prog 138 [(vA (dy.cells (dy.mk c.dF (bx.mk sA c.bI.length sC))))] [(rd sA c.bI.length 3 (c.bI.map cQ.cells))] (vB (decide (fr c))):=by
 refine bG kr Tryz.func138 U U fun w0 Q hQ hN=>?_
 try dsimp only
 refine WS fun _ EQ=>eL U fun b2=>bE 1 U<|RK EQ<|aq fun _ Eq=>WS fun _ A6=>e9 2 [] (mc 0 U I) U<|rS (CL (je c.dF 0 1000) (aN) U)<|rP 2 [] I ?_
 refine bZ (t:=14) U (bg fun Cp=>?_) (bf fun Cp=>?_)
 ·refine bE 6 U<|RK A6<|aT U<|WS fun _ Eu=>rP 1 [] I ?_
  refine RK Eu<|av<|Q1 hQ U U U ?_
  exact cB (bH fun h=>by have q1:=h.sE; have q2:=h.len; omega).symm
 refine e9 3 [] (mc 0 U I) U<|rS (CL (je (c.bI.length:Int) 1 5) (aN) U)<|rP 2 [] I ?_
 refine RK A6<|cw U (bg fun Cx=>?_) (bf fun Cx=>?_)
 ·refine WS fun _ FG=>rP 1 [] I ?_
  refine RK FG<|av<|Q1 hQ U U U ?_
  exact cB (bH fun h=>by have q1:=h.sE; have q2:=h.len; omega).symm
 refine WK Eq<|aq fun _ FS=>WS fun _ Fd=>rP 1 [] I ?_
 refine RK Fd<|aF ?_
 have A:(0≤c.bI.length)∧(∀ (j:Nat) y,j<0→c.bI[j]? =some y→fT c j y):=by exact ⟨Nat.zero_le _,fun j y hj=>absurd hj (Nat.not_lt_zero _)⟩
 refine bQ (ι:={z:Nat // (z≤c.bI.length)∧(∀ (j:Nat) y,j<z→c.bI[j]? =some y→fT c j y)}) [1] [0,1] U U (fun z=>[(3,(vI (z.1:Int)))]) (fun z=>[]) (fun _=>rfl) (fun _=>rfl) (fun z=>c.bI.length-z.1) ⟨0,A⟩ (bk U) (aP [0,1]) ?_
 clear A
 rintro ⟨i,⟨a,C⟩⟩ J9 f
 try dsimp only
 have Hi:=JJ a C
 refine aq fun _ g=>WS fun _ l=>rP 5 [] (mc 0 U I) ?_
 refine RK l<|cw U (aV fun C0=>?_) (aU fun C0=>?_)
 ·refine WK g<|aq fun _ AA=>aF<|WS fun _ n=>rP 3 [] (mc 0 U I) ?_
  obtain ⟨x,hx⟩:=aM c.bI i om
  have b:=bO cQ.cells hx
  refine rS (IA i U (aG 1 U) xU dc om om)<|rS (lS i 0 (cQ.cells x) U cq (aG 1 U) b U dc U U)<|AL U yw fun Gi=>fR U zK U<|RK n<|aq fun _ B=>dA cy 41 kr<|lR 2 [] (mc 0 U I) U<|dS (CL (je x.At 0 86400000) (aN) U)<|dP 2 [] I ?_
  refine hO (t:=37) U (bg fun C1=>?_) (bf fun C1=>?_)
  ·refine k6 36 U<|cM<|RK B<|aT U<|WS fun _ p=>rP 1 [] I ?_
   refine RK p<|av<|Q1 hQ U U U ?_
   exact cB (bH fun h=>by have q:=h.sync i x hx; unfold fT at q; (rw [gT om] at q; omega)).symm
  refine dP 3 [] I ?_
  refine jD (t:=40) U (aU fun C2=>?_) (aV fun C2=>?_)
  ·refine dP 19 [] (mc 0 U I) ?_
   refine hO (t:=59) U (aV fun X=>?_) (aU fun X=>?_)
   ·refine k6 14 U<|cM<|RK B<|aT U<|WS fun _ w=>rP 1 [] I ?_
    refine RK w<|av<|Q1 hQ U U U ?_
    exact cB (bH fun h=>by have q:=h.sync i x hx; unfold fT at q; (rw [gT om] at q; omega)).symm
   refine dP 9 [] (mc 0 U I) ?_
   refine hO (t:=68) U (aV fun Y=>?_) (aU fun Y=>?_)
   ·refine k6 5 U<|cM<|RK B<|aT U<|WS fun _ AC=>rP 1 [] I ?_
    refine RK AC<|av<|Q1 hQ U U U ?_
    exact cB (bH fun h=>by have q:=h.sync i x hx; unfold fT at q; (rw [gT om] at q; omega)).symm
   refine dP 5 [] (mc 0 U I) ?_
   refine cM<|RK B<|bV U (aU fun Z=>?_) (aV fun Z=>?_)
   ·refine cg<|aO<|KK AA<|aw<|rP 3 [] I ?_
    refine aK ?_
    have A9:(vI (((i+1):Nat):Int))=(vI ((i:Int)+1)):=by exact cI om
    refine a_ (f ⟨(i+1),⟨om,lX C hx (by unfold fT; (rw [gT om]; omega))⟩⟩ _ _ _ U os (dv.cons U<|bj U A9<|dv.nil _) (aP [1,2]))
   refine WS fun _ AN=>rP 1 [] I ?_
   refine RK AN<|av<|Q1 hQ U U U ?_
   exact cB (bH fun h=>by have q:=h.sync i x hx; unfold fT at q; (rw [gT om] at q; omega)).symm
  refine dP 6 [0,1] (mc 0 U (mc 1 U I)) ?_
  obtain ⟨y,hy⟩:=aM c.bI (i-1) om
  have d:=bO cQ.cells hy
  refine dS (IA (i-1) U (aG 2 U) xU dc om om)<|dS (o1 ((i-1)*3) U (aG 2 U) (Nat.mul_pos om dc) fK U)<|dS (gQ (i-1) 0 (vI y.At) U cq (aG 2 U) d U dc U)<|dP 4 [] I ?_
  refine hO (t:=53) U (aV fun C3=>?_) (aU fun C3=>?_)
  ·refine k6 20 U<|cM<|RK B<|aT U<|WS fun _ r=>rP 1 [] I ?_
   refine RK r<|av<|Q1 hQ U U U ?_
   exact cB (bH fun h=>by have q:=h.sync i x hx; unfold fT at q; (rw [wT om hy] at q; omega)).symm
  refine dP 6 [] (mc 0 U I) ?_
  refine hO (t:=59) U (aV fun X=>?_) (aU fun X=>?_)
  ·refine k6 14 U<|cM<|RK B<|aT U<|WS fun _ s=>rP 1 [] I ?_
   refine RK s<|av<|Q1 hQ U U U ?_
   exact cB (bH fun h=>by have q:=h.sync i x hx; unfold fT at q; (rw [gT om] at q; omega)).symm
  refine dP 9 [] (mc 0 U I) ?_
  refine hO (t:=68) U (aV fun Y=>?_) (aU fun Y=>?_)
  ·refine k6 5 U<|cM<|RK B<|aT U<|WS fun _ u=>rP 1 [] I ?_
   refine RK u<|av<|Q1 hQ U U U ?_
   exact cB (bH fun h=>by have q:=h.sync i x hx; unfold fT at q; (rw [gT om] at q; omega)).symm
  refine dP 5 [] (mc 0 U I) ?_
  refine cM<|RK B<|bV U (aU fun Z=>?_) (aV fun Z=>?_)
  ·refine cg<|aO<|KK AA<|aw<|rP 3 [] I ?_
   refine aK ?_
   have A8:(vI (((i+1):Nat):Int))=(vI ((i:Int)+1)):=by exact cI om
   refine a_ (f ⟨(i+1),⟨om,lX C hx (by unfold fT; (rw [wT om hy]; omega))⟩⟩ _ _ _ U os (dv.cons U<|bj U A8<|dv.nil _) (aP [1,2]))
  refine WS fun _ v=>rP 1 [] I ?_
  refine RK v<|av<|Q1 hQ U U U ?_
  exact cB (bH fun h=>by have q:=h.sync i x hx; unfold fT at q; (rw [gT om] at q; omega)).symm
 refine bL<|ab<|ab<|aH<|KK FS<|aq fun _ AO=>WS fun _ Am=>rP 1 [] I ?_
 refine RK Am<|aF ?_
 have A:(0≤c.bI.length)∧(ti c 0):=by exact ⟨Nat.zero_le _,fun j y hj=>absurd hj (Nat.not_lt_zero _)⟩
 refine bQ (ι:={z:Nat // (z≤c.bI.length)∧(ti c z)}) [1] [0,1] U U (fun z=>[(5,(vI (z.1:Int)))]) (fun z=>[]) (fun _=>rfl) (fun _=>rfl) (fun z=>c.bI.length-z.1) ⟨0,A⟩ (bk U) (aP [0,1]) ?_
 clear A
 rintro ⟨m,⟨B3,G⟩⟩ J28 e
 try dsimp only
 have F:=x3 (P:=fT c) om C
 refine aq fun _ A0=>WS fun _ A1=>rP 5 [] (mc 0 U I) ?_
 refine RK A1<|bV U (aU fun Di=>?_) (aV fun Di=>?_)
 ·refine bL<|ab<|ab<|aH<|KK AO<|WS fun _ A7=>rP 1 [] I ?_
  refine RK A7<|av<|Q1 hQ U U U ?_
  exact cB (dI (HI om om (x3 om C) om G)).symm
 refine WK A0<|aq fun _ A2=>aF<|WS fun _ A3=>rP 1 [] I ?_
 refine RK A3<|aF ?_
 have A:(0≤m)∧(∀ y,c.bI[m]? =some y→EE c y 0):=by exact ⟨Nat.zero_le _,fun y _ j o hj=>absurd hj (Nat.not_lt_zero _)⟩
 refine bQ (ι:={z:Nat // (z≤m)∧(∀ y,c.bI[m]? =some y→EE c y z)}) [1,5] [0,1] U U (fun z=>[(6,(vI (z.1:Int)))]) (fun z=>[]) (fun _=>rfl) (fun _=>rfl) (fun z=>m-z.1) ⟨0,A⟩ (bk U) (aP [0,1]) ?_
 clear A
 rintro ⟨k,⟨B9,D⟩⟩ J33 T
 try dsimp only
 refine aq fun _ A4=>WS fun _ A5=>rP 3 [] I ?_
 refine RK A5<|bV U (aU fun Do=>?_) (aV fun Do=>?_)
 ·refine bL<|ab<|ab<|aH<|aO<|KK A2<|aw<|rP 3 [] I ?_
  refine aK ?_
  have Bx:(vI (((m+1):Nat):Int))=(vI ((m:Int)+1)):=by exact cI om
  refine a_ (e ⟨(m+1),⟨om,Dw G D om⟩⟩ _ _ _ U os (dv.cons U<|bj U Bx<|dv.nil _) (aP [0,1]))
 refine WK A4<|aq fun _ V=>aF<|aq fun _ W=>lI cy [0,1,2,3,4,5,6,7,8,9] [10,11,12,13] [false,false,false,false,false,false,false,false,false,false] [] [(cx b2 73 (dy.cells (dy.mk c.dF (bx.mk sA c.bI.length sC)))),(rd sA c.bI.length 3 (c.bI.map cQ.cells)).ro] [] kr (aP [0,1]) (aP [])<|eS U (FA 1 U fK U)<|eS U (L1 (vS sA c.bI.length sC) 0 U cq U U)<|eS U (MV U) ?_
 obtain ⟨x,hx⟩:=aM c.bI k om
 have b:=bO cQ.cells hx
 refine eS U (IA k U (aG 1 U) xU dc om om)<|eS U (lS k 0 (cQ.cells x) U cq (aG 1 U) b U dc U U)<|eS U (FA 1 U fK U)<|eS U (L1 (vS sA c.bI.length sC) 0 U cq U U)<|eS U (MV U) ?_
 obtain ⟨y,hy⟩:=aM c.bI m om
 have d:=bO cQ.cells hy
 refine eS U (IA m U (aG 1 U) xU dc om om)<|eS U (lS m 0 (cQ.cells y) U cq (aG 1 U) d U dc U U)<|eC U<|mW [10,11] kr (iR ?_<|iR ?_<|ql)
 rotate_left 1
 ·refine NO U U [10,12,13] fun T38 M=>AL U yw fun Ci=>RD M 1 U<|N1 10<|NO U U [12,13] fun T40 N=>AL U yw fun Ck=>RD N 2 U<|N1 12<|NO U U [13] fun T42 O=>fR U zK U<|RD O 2 U<|N1 13<|NO U U [] fun T43 R=>qy U zK U<|RD R 2 U<|lU<|KK W<|WS fun _ J=>rP 6 [0,1,2] (mc 2 U (mc 1 U (mc 0 U I))) ?_
  obtain ⟨Fn,GE,GT⟩:=uH (fun j z _ hz=>F j z hz) hy (F _ _ hy) (show k<m by omega) hx
  refine bE 1 U<|rS (CL (yg c.dF (y.At-x.At) om om) (aN) U)<|bE 1 U<|RK J<|WS fun _ E=>rP 10 [0,1] (mc 0 U (mc 1 U I)) ?_
  refine bZ (t:=113) U (aV fun H=>?_) (aU fun H=>?_)
  ·refine bE 10 U<|RK E<|aT U<|WS fun _ K=>rP 1 [] I ?_
   refine RK K<|av<|Q1 hQ U U U ?_
   exact cB (bH fun h=>by have q:=h.pair m k y x hy om hx; unfold nJ at q; omega).symm
  refine rP 10 [0,1] (mc 1 U (mc 0 U I)) ?_
  refine RK E<|bV U (aU fun AB=>?_) (aV fun AB=>?_)
  ·refine cg<|aO<|KK V<|aw<|rP 3 [] I ?_
   refine aK ?_
   have S:(vI (((k+1):Nat):Int))=(vI ((k:Int)+1)):=by exact cI om
   refine a_ (T ⟨(k+1),⟨om,fun z hz=>by rw [hy] at hz; cases hz; exact lX (D _ hy) hx (by unfold nJ; omega)⟩⟩ _ _ _ rfl os (dv.cons rfl<|dv.cons rfl<|bj rfl S<|dv.nil _) (aP [2,3]))
  refine WS fun _ L=>rP 1 [] I ?_
  refine RK L<|av<|Q1 hQ U U U ?_
  exact cB (bH fun h=>by have q:=h.pair m k y x hy om hx; unfold nJ at q; omega).symm
 refine NO U U [11,12,13] fun T38 M=>AL U yw fun Ci=>RD M 1 U<|N1 11<|NO U U [12,13] fun T40 N=>AL U yw fun Ck=>RD N 2 U<|N1 12<|NO U U [13] fun T42 O=>qy U zK U<|RD O 2 U<|N1 13<|NO U U [] fun T43 R=>fR U zK U<|RD R 2 U<|lU<|KK W<|WS fun _ J=>rP 6 [0,1,2] (mc 2 U (mc 0 U (mc 1 U I))) ?_
 obtain ⟨Fn,GE,GT⟩:=uH (fun j z _ hz=>F j z hz) hy (F _ _ hy) (show k<m by omega) hx
 refine bE 1 U<|rS (CL (yg c.dF (y.At-x.At) om om) (aN) U)<|bE 1 U<|RK J<|WS fun _ E=>rP 10 [0,1] (mc 1 U (mc 0 U I)) ?_
 refine bZ (t:=113) U (aV fun H=>?_) (aU fun H=>?_)
 ·refine bE 10 U<|RK E<|aT U<|WS fun _ K=>rP 1 [] I ?_
  refine RK K<|av<|Q1 hQ U U U ?_
  exact cB (bH fun h=>by have q:=h.pair m k y x hy om hx; unfold nJ at q; omega).symm
 refine rP 10 [0,1] (mc 0 U (mc 1 U I)) ?_
 refine RK E<|bV U (aU fun AB=>?_) (aV fun AB=>?_)
 ·refine cg<|aO<|KK V<|aw<|rP 3 [] I ?_
  refine aK ?_
  have S:(vI (((k+1):Nat):Int))=(vI ((k:Int)+1)):=by exact cI om
  refine a_ (T ⟨(k+1),⟨om,fun z hz=>by rw [hy] at hz; cases hz; exact lX (D _ hy) hx (by unfold nJ; omega)⟩⟩ _ _ _ rfl os (dv.cons rfl<|dv.cons rfl<|bj rfl S<|dv.nil _) (aP [2,3]))
 refine WS fun _ L=>rP 1 [] I ?_
 refine RK L<|av<|Q1 hQ U U U ?_
 exact cB (bH fun h=>by have q:=h.pair m k y x hy om hx; unfold nJ at q; omega).symm
theorem B4 (c:ay) (sA:OA) (sC:Nat) (at_:Int) (hc:fr c) (ha:0≤at_∧at_≤90000000):
 dK Tryz.prog 185 [(vA (dy.cells (dy.mk c.dF (bx.mk sA c.bI.length sC)))),(vI at_)] [(rd sA c.bI.length 3 (c.bI.map cQ.cells))] (vA (ai.cells (iQ c at_))):=by
 have e:=hc.len
 have W:=hc.sE
 refine bG kr Tryz.func185 U U fun j Q hQ hN=>?_
 try dsimp only
 refine WS fun _ R=>eL U fun g=>AL U ed fun h=>RK R<|WS fun _ S=>AL U ed fun d=>RK S<|aq fun _ T=>WS fun _ AA=>rP 1 [] I ?_
 refine RK AA<|aF ?_
 have A:(0≤c.bI.length):=by exact Nat.zero_le _
 refine bQ (ι:={z:Nat // (z≤c.bI.length)}) [1,2,4,5] [1,2,3] U U (fun z=>[(6,(vI (z.1:Int)))]) (fun z=>[(cx d 53 (ai.cells (k8 c at_ z.1)))]) (fun _=>rfl) (fun _=>rfl) (fun z=>c.bI.length-z.1) ⟨0,A⟩ (bk U) (aP [1,2,3,0]) ?_
 clear A
 rintro ⟨i,X⟩ J8 D
 try dsimp only
 refine aq fun _ V=>WS fun _ E=>rP 5 [] (mc 1 U I) ?_
 refine RK E<|bV U (aU fun O=>?_) (aV fun O=>?_)
 ·refine bL<|ab<|ab<|aH<|KK T<|WS fun _ J=>rP 1 [] (mc 3 U I) ?_
  refine fR U c_ U<|RK J<|av<|C5 hQ [0] (mc 0 U I) U ?_
  rw [DS hc (show c.bI.length≤i by omega)]
 refine WK V<|aq fun _ B=>aF<|WS fun _ F=>rP 3 [] (mc 1 U I) ?_
 obtain ⟨x,hx⟩:=aM c.bI i om
 have Z:=bO cQ.cells hx
 refine rS (IA i U (aG 2 U) xU dc om om)<|rS (lS i 0 (cQ.cells x) U cq (aG 2 U) Z U dc U U)<|AL U yw fun a=>fR U zK U<|RK F<|WS fun _ G=>rP 2 [] (mc 2 U I) ?_
 have Y:=hc.vo hx
 have f:0≤o0 (c.dF*max (at_-x.At) (x.At-at_)) 1000000∧o0 (c.dF*max (at_-x.At) (x.At-at_)) 1000000≤90001:=ve W ha Y.1
 refine e9 8 [] (mc 0 U I) U<|rS (MX U)<|rS (CL (yg c.dF (max (at_-x.At) (x.At-at_)) om om) (aN) U)<|bE 1 U<|RK G<|WS fun _ H=>e9 10 [] (mc 0 U I) U<|rS (SX (bq (xs:=[(0,.tmp 38),(1,.tmp 43)]) (cs:=(ai.cells (ai.mk (x.eJ.Lo-(o0 (c.dF*(max (at_-x.At) (x.At-at_))) 1000000)) (x.eJ.Hi+(o0 (c.dF*(max (at_-x.At) (x.At-at_))) 1000000))))) U U (bp g4 U)) U U)<|AL U ed fun b=>fR U c_ U<|RK H<|aq fun _ C=>WS fun _ AB=>rP 2 [] I ?_
 refine RK AB<|bV U (aU fun P=>?_) (aV fun P=>?_)
 ·refine WK C<|aw<|e9 4 [0,1] (mc 5 U (mc 0 U I)) U<|rS (MX U)<|rP 4 [0,1] (mc 5 U (mc 0 U I)) ?_
  refine rS (MN U)<|rS (SX (bq (xs:=[(0,.tmp 52),(1,.tmp 57)]) (cs:=(ai.cells (ai.mk (max ((k8 c at_ i).Lo) (x.eJ.Lo-(o0 (c.dF*(max (at_-x.At) (x.At-at_))) 1000000))) (min ((k8 c at_ i).Hi) (x.eJ.Hi+(o0 (c.dF*(max (at_-x.At) (x.At-at_))) 1000000)))))) U U (bp g4 U)) U U)<|IF U c_ U<|aK<|aO<|KK B ?_
  have M:(ai.cells (ai.mk (max ((k8 c at_ i).Lo) (x.eJ.Lo-(o0 (c.dF*(max (at_-x.At) (x.At-at_))) 1000000))) (min ((k8 c at_ i).Hi) (x.eJ.Hi+(o0 (c.dF*(max (at_-x.At) (x.At-at_))) 1000000)))))=(ai.cells (k8 c at_ (i+1))):=by exact congrArg ai.cells (Bq hx om).symm
  rw [M]
  refine aw<|rP 3 [] I ?_
  refine aK ?_
  have N:(vI (((i+1):Nat):Int))=(vI ((i:Int)+1)):=by exact cI om
  refine a_ (D ⟨(i+1),(by first|omega|(simp only []; omega))⟩ _ _ _ U os (cK 4<|bj U N<|dv.nil _) (aP [2,3,4,5]))
 refine aw<|e9 1 [] (mc 0 U I) U<|IF U c_ U<|RK C<|aw<|e9 4 [0,1] (mc 5 U (mc 0 U I)) U<|rS (MX U)<|rP 4 [0,1] (mc 5 U (mc 0 U I)) ?_
 refine rS (MN U)<|rS (SX (bq (xs:=[(0,.tmp 52),(1,.tmp 57)]) (cs:=(ai.cells (ai.mk (max (x.eJ.Lo-(o0 (c.dF*(max (at_-x.At) (x.At-at_))) 1000000)) (x.eJ.Lo-(o0 (c.dF*(max (at_-x.At) (x.At-at_))) 1000000))) (min (x.eJ.Hi+(o0 (c.dF*(max (at_-x.At) (x.At-at_))) 1000000)) (x.eJ.Hi+(o0 (c.dF*(max (at_-x.At) (x.At-at_))) 1000000)))))) U U (bp g4 U)) U U)<|IF U c_ U<|aK<|aO<|KK B ?_
 have K:(ai.cells (ai.mk (max (x.eJ.Lo-(o0 (c.dF*(max (at_-x.At) (x.At-at_))) 1000000)) (x.eJ.Lo-(o0 (c.dF*(max (at_-x.At) (x.At-at_))) 1000000))) (min (x.eJ.Hi+(o0 (c.dF*(max (at_-x.At) (x.At-at_))) 1000000)) (x.eJ.Hi+(o0 (c.dF*(max (at_-x.At) (x.At-at_))) 1000000)))))=(ai.cells (k8 c at_ (i+1))):=by exact congrArg ai.cells (zx hc ha hx om).symm
 rw [K]
 refine aw<|rP 3 [] I ?_
 refine aK ?_
 have L:(vI (((i+1):Nat):Int))=(vI ((i:Int)+1)):=by exact cI om
 refine a_ (D ⟨(i+1),(by first|omega|(simp only []; omega))⟩ _ _ _ U os (cK 4<|bj U L<|dv.nil _) (aP [2,3,4,5]))
theorem K_ (l:br) (kA:OA) (kC:Nat) (az:List RA) (cA:OA) (cC:Nat) (bA:OA) (bC:Nat) (n:Int) (hin:eo l az) (htr:dq l.aS=true) (hbk: ∀ b∈l.aa,j5 l b) (hn:0≤n∧n<(l.aa.length:Int)):
 dK Tryz.prog 140 [(vA (ct.cells (jW l kA kC cA cC bA bC))),(vI n)] [(rd kA l.aS.length 9 (l.aS.map au.cells)),(rd cA l.aj.length 2 (List.zipWith ay.cells l.aj az)),(dU (bo ay.gn l.aj az)),(rd bA l.aa.length 4 (l.aa.map bK.cells))] (vI (lz l n.toNat)):=by
 have AA:=hin.se
 have S:=hin.sb
 have P:=hin.nP
 have R:=hin.r9
 have T:=hin.side
 refine bG kr Tryz.func140 U U fun X Q hQ hN=>?_
 try dsimp only
 refine WS fun _ G=>eL U fun V=>bE 1 U<|RK G<|aq fun _ H=>WS fun _ AB=>rP 2 [] I ?_
 refine RK AB<|cw U (aV fun F=>?_) (aU fun F=>?_)
 ·refine aq fun _ J=>dM cy [11,12] [] [] [0,1,2,3,4] [] U U U U U<|eS U (FA 0 U fK U)<|eS U (LP (bM.cells (bM.mk (bx.mk kA l.aS.length kC))) 0 U cq U U U)<|eS U (FA 3 U fK U)<|eS U (L1 (vS bA l.aa.length bC) 0 U cq U U) ?_
  obtain ⟨y,hy⟩:=aM l.aa 0 om
  have A:=bO bK.cells hy
  refine eS U (IA 0 U (aG 4 U) v9 dc U om)<|eS U (o1 (0*4) U (aG 4 U) (Nat.mul_pos om dc) fK U)<|eS U (lS 0 0 (cG.cells y.mV) U cq (aG 4 U) A U dc U U)<|eS U (CL (Rv l.aS kA kC y.mV asm asm) (bw [1]) U)<|eS U (MV U)<|eS U (EX U)<|eS U (EX U)<|eS U (AG U)<|eC U<|cv U fun T6 L=>AL U ed fun W=>aK (L _ _ (aP [1,2,3,4,5]) ?_)
  refine cv U fun T8 M=>fR U c_ U<|aK (M _ _ (aP [1,2,3,4,5]) ?_)
  refine fP U<|KK J<|WS fun _ K=>rP 3 [] (mc 0 U I) ?_
  refine RK K<|av<|Q1 hQ U U U ?_
  (refine congrArg (Value.int .i64) ?_; rw [show n.toNat=0 by omega]; rw [yT hy,(xh htr (hbk _ (List.mem_of_getElem? hy)).1).2])
 refine WK H<|aq fun _ B=>dM cy [19,20] [] [] [0,1,2,3,4] [] U U U U U<|eS U (FA 0 U fK U)<|eS U (LP (bM.cells (bM.mk (bx.mk kA l.aS.length kC))) 0 U cq U U U)<|eS U (FA 3 U fK U)<|eS U (L1 (vS bA l.aa.length bC) 0 U cq U U)<|eS U (MV U)<|eS U (BI U (xY ⟨om,om⟩)) ?_
 obtain ⟨y,hy⟩:=aM l.aa (((n-1)).toNat) om
 have A:=bO bK.cells hy
 refine eS U (IA (((n-1)).toNat) U (aG 4 U) v9 dc om om)<|eS U (o1 ((((n-1)).toNat)*4) U (aG 4 U) (Nat.mul_pos om dc) fK U)<|eS U (lS (((n-1)).toNat) 0 (cG.cells y.mV) U cq (aG 4 U) A U dc U U)<|eS U (FA 3 U fK U)<|eS U (L1 (vS bA l.aa.length bC) 0 U cq U U)<|eS U (MV U) ?_
 obtain ⟨x,hx⟩:=aM l.aa ((n).toNat) om
 have N:=bO bK.cells hx
 refine eS U (IA ((n).toNat) U (aG 4 U) v9 dc om om)<|eS U (o1 (((n).toNat)*4) U (aG 4 U) (Nat.mul_pos om dc) fK U)<|eS U (lS ((n).toNat) 0 (cG.cells x.mV) U cq (aG 4 U) N U dc U U)<|eS U (CL (KT l.aS kA kC y.mV x.mV asm asm) (bw [1]) U)<|eS U (MV U)<|eS U (EX U)<|eS U (EX U)<|eS U (AG U)<|eC U<|cv U fun T11 D=>AL U ed fun O=>aK (D _ _ (aP [1,2,3,4,5]) ?_)
 refine cv U fun T13 E=>fR U c_ U<|aK (E _ _ (aP [1,2,3,4,5]) ?_)
 refine fP U<|KK B<|WS fun _ C=>rP 3 [] (mc 0 U I) ?_
 refine RK C<|av<|Q1 hQ U U U ?_
 (refine congrArg (Value.int .i64) ?_; rw [Cv om hx (by rw [show n.toNat-1=(n-1).toNat by omega]; exact hy),(lK htr ⟨(hbk _ (List.mem_of_getElem? hy)).1,(hbk _ (List.mem_of_getElem? hx)).1⟩).2])
theorem I3 (l:br) (kA:OA) (kC:Nat) (az:List RA) (cA:OA) (cC:Nat) (bA:OA) (bC:Nat) (n:Int) (hin:eo l az) (htr:dq l.aS=true) (hok:lF l) (hn:0≤n∧n<(l.aa.length:Int)):
 dK Tryz.prog 177 [(vA (ct.cells (jW l kA kC cA cC bA bC))),(vI n)] [(rd kA l.aS.length 9 (l.aS.map au.cells)),(rd cA l.aj.length 2 (List.zipWith ay.cells l.aj az)),(dU (bo ay.gn l.aj az)),(rd bA l.aa.length 4 (l.aa.map bK.cells))] (vI (ej l n.toNat)):=by
 have G:=hin.se
 have F:=hin.sb
 have D:=hin.nP
 have E:=hin.r9
 have C:=hok.head
 unfold fp at C
 have H:=AX htr hok.tW n.toNat
 have AA:=hok.PA n.toNat om
 refine bG kr Tryz.func177 U U fun K Q hQ hN=>?_
 try dsimp only
 refine WS fun _ A=>eL U fun J=>bE 1 U<|RK A<|aq fun _ B=>dA cy 12 kr<|lR 2 [] (mc 0 U I) U<|dS (CL (K_ l kA kC az cA cC bA bC n hin htr (by exact hok.tW) hn) (bw [1,2,3,4]) U)<|dS (BI U (tQ ⟨om,om⟩))<|lR 6 [] (mc 0 U I) U<|dS (BI U (uk om om om))<|dP 1 [] I ?_
 refine cM<|RK B<|av<|Q1 hQ U U U ?_
 exact cI (by unfold ej o0; rw [Int.mul_comm])
theorem L7 (l:br) (kA:OA) (kC:Nat) (az:List RA) (cA:OA) (cC:Nat) (bA:OA) (bC:Nat) (hin:eo l az) (htr:dq l.aS=true):
 dK Tryz.prog 121 [(vA (ct.cells (jW l kA kC cA cC bA bC)))] [(rd kA l.aS.length 9 (l.aS.map au.cells)),(rd cA l.aj.length 2 (List.zipWith ay.cells l.aj az)),(dU (bo ay.gn l.aj az)),(rd bA l.aa.length 4 (l.aa.map bK.cells))] (vB (decide (lF l))):=by
 have FG:=hin.se
 have Do:=hin.sb
 have C2:=hin.nP
 have Di:=hin.r9
 have EQ:=hin.side
 have Eq:=j9 htr
 have C1:=kX htr
 refine bG kr Tryz.func121 U U fun w0 Q hQ hN=>?_
 try dsimp only
 refine WS fun _ A8=>eL U fun b2=>bE 1 U<|RK A8<|aq fun _ A9=>WS fun _ D=>e9 2 [] (mc 0 U I) U<|rS (CL (je l.hG 1 5000) (aN) U)<|rP 2 [] I ?_
 refine bZ (t:=10) U (bg fun AO=>?_) (bf fun AO=>?_)
 ·refine bE 35 U<|RK D<|aT U<|WS fun _ Bx=>rP 1 [] I ?_
  refine RK Bx<|av<|Q1 hQ U U U ?_
  exact cB (bH fun h=>by have q:=h.head; unfold fp at q; omega).symm
 refine e9 3 [] (mc 0 U I) U<|rS (CL (je (l.aj.length:Int) 1 4) (aN) U)<|rP 3 [] I ?_
 refine bZ (t:=17) U (bg fun Am=>?_) (bf fun Am=>?_)
 ·refine bE 28 U<|RK D<|aT U<|WS fun _ B3=>rP 1 [] I ?_
  refine RK B3<|av<|Q1 hQ U U U ?_
  exact cB (bH fun h=>by have q:=h.head; unfold fp at q; omega).symm
 refine e9 3 [] (mc 0 U I) U<|rS (CL (je (l.aa.length:Int) 1 6) (aN) U)<|rP 3 [] I ?_
 refine bZ (t:=24) U (bg fun A0=>?_) (bf fun A0=>?_)
 ·refine bE 21 U<|RK D<|aT U<|WS fun _ B9=>rP 1 [] I ?_
  refine RK B9<|av<|Q1 hQ U U U ?_
  exact cB (bH fun h=>by have q:=h.head; unfold fp at q; omega).symm
 refine e9 6 [] (mc 0 U I) U<|rS (CL (je l.cf 0 ((l.aa.length:Int)-1)) (aN) U)<|rP 3 [] I ?_
 refine bZ (t:=34) U (bg fun A1=>?_) (bf fun A1=>?_)
 ·refine bE 11 U<|RK D<|aT U<|WS fun _ Ci=>rP 1 [] I ?_
  refine RK Ci<|av<|Q1 hQ U U U ?_
  exact cB (bH fun h=>by have q:=h.head; unfold fp at q; omega).symm
 refine e9 2 [] (mc 0 U I) U<|rS (CL (je l.e8 0 3) (aN) U)<|rP 3 [] I ?_
 refine bZ (t:=40) U (bg fun A2=>?_) (bf fun A2=>?_)
 ·refine bE 5 U<|RK D<|aT U<|WS fun _ Ck=>rP 1 [] I ?_
  refine RK Ck<|av<|Q1 hQ U U U ?_
  exact cB (bH fun h=>by have q:=h.head; unfold fp at q; omega).symm
 refine e9 2 [] (mc 0 U I) U<|rS (CL (je l.di 0 3) (aN) U)<|rP 2 [] I ?_
 refine RK D<|cw U (bg fun A3=>?_) (bf fun A3=>?_)
 ·refine WS fun _ N=>rP 1 [] I ?_
  refine RK N<|av<|Q1 hQ U U U ?_
  exact cB (bH fun h=>by have q:=h.head; unfold fp at q; omega).symm
 refine WK A9<|aq fun _ O=>WS fun _ R=>rP 1 [] I ?_
 refine RK R<|aF ?_
 have A:(0≤l.aj.length)∧(∀ (j:Nat) y,j<0→l.aj[j]? =some y→fr y):=by exact ⟨Nat.zero_le _,fun j y hj=>absurd hj (Nat.not_lt_zero _)⟩
 refine bQ (ι:={z:Nat // (z≤l.aj.length)∧(∀ (j:Nat) y,j<z→l.aj[j]? =some y→fr y)}) [1] [0,1,2,3,4] U U (fun z=>[(3,(vI (z.1:Int)))]) (fun z=>[]) (fun _=>rfl) (fun _=>rfl) (fun z=>l.aj.length-z.1) ⟨0,A⟩ (bk U) (aP [0,1,2,3,4]) ?_
 clear A
 rintro ⟨i,⟨Cp,F⟩⟩ J13 K
 try dsimp only
 refine aq fun _ S=>WS fun _ T=>rP 5 [] (mc 0 U I) ?_
 refine RK T<|cw U (aV fun A4=>?_) (aU fun A4=>?_)
 ·refine WK S<|aq fun _ AA=>aF<|WS fun _ V=>rP 3 [] (mc 0 U I) ?_
  obtain ⟨x,hx⟩:=aM l.aj i om
  obtain ⟨xa,J⟩:=aM az i om
  have C0:(List.zipWith ay.cells l.aj az)[i]? =some (ay.cells x xa):=dx hx J
  refine rS (IA i U (aG 2 U) Ae dc om om)<|rS (lS i 0 (dy.cells (dy.mk x.dF (bx.mk xa.1 x.bI.length xa.2))) U cq (aG 2 U) C0 U dc U U) ?_
  have Eu:=(hin.Qv _ _ _ hx J).2
  refine rS (CL (Jx x xa.1 xa.2 asm) (ax (show iH _ (rd xa.1 x.bI.length 3 (x.bI.map cQ.cells)).holds from (cY 3 U (bP hx J (by simp [ay.gn]))))<|aN) U)<|rP 1 [] I ?_
  refine RK V<|bV U (bf fun AB=>?_) (bg fun AB=>?_)
  ·refine cg<|aO<|KK AA<|aw<|rP 3 [] I ?_
   refine aK ?_
   have u:(vI (((i+1):Nat):Int))=(vI ((i:Int)+1)):=by exact cI om
   refine a_ (K ⟨(i+1),⟨om,lX (P:=fun _ y=>fr y) F hx AB⟩⟩ _ _ _ U os (dv.cons U<|bj U u<|dv.nil _) (aP [0,1,2,3,4]))
  refine WS fun _ W=>rP 1 [] I ?_
  refine RK W<|av<|Q1 hQ U U U ?_
  exact cB (bH fun h=>AB (h.clock _ (aQ hx))).symm
 refine bL<|ab<|ab<|aH<|KK O<|aq fun _ X=>WS fun _ Y=>rP 1 [] I ?_
 refine RK Y<|aF ?_
 have A:(0≤l.aa.length)∧(∀ (j:Nat) y,j<0→l.aa[j]? =some y→j5 l y):=by exact ⟨Nat.zero_le _,fun j y hj=>absurd hj (Nat.not_lt_zero _)⟩
 refine bQ (ι:={z:Nat // (z≤l.aa.length)∧(∀ (j:Nat) y,j<z→l.aa[j]? =some y→j5 l y)}) [1] [0,1,2,3,4] U U (fun z=>[(4,(vI (z.1:Int)))]) (fun z=>[]) (fun _=>rfl) (fun _=>rfl) (fun z=>l.aa.length-z.1) ⟨0,A⟩ (bk U) (aP [0,1,2,3,4]) ?_
 clear A
 rintro ⟨m,⟨Cx,B⟩⟩ J22 L
 try dsimp only
 refine aq fun _ Z=>WS fun _ a=>rP 5 [] (mc 0 U I) ?_
 refine RK a<|bV U (aU fun A5=>?_) (aV fun A5=>?_)
 ·refine bL<|ab<|ab<|aH<|KK X<|aq fun _ e=>WS fun _ f=>rP 1 [] I ?_
  refine RK f<|aF ?_
  have A:(0≤l.aa.length)∧(∀ j,j<0→1≤lz l j):=by exact ⟨Nat.zero_le _,fun j hj=>absurd hj (Nat.not_lt_zero _)⟩
  refine bQ (ι:={z:Nat // (z≤l.aa.length)∧(∀ j,j<z→1≤lz l j)}) [1] [0,1,2,3,4] U U (fun z=>[(5,(vI (z.1:Int)))]) (fun z=>[]) (fun _=>rfl) (fun _=>rfl) (fun z=>l.aa.length-z.1) ⟨0,A⟩ (bk U) (aP [0,1,2,3,4]) ?_
  clear A
  rintro ⟨n,⟨AN,C⟩⟩ J32 M
  try dsimp only
  have C3:=xD (P:=j5 l) om B
  refine aq fun _ g=>WS fun _ k=>rP 5 [] (mc 0 U I) ?_
  refine RK k<|bV U (aU fun A7=>?_) (aV fun A7=>?_)
  ·refine bL<|ab<|ab<|aH<|KK e<|WS fun _ s=>rP 1 [] I ?_
   refine RK s<|av<|Q1 hQ U U U ?_
   exact cB (dI (yM (by unfold fp; omega) (xD om F) (xD om B) (fun j hj=>C j om))).symm
  refine WK g<|aq fun _ o=>aF<|WS fun _ p=>e9 2 [] (mc 0 U I) U<|rS (CL (K_ l kA kC az cA cC bA bC (n:Int) hin htr asm om) (bw [1,2,3,4]) U)<|rP 1 [] I ?_
  refine RK p<|bV U (aU fun E=>?_) (aV fun E=>?_)
  ·refine cg<|aO<|KK o<|aw<|rP 3 [] I ?_
   refine aK ?_
   have w:(vI (((n+1):Nat):Int))=(vI ((n:Int)+1)):=by exact cI om
   refine a_ (M ⟨(n+1),⟨om,fun j hj=>by rcases Nat.lt_or_ge j n with q|q; exact C j q; (obtain rfl:j=n:=by omega); simp only [Int.toNat_natCast] at E; omega⟩⟩ _ _ _ rfl os (dv.cons rfl<|bj rfl w<|dv.nil _) (aP [0,1,2,3,4]))
  refine WS fun _ r=>rP 1 [] I ?_
  refine RK r<|av<|Q1 hQ U U U ?_
  exact cB (bH fun h=>by have q:=h.PA n om; simp only [Int.toNat_natCast] at E; omega).symm
 refine WK Z<|aq fun _ b=>aF<|aq fun _ H=>dA cy 24 kr<|k6 1 U<|dS (LP (bM.cells (bM.mk (bx.mk kA l.aS.length kC))) 0 U cq U U U)<|dP 3 [] (mc 0 U I) ?_
 obtain ⟨y,hy⟩:=aM l.aa m om
 have AC:=bO bK.cells hy
 refine dS (IA m U (aG 4 U) v9 dc om om)<|dS (o1 (m*4) U (aG 4 U) (Nat.mul_pos om dc) fK U)<|dS (lS m 0 (cG.cells y.mV) U cq (aG 4 U) AC U dc U U)<|dS (CL (rr l.aS kA kC y.mV asm asm) (bw [1]) U)<|dP 2 [] I ?_
 refine hO (t:=77) U (bg fun G=>?_) (bf fun G=>?_)
 ·refine k6 13 U<|cM<|RK H<|aT U<|WS fun _ c=>rP 1 [] I ?_
  refine RK c<|av<|Q1 hQ U U U ?_
  exact cB (bH fun h=>by have q:=h.tW _ (aQ hy); have q2:=q.2; first|exact G q.1|omega).symm
 refine lR 3 [] (mc 0 U I) U<|dS (IA m U (aG 4 U) v9 dc om om)<|dS (o1 ((m*4)+3) U (aG 4 U) (Nat.mul_pos om dc) fK U)<|dS (gQ m 3 (vI y.kh) U cq (aG 4 U) AC U dc U)<|lR 4 [] (mc 0 U I) U<|dS (CL (je y.kh 0 ((l.aj.length:Int)-1)) (aN) U)<|dP 2 [] I ?_
 refine cM<|RK H<|bV U (bf fun A6=>?_) (bg fun A6=>?_)
 ·refine cg<|aO<|KK b<|aw<|rP 3 [] I ?_
  refine aK ?_
  have v:(vI (((m+1):Nat):Int))=(vI ((m:Int)+1)):=by exact cI om
  refine a_ (L ⟨(m+1),⟨om,lX (P:=fun _ y=>j5 l y) B hy ⟨G,om,om⟩⟩⟩ _ _ _ U os (dv.cons U<|bj U v<|dv.nil _) (aP [0,1,2,3,4]))
 refine WS fun _ d=>rP 1 [] I ?_
 refine RK d<|av<|Q1 hQ U U U ?_
 exact cB (bH fun h=>by have q:=h.tW _ (aQ hy); have q2:=q.2; first|exact G q.1|omega).symm
end
section
open Go.RowKit
theorem CC (r:e7) (kA:OA) (kC:Nat) (az:List RA) (cA:OA) (cC:Nat) (bA:OA) (bC:Nat) (slA:OA) (slC:Nat) (drA:OA) (drC:Nat) (ha:List cZ) (heA:OA) (heC:Nat) (hraw:rL r az ha):
 dK Tryz.prog 49 [(vA (er.cells (yz r kA kC cA cC bA bC slA slC drA drC heA heC)))] [(rd kA r.ar.aS.length 9 (r.ar.aS.map au.cells)),(rd cA r.ar.aj.length 2 (List.zipWith ay.cells r.ar.aj az)),(dU (bo ay.gn r.ar.aj az)),(rd bA r.ar.aa.length 4 (r.ar.aa.map bK.cells)),(rd slA r.aY.length 1 (r.aY.map iC)),(rd drA r.cd.length 1 (r.cd.map iC)),(rd heA r.aD.length 1 (List.zipWith cP r.aD ha)),(dU (bo fg r.aD ha))] (vB (decide (l7 r))):=by
 have AC:=hraw.line
 have A0:=hraw.iE
 have A2:=hraw.has
 have Am:=hraw.iB
 have AN:=hraw.draw
 refine bG kr Tryz.func49 U U fun w0 Q hQ hN=>?_
 try dsimp only
 refine WS fun _ l=>eL U fun b2=>bE 1 U<|RK l<|aq fun _ m=>WS fun _ H=>bE 1 U<|rS (LP (ct.cells (jW r.ar kA kC cA cC bA bC)) 0 U cq U U U)<|rS (CL (HW r.ar kA kC az cA cC bA bC asm) (bw [1,2,3,4]) U)<|rP 1 [] I ?_
 refine bZ (t:=8) U (aV fun k=>?_) (aU fun k=>?_)
 ·refine bE 17 U<|RK H<|aT U<|WS fun _ n=>rP 1 [] I ?_
  refine RK n<|av<|Q1 hQ U U U ?_
  exact cB (dI (pU (.inl k))).symm
 refine rP 6 [] (mc 0 U I) ?_
 refine bZ (t:=14) U (aV fun AB=>?_) (aU fun AB=>?_)
 ·refine bE 11 U<|RK H<|aT U<|WS fun _ o=>rP 1 [] I ?_
  refine RK o<|av<|Q1 hQ U U U ?_
  exact cB (dI (pU (.inr om))).symm
 refine rP 6 [] (mc 0 U I) ?_
 refine bZ (t:=20) U (aV fun f=>?_) (aU fun f=>?_)
 ·refine bE 5 U<|RK H<|aT U<|WS fun _ p=>rP 1 [] I ?_
  refine RK p<|av<|Q1 hQ U U U ?_
  exact cB (dI (pU (.inr om))).symm
 refine rP 5 [] (mc 0 U I) ?_
 refine RK H<|cw U (aV fun h=>?_) (aU fun h=>?_)
 ·refine WS fun _ q=>rP 1 [] I ?_
  refine RK q<|av<|Q1 hQ U U U ?_
  exact cB (dI (pU (.inr om))).symm
 refine WK m<|aq fun _ s=>WS fun _ N=>rP 1 [] I ?_
 refine RK N<|aF ?_
 have B:(0≤r.aD.length)∧(lW r 0):=by exact ⟨Nat.zero_le _,AU⟩
 refine bQ (ι:={z:Nat // (z≤r.aD.length)∧(lW r z)}) [1] [0,1,2,3,4,5,6,7,8] U U (fun z=>[(3,(vI (z.1:Int)))]) (fun z=>[]) (fun _=>rfl) (fun _=>rfl) (fun z=>r.aD.length-z.1) ⟨0,B⟩ (bk U) (aP [0,1,2,3,4,5,6,7,8]) ?_
 clear B
 rintro ⟨i,⟨x,F⟩⟩ J11 L
 try dsimp only
 refine aq fun _ O=>WS fun _ P=>rP 5 [] (mc 0 U I) ?_
 refine RK P<|bV U (aU fun AB=>?_) (aV fun AB=>?_)
 ·refine bL<|ab<|ab<|aH<|KK s<|WS fun _ b=>rP 1 [] I ?_
  refine RK b<|av<|Q1 hQ U U U ?_
  exact cB (bH (GY k om F om)).symm
 refine WK O<|aq fun _ R=>aF<|aq fun _ S=>WS fun _ T=>rP 3 [] (mc 0 U I) ?_
 obtain ⟨ht,D⟩:=aM r.aD i om
 obtain ⟨A,C⟩:=aM ha i om
 have E:(List.zipWith cP r.aD ha)[i]? =some (cP ht A):=dx D C
 refine rS (IA i U (aG 7 U) oQ dc om om)<|rS (gQ i 0 (vS A.1.1 ht.length A.1.2) U cq (aG 7 U) E U dc U) ?_
 obtain ⟨A1,AO,w⟩:=hraw.gL _ _ _ D C
 refine rP 2 [] I ?_
 refine RK T<|cw U (aV fun J=>?_) (aU fun J=>?_)
 ·refine WS fun _ AA=>rP 1 [] I ?_
  refine RK AA<|av<|Q1 hQ U U U ?_
  exact cB (dI (Cs D J)).symm
 refine WK S<|WS fun _ V=>rP 1 [] I ?_
 refine RK V<|aF ?_
 have B:(0≤ht.length)∧(nA ht 0):=by exact ⟨Nat.zero_le _,BY⟩
 refine bQ (ι:={z:Nat // (z≤ht.length)∧(nA ht z)}) [1,3] [0,1,2,3,4,5,6,7,8] U U (fun z=>[(4,(vI (z.1:Int)))]) (fun z=>[]) (fun _=>rfl) (fun _=>rfl) (fun z=>ht.length-z.1) ⟨0,B⟩ (bk U) (aP [0,1,2,3,4,5,6,7,8]) ?_
 clear B
 rintro ⟨j,⟨y,G⟩⟩ J20 M
 try dsimp only
 refine aq fun _ W=>WS fun _ X=>e9 4 [] (mc 0 U I) U<|rS (IA i U (aG 7 U) oQ dc om om)<|rS (gQ i 0 (vS A.1.1 ht.length A.1.2) U cq (aG 7 U) E U dc U)<|rP 2 [] I ?_
 refine RK X<|bV U (aU fun g=>?_) (aV fun g=>?_)
 ·refine bL<|ab<|ab<|aH<|aO<|KK R<|aw<|rP 3 [] I ?_
  refine aK ?_
  have e:(vI (((i+1):Nat):Int))=(vI ((i:Int)+1)):=by exact cI om
  refine a_ (L ⟨(i+1),⟨om,Bt F D (Eg J G om)⟩⟩ _ _ _ U os (dv.cons U<|bj U e<|dv.nil _) (aP [0,1,2,3,4,5,6,7,8]))
 refine WK W<|aq fun _ Y=>aF<|WS fun _ Z=>e9 3 [] (mc 0 U I) U<|rS (IA i U (aG 7 U) oQ dc om om)<|rS (gQ i 0 (vS A.1.1 ht.length A.1.2) U cq (aG 7 U) E U dc U)<|rP 1 [] I ?_
 obtain ⟨d,hd⟩:=aM ht j om
 obtain ⟨da,u⟩:=aM A.2 j om
 have v:(List.zipWith aC.cells ht A.2)[j]? =some (aC.cells d da):=dx hd u
 refine rS (IA j U (show iH _ (rd A.1.1 ht.length 7 (List.zipWith aC.cells ht A.2)).holds from (cY 8 U (bP D C cH))) sh dc om om)<|rS (o1 ((j*7)+4) U (show iH _ (rd A.1.1 ht.length 7 (List.zipWith aC.cells ht A.2)).holds from (cY 8 U (bP D C cH))) (Nat.mul_pos om dc) fK U)<|rS (o1 (((j*7)+4)+2) U (show iH _ (rd A.1.1 ht.length 7 (List.zipWith aC.cells ht A.2)).holds from (cY 8 U (bP D C cH))) (Nat.mul_pos om dc) fK U)<|rS (gQ j 6 (vS da.1 d.bD.ag.length da.2) U cq (show iH _ (rd A.1.1 ht.length 7 (List.zipWith aC.cells ht A.2)).holds from (cY 8 U (bP D C cH))) v U dc U) ?_
 have A3:=w d (aQ hd)
 refine rP 2 [] I ?_
 refine RK Z<|bV U (aU fun K=>?_) (aV fun K=>?_)
 ·refine cg<|aO<|KK Y<|aw<|rP 3 [] I ?_
  refine aK ?_
  have c:(vI (((j+1):Nat):Int))=(vI ((j:Int)+1)):=by exact cI om
  refine a_ (M ⟨(j+1),⟨om,Ce G hd K⟩⟩ _ _ _ U os (dv.cons U<|dv.cons U<|bj U c<|dv.nil _) (aP [0,1,2,3,4,5,6,7,8]))
 refine WS fun _ a=>rP 1 [] I ?_
 refine RK a<|av<|Q1 hQ U U U ?_
 exact cB (dI (Ea D hd K)).symm
end
section
open Go.RowKit
theorem ji (n lo hi:Int):
 dK Tryz.prog 77 [(vI n),(vI lo),(vI hi)] [] (vB (decide (lo≤n∧n≤hi))):=by
 refine bG kr Tryz.func77 U U fun D Q hQ hN=>?_
 try dsimp only
 refine WS fun _ B=>bE 1 U<|RK B<|WS fun _ A=>rP 4 [] I ?_
 refine bZ (t:=10) U (aV fun C=>?_) (aU fun C=>?_)
 ·refine rP 5 [] I ?_
  refine RK A<|av<|Q1 hQ U U U ?_
  exact cB (gY.2 om)
 refine rP 5 [] I ?_
 refine RK A<|av<|Q1 hQ U U U ?_
 exact cB (bH om).symm
theorem Fm (o fx:Bool) (tm:ai) (rv:cN):
 dK Tryz.prog 78 [(vA (aR.cells (aR.mk o fx tm rv)))] [] (vB (decide (o=false∧fx=false))):=by
 refine bG kr Tryz.func78 U U fun E Q hQ hN=>?_
 try dsimp only
 refine WS fun _ B=>eL U fun D=>bE 1 U<|RK B<|WS fun _ A=>rP 4 [] (mc 0 U I) ?_
 refine cL (t:=6) U (fun C=>?_) (fun C=>?_)
 ·rw [Bool.not_eq_false'] at C
  refine rP 5 [] I ?_
  refine RK A<|av<|Q1 hQ U U U ?_
  clear hQ hN A B
  refine cB ?_
  (simp_all; done)
 rw [Bool.not_eq_true'] at C
 refine rP 5 [] (mc 0 U I) ?_
 refine RK A<|av<|Q1 hQ U U U ?_
 clear hQ hN A B
 refine cB ?_
 (simp_all; done)
theorem Iu (j:bS) (kA:OA) (kC:Nat) (az:List RA) (cA:OA) (cC:Nat) (bA:OA) (bC:Nat) (slA:OA) (slC:Nat) (drA:OA) (drC:Nat) (ha:List cZ) (heA:OA) (heC:Nat) (faA:OA) (faC:Nat) (prA:OA) (prC:Nat) (hraw:mA j az ha):
 dK Tryz.prog 27 [(vA (du.cells (mZ j kA kC cA cC bA bC slA slC drA drC heA heC faA faC prA prC)))] [(rd kA j.Race.ar.aS.length 9 (j.Race.ar.aS.map au.cells)),(rd cA j.Race.ar.aj.length 2 (List.zipWith ay.cells j.Race.ar.aj az)),(dU (bo ay.gn j.Race.ar.aj az)),(rd bA j.Race.ar.aa.length 4 (j.Race.ar.aa.map bK.cells)),(rd slA j.Race.aY.length 1 (j.Race.aY.map iC)),(rd drA j.Race.cd.length 1 (j.Race.cd.map iC)),(rd heA j.Race.aD.length 1 (List.zipWith cP j.Race.aD ha)),(dU (bo fg j.Race.aD ha)),(rd faA j.aA.length 4 (j.aA.map aW.cells)),(rd prA j.ao.length 5 (j.ao.map aJ.cells))] (vB (decide (mX j))):=by
 have E:=hraw.race
 have F:=hraw.nf
 have G:=hraw.np
 refine bG kr Tryz.func27 U U fun AA Q hQ hN=>?_
 try dsimp only
 refine WS fun _ D=>eL U fun H=>bE 1 U<|RK D<|WS fun _ B=>bE 1 U<|rS (LP (er.cells (yz j.Race kA kC cA cC bA bC slA slC drA drC heA heC)) 0 U cq U U U)<|rS (CL (CC j.Race kA kC az cA cC bA bC slA slC drA drC ha heA heC asm) (bw [1,2,3,4,5,6,7,8]) U)<|rP 1 [] I ?_
 refine bZ (t:=6) U (aV fun C=>?_) (aU fun C=>?_)
 ·refine rP 12 [] I ?_
  refine RK B<|av<|Q1 hQ U U U ?_
  (exact cB (dI (show mX j from .inl (.inl C))).symm)
 refine rP 6 [] (mc 0 U I) ?_
 refine bZ (t:=12) U (aV fun A=>?_) (aU fun A=>?_)
 ·refine rP 6 [] I ?_
  refine RK B<|av<|Q1 hQ U U U ?_
  (exact cB (dI (show mX j from .inl (.inr A))).symm)
 refine rP 6 [] (mc 0 U I) ?_
 refine RK B<|av<|Q1 hQ U U U ?_
 (exact cB (gY.2 (show _↔mX j from ⟨.inr,fun q=>Or.elim q (fun q=>Or.elim q (fun q=>absurd q C) (fun q=>absurd q A)) id⟩)))
end
section
open Go.RowKit
theorem BQ (l:br) (kA:OA) (kC:Nat) (az:List RA) (cA:OA) (cC:Nat) (bA:OA) (bC:Nat) (hin:eo l az):
 dK Tryz.prog 101 [(vA (ct.cells (jW l kA kC cA cC bA bC)))] [(rd kA l.aS.length 9 (l.aS.map au.cells)),(rd cA l.aj.length 2 (List.zipWith ay.cells l.aj az)),(dU (bo ay.gn l.aj az)),(rd bA l.aa.length 4 (l.aa.map bK.cells))] (vI (dJ l)):=by
 have N:=hin.se
 have M:=hin.sb
 have K:=hin.nP
 have L:=hin.r9
 refine bG kr Tryz.func101 U U fun P Q hQ hN=>?_
 try dsimp only
 refine WS fun _ C=>eL U fun O=>bE 1 U<|RK C<|aq fun _ D=>WS fun _ E=>bE 1 U<|rS (LP (bM.cells (bM.mk (bx.mk kA l.aS.length kC))) 0 U cq U U U)<|rS (CL (wx l.aS kA kC asm) (bw [1]) U)<|rP 1 [] I ?_
 refine RK E<|cw U (fun A=>?_) (fun A=>?_)
 ·rw [Bool.not_eq_true'] at A
  refine WS fun _ F=>rP 1 [] I ?_
  refine RK F<|av<|Q1 hQ U U U ?_
  exact cI (zu (by simpa using A)).symm
 rw [Bool.not_eq_false'] at A
 refine WK D<|aq fun _ G=>WS fun _ H=>e9 1 [] (mc 0 U I) U<|rS (CL (L7 l kA kC az cA cC bA bC hin asm) (bw [1,2,3,4]) U)<|rP 1 [] I ?_
 refine RK H<|cw U (bg fun B=>?_) (bf fun B=>?_)
 ·refine WS fun _ AA=>rP 1 [] I ?_
  refine RK AA<|av<|Q1 hQ U U U ?_
  exact cI (q6 A B).symm
 refine WK G<|WS fun _ J=>rP 1 [] I ?_
 refine RK J<|av<|Q1 hQ U U U ?_
 exact cI (xX A B).symm
theorem LS (l:br) (kA:OA) (kC:Nat) (az:List RA) (cA:OA) (cC:Nat) (bA:OA) (bC:Nat) (s:aI) (hin:eo l az) (hok:lF l) (hs:(0≤s.fI∧s.fI≤(l.aa.length:Int)-1)∧0≤s.Read∧s.Read≤86400000):
 dK Tryz.prog 178 [(vA (ct.cells (jW l kA kC cA cC bA bC))),(vA (aI.cells s))] [(rd kA l.aS.length 9 (l.aS.map au.cells)),(rd cA l.aj.length 2 (List.zipWith ay.cells l.aj az)),(dU (bo ay.gn l.aj az)),(rd bA l.aa.length 4 (l.aa.map bK.cells))] (vT [(vA (ai.cells (cS l s))),(vB (decide ((cS l s).Lo≤(cS l s).Hi)))]):=by
 have A0:=hin.se
 have Am:=hin.sb
 have AN:=hin.nP
 have AO:=hin.r9
 refine bG kr Tryz.func178 U U fun w0 Q hQ hN=>?_
 try dsimp only
 refine WS fun _ i=>eL U fun b2=>eL U fun b3=>AL U ed fun b4=>rP 1 [] I ?_
 refine RK i<|aq fun _ j=>dM cy [11,12] [] [] [0,1,2,3,4,5,6] [] U U U U U<|eS U (FA 2 U fK U)<|eS U (L1 (vS cA l.aj.length cC) 2 U cq U U)<|eS U (FA 3 U fK U)<|eS U (L1 (vS bA l.aa.length bC) 2 U cq U U)<|eS U (FA 0 U fK U)<|eS U (L1 (vI s.fI) 1 U cq U U) ?_
 obtain ⟨y,hy⟩:=aM l.aa ((s.fI).toNat) om
 have w:=bO bK.cells hy
 refine eS U (IA ((s.fI).toNat) U (aG 6 U) v9 dc om om)<|eS U (o1 ((((s.fI).toNat)*4)+3) U (aG 6 U) (Nat.mul_pos om dc) fK U)<|eS U (gQ ((s.fI).toNat) 3 (vI y.kh) U cq (aG 6 U) w U dc U) ?_
 have A1:=(hok.tW _ (aQ hy)).2
 obtain ⟨x,hx⟩:=aM l.aj ((y.kh).toNat) om
 obtain ⟨xa,J⟩:=aM az ((y.kh).toNat) om
 have u:(List.zipWith ay.cells l.aj az)[(y.kh).toNat]? =some (ay.cells x xa):=dx hx J
 refine eS U (IA ((y.kh).toNat) U (aG 4 U) Ae dc om om)<|eS U (lS ((y.kh).toNat) 0 (dy.cells (dy.mk x.dF (bx.mk xa.1 x.bI.length xa.2))) U cq (aG 4 U) u U dc U U)<|eC U<|cv U fun T6 m=>AL U O2 fun b7=>aK (m _ _ (aP [1,2,3,4,5,6,7]) ?_)
 refine cv U fun T8 o=>fR U Rh U<|aK (o _ _ (aP [1,2,3,4,5,6,7]) ?_)
 refine fP U<|KK j<|WS fun _ k=>rP 2 [] I ?_
 refine RK k<|aq fun _ K=>aF ?_
 have A:(0≤(0:Int)∧(0:Int)≤(fQ (gJ x s.Read) 86400001))∧((fQ (gJ x s.Read) 86400001)≤(86400001:Int)∧(86400001:Int)≤86400001):=by (have Z:=iO (p:=gJ x s.Read) (n:=86400001); omega)
 refine bQ (ι:={z:Int×Int // (0≤z.1∧z.1≤(fQ (gJ x s.Read) 86400001))∧((fQ (gJ x s.Read) 86400001)≤z.2∧z.2≤86400001)}) [2,3,4,6] [0,1,2,3,4,5,6,7] U U (fun z=>[(7,(vI z.1.1)),(8,(vI z.1.2))]) (fun z=>[]) (fun _=>rfl) (fun _=>rfl) (fun z=>(z.1.2-z.1.1).toNat) ⟨((0:Int),(86400001:Int)),A⟩ (bk U) (aP [0,1,2,3,4,5,6,7]) ?_
 clear A
 rintro ⟨⟨a,b⟩,⟨H,AB⟩⟩ J11 F
 try dsimp only at H AB
 try dsimp only
 have B:=hok.clock _ (aQ hx)
 have Z:=iO (p:=gJ x s.Read) (n:=86400001)
 have Y:=iO (p:=gH x s.Read) (n:=86400001)
 refine aq fun _ L=>WS fun _ M=>rP 3 [] I ?_
 refine RK M<|cw U (aV fun c=>?_) (aU fun c=>?_)
 ·refine WK L<|aF<|WS fun _ N=>bE 3 U<|rS (BI U (uk om om om))<|bE 1 U<|RK N<|aq fun _ O=>dA cy 9 kr<|dP 3 [] (mc 0 U I) ?_
  refine dS (CL (B4 x xa.1 xa.2 ((a+b)/2) asm om) (ax (show iH _ (rd xa.1 x.bI.length 3 (x.bI.map cQ.cells)).holds from (cY 6 U (bP hx J (by simp [ay.gn]))))<|aN) U)<|dS (SX (rI (v:=(vI ((iQ x ((a+b)/2)).Hi))) U U fK Kh U) U U) ?_
  have t:=qH B (show 0≤(a+b)/2∧(a+b)/2≤90000000 by omega)
  refine dP 4 [] (mc 2 U I) ?_
  refine cM<|RK O<|cw U (aV fun g=>?_) (aU fun g=>?_)
  ·refine aw<|rP 2 [] I ?_
   refine aK<|aO ?_
   refine a_ (F ⟨(a,((a+b)/2)),(by dsimp only; have hm:=lh (r:=s.Read) B (x:=(a+b)/2) om om; rcases Int.lt_or_le ((a+b)/2) (fQ (gJ x s.Read) 86400001) with q|q; (have C:=hm.1 q; simp only [gJ,decide_eq_false_iff_not] at C; omega); (have C:=hm.2.1 q; simp only [gJ,decide_eq_true_eq] at C; omega))⟩ _ _ _ rfl (by simp only []; omega) (bk rfl) (aP [0,1,2,3,4,5,6,7]))
  refine aw<|rP 3 [] I ?_
  refine aK<|aO ?_
  refine a_ (F ⟨((((a+b)/2)+1),b),(by dsimp only; have hm:=lh (r:=s.Read) B (x:=(a+b)/2) om om; rcases Int.lt_or_le ((a+b)/2) (fQ (gJ x s.Read) 86400001) with q|q; (have C:=hm.1 q; simp only [gJ,decide_eq_false_iff_not] at C; omega); (have C:=hm.2.1 q; simp only [gJ,decide_eq_true_eq] at C; omega))⟩ _ _ _ rfl (by simp only []; omega) (bk rfl) (aP [0,1,2,3,4,5,6,7]))
 refine bL<|ab<|ab<|aH<|KK K<|WS fun _ P=>bE 2 U<|RK P<|WS fun _ R=>rP 2 [] I ?_
 refine RK R<|aq fun _ S=>aF ?_
 have A:(-1≤((-1):Int)∧((-1):Int)≤(fQ (gH x s.Read) 86400001)-1)∧((fQ (gH x s.Read) 86400001)-1≤(86400000:Int)∧(86400000:Int)≤86400000):=by (have Y:=iO (p:=gH x s.Read) (n:=86400001); omega)
 refine bQ (ι:={z:Int×Int // (-1≤z.1∧z.1≤(fQ (gH x s.Read) 86400001)-1)∧((fQ (gH x s.Read) 86400001)-1≤z.2∧z.2≤86400000)}) [2,3,4,6,10] [0,1,2,3,4,5,6,7] U U (fun z=>[(7,(vI z.1.1)),(8,(vI z.1.2))]) (fun z=>[]) (fun _=>rfl) (fun _=>rfl) (fun z=>(z.1.2-z.1.1).toNat) ⟨(((-1):Int),(86400000:Int)),A⟩ (bk U) (aP [0,1,2,3,4,5,6,7]) ?_
 clear A
 rintro ⟨⟨d,e⟩,⟨D,E⟩⟩ J20 G
 try dsimp only at D E
 try dsimp only
 have B:=hok.clock _ (aQ hx)
 have Z:=iO (p:=gJ x s.Read) (n:=86400001)
 have Y:=iO (p:=gH x s.Read) (n:=86400001)
 refine aq fun _ T=>WS fun _ AA=>rP 3 [] I ?_
 refine RK AA<|bV U (aU fun f=>?_) (aV fun f=>?_)
 ·refine bL<|ab<|ab<|aH<|KK S<|WS fun _ X=>bE 2 U<|rS (SX (bq (xs:=[(0,.tmp 63),(1,.tmp 64)]) (cs:=(ai.cells (ai.mk a d))) U U (bp g4 U)) U U)<|bE 3 U<|qy U c_ U<|rP 1 [] I ?_
  refine RK X<|av<|mY hQ [0] (mc 1 U I) U ?_
  have e0:cS l s=⟨a,d⟩:=by (unfold cS qQ; rw [wK hy hx,show a=(fQ (gJ x s.Read) 86400001) by omega,show d=(fQ (gH x s.Read) 86400001)-1 by omega])
  rw [e0]
 refine WK T<|aF<|WS fun _ V=>bE 4 U<|rS (BI U (uk om om om))<|bE 1 U<|RK V<|aq fun _ W=>dA cy 9 kr<|dP 3 [] (mc 0 U I) ?_
 refine dS (CL (B4 x xa.1 xa.2 (((d+e)+1)/2) asm om) (ax (show iH _ (rd xa.1 x.bI.length 3 (x.bI.map cQ.cells)).holds from (cY 6 U (bP hx J (by simp [ay.gn]))))<|aN) U)<|dS (SX (rI (v:=(vI ((iQ x (((d+e)+1)/2)).Lo))) U U fK H7 U) U U) ?_
 have t:=qH B (show 0≤(d+e+1)/2∧(d+e+1)/2≤90000000 by omega)
 refine dP 4 [] (mc 2 U I) ?_
 refine cM<|RK W<|cw U (aV fun h=>?_) (aU fun h=>?_)
 ·refine aw<|rP 2 [] I ?_
  refine aK<|aO ?_
  refine a_ (G ⟨((((d+e)+1)/2),e),(by dsimp only; have hm:=lh (r:=s.Read) B (x:=(d+e+1)/2) om om; rcases Int.lt_or_le ((d+e+1)/2) (fQ (gH x s.Read) 86400001) with q|q; (have C:=hm.2.2.1 q; simp only [gH,decide_eq_false_iff_not] at C; omega); (have C:=hm.2.2.2 q; simp only [gH,decide_eq_true_eq] at C; omega))⟩ _ _ _ rfl (by simp only []; omega) (bk rfl) (aP [0,1,2,3,4,5,6,7]))
 refine aw<|rP 3 [] I ?_
 refine aK<|aO ?_
 refine a_ (G ⟨(d,((((d+e)+1)/2)-1)),(by dsimp only; have hm:=lh (r:=s.Read) B (x:=(d+e+1)/2) om om; rcases Int.lt_or_le ((d+e+1)/2) (fQ (gH x s.Read) 86400001) with q|q; (have C:=hm.2.2.1 q; simp only [gH,decide_eq_false_iff_not] at C; omega); (have C:=hm.2.2.2 q; simp only [gH,decide_eq_true_eq] at C; omega))⟩ _ _ _ rfl (by simp only []; omega) (bk rfl) (aP [0,1,2,3,4,5,6,7]))
end
section
open Go.RowKit
theorem ph (n lo hi:Int):
 dK Tryz.prog 122 [(vI n),(vI lo),(vI hi)] [] (vB (decide (lo≤n∧n≤hi))):=by
 refine bG kr Tryz.func122 U U fun D Q hQ hN=>?_
 try dsimp only
 refine WS fun _ B=>bE 1 U<|RK B<|WS fun _ A=>rP 4 [] I ?_
 refine bZ (t:=10) U (aV fun C=>?_) (aU fun C=>?_)
 ·refine rP 5 [] I ?_
  refine RK A<|av<|Q1 hQ U U U ?_
  exact cB (gY.2 om)
 refine rP 5 [] I ?_
 refine RK A<|av<|Q1 hQ U U U ?_
 exact cB (bH om).symm
theorem Fz (r:cD) (sgA:OA) (sgC:Nat):
 dK Tryz.prog 141 [(vA (cN.cells (jr r sgA sgC)))] [(rd sgA r.ag.length 2 (r.ag.map aI.cells))] (vB (decide (m8 r))):=by
 refine bG kr Tryz.func141 U U fun F Q hQ hN=>?_
 try dsimp only
 refine WS fun _ B=>eL U fun E=>bE 1 U<|RK B<|WS fun _ A=>rP 4 [] (mc 0 U I) ?_
 refine cL (t:=6) U (aU fun C=>?_) (aV fun C=>?_)
 ·refine rP 11 [] I ?_
  refine RK A<|av<|Q1 hQ U U U ?_
  simp only [m8]
  exact cB (bH om).symm
 refine rP 5 [] (mc 0 U I) ?_
 refine cL (t:=11) U (aU fun D=>?_) (aV fun D=>?_)
 ·refine rP 6 [] I ?_
  refine RK A<|av<|Q1 hQ U U U ?_
  simp only [m8]
  exact cB (bH om).symm
 refine rP 6 [] (mc 0 U I) ?_
 refine RK A<|av<|Q1 hQ U U U ?_
 simp only [m8]
 exact cB (gY.2 om)
theorem M1 (s:ai):
 dK Tryz.prog 142 [(vA (ai.cells s))] [] (vB (decide (mh s))):=by
 refine bG kr Tryz.func142 U U fun F Q hQ hN=>?_
 try dsimp only
 refine WS fun _ B=>eL U fun E=>bE 1 U<|RK B<|WS fun _ A=>rP 4 [] (mc 0 U I) ?_
 refine cL (t:=6) U (aU fun C=>?_) (aV fun C=>?_)
 ·refine rP 12 [] I ?_
  refine RK A<|av<|Q1 hQ U U U ?_
  simp only [mh]
  exact cB (bH om).symm
 refine rP 7 [] (mc 0 U I) ?_
 refine cL (t:=13) U (aU fun D=>?_) (aV fun D=>?_)
 ·refine rP 5 [] I ?_
  refine RK A<|av<|Q1 hQ U U U ?_
  simp only [mh]
  exact cB (bH om).symm
 refine rP 5 [] (mc 0 U I) ?_
 refine RK A<|av<|Q1 hQ U U U ?_
 simp only [mh]
 exact cB (gY.2 om)
theorem Cz (la:List Int) (laA:OA) (laC:Nat) (lb:List Int) (lbA:OA) (lbC:Nat) (h1:la.length≤1000000) (h2:lb.length≤1000000):
 dK Tryz.prog 38 [(vS laA la.length laC),(vS lbA lb.length lbC)] [(rd laA la.length 1 (la.map iC)),(rd lbA lb.length 1 (lb.map iC))] (vB (decide (la=lb))):=by
 refine bG kr Tryz.func38 U U fun V Q hQ hN=>?_
 try dsimp only
 refine WS fun _ J=>bE 1 U<|RK J<|aq fun _ K=>WS fun _ L=>rP 5 [] I ?_
 refine RK L<|cw U (bg fun hl=>?_) (bf fun hl=>?_)
 ·refine WS fun _ M=>rP 1 [] I ?_
  refine RK M<|av<|Q1 hQ U U U ?_
  exact cB (bH (fun e=>by subst e; omega)).symm
 refine WK K<|aq fun _ N=>WS fun _ O=>rP 1 [] I ?_
 refine RK O<|aF ?_
 have A:(0≤la.length)∧(la.take 0=lb.take 0):=by simp
 refine bQ (ι:={z:Nat // (z≤la.length)∧(la.take z=lb.take z)}) [0,1] [0,1] U U (fun z=>[(5,(vI (z.1:Int)))]) (fun z=>[]) (fun _=>rfl) (fun _=>rfl) (fun z=>la.length-z.1) ⟨0,A⟩ (bk U) (aP [0,1]) ?_
 clear A
 rintro ⟨i,⟨S,B⟩⟩ J7 AB
 try dsimp only
 refine aq fun _ P=>WS fun _ R=>rP 4 [] I ?_
 refine RK R<|bV U (aU fun H=>?_) (aV fun H=>?_)
 ·refine bL<|ab<|ab<|aH<|KK N<|WS fun _ F=>rP 1 [] I ?_
  refine RK F<|av<|Q1 hQ U U U ?_
  exact cB (dI (qO om B om)).symm
 refine WK P<|aq fun _ C=>aF<|aq fun _ D=>dA cy 9 kr<|dP 2 [] I ?_
 obtain ⟨x,hx⟩:=aM la i om
 have T:=bO iC hx
 refine dS (IA i U (aG 0 U) dp dc om om)<|dS (gQ i 0 (vI x) U cq (aG 0 U) T U dc U)<|dP 2 [] I ?_
 obtain ⟨y,hy⟩:=aM lb i om
 have AA:=bO iC hy
 refine dS (IA i U (aG 1 U) dp dc om om)<|dS (gQ i 0 (vI y) U cq (aG 1 U) AA U dc U)<|dP 1 [] I ?_
 refine cM<|RK D<|cw U (bg fun h=>?_) (bf fun h=>?_)
 ·refine WS fun _ E=>rP 1 [] I ?_
  refine RK E<|av<|Q1 hQ U U U ?_
  exact cB (bH (qI hx hy h)).symm
 refine cg<|aO<|KK C<|aw<|rP 3 [] I ?_
 refine aK ?_
 have G:(vI (((i+1):Nat):Int))=(vI ((i:Int)+1)):=by exact cI om
 refine a_ (AB ⟨(i+1),⟨om,vk B hx hy h⟩⟩ _ _ _ U os (dv.cons U<|dv.cons U<|bj U G<|dv.nil _) (aP [0,1]))
end
section
/-- where a sled may be after k beams more -/
def gu (w:b_):Nat→Nat→aL×Int→List (aL×Int)
 |0,_,p=>[p]
 |k+1,b,p=>(iT w b).flatMap fun o=>match kW w b p o with
  |some q=>gu w k (b+1) q
  |none=>[]
variable {w:b_}
theorem iI {k b:Nat} {p q:aL×Int}:q∈gu w (k+1) b p↔ ∃ o∈iT w b,∃ p',kW w b p o=some p'∧q∈gu w k (b+1) p':=by
 simp only [gu,List.mem_flatMap]
 constructor
 ·rintro ⟨o,ho,h⟩
  cases e:kW w b p o with
  |none=>rw [e] at h; cases h
  |some p'=>rw [e] at h; exact ⟨o,ho,p',e,h⟩
 ·rintro ⟨o,ho,p',e,h⟩
  exact ⟨o,ho,by rw [e]; exact h⟩
theorem rp: ∀ (k b:Nat) (q:aL×Int),q∈fwd w (b+k)↔ ∃ p∈fwd w b,q∈gu w k b p:=by
 intro k
 induction k with
 |zero=>
  intro b q
  simp only [Nat.add_zero,gu,cu]
  exact ⟨fun h=>⟨q,h,rfl⟩,fun ⟨p,hp,e⟩=>e▸hp⟩
 |succ k ih=>
  intro b q
  rw [show b+(k+1)=(b+1)+k by omega,ih]
  constructor
  ·rintro ⟨p',hp',h⟩
   obtain ⟨p,hp,o,ho,e⟩:=gh.1 hp'
   exact ⟨p,hp,iI.2 ⟨o,ho,p',e,h⟩⟩
  ·rintro ⟨p,hp,h⟩
   obtain ⟨o,ho,p',e,h'⟩:=iI.1 h
   exact ⟨p',gh.2 ⟨p,hp,o,ho,e⟩,h'⟩
theorem g8 {b:Nat} {p q:aL×Int} {o:Int×ai}:kW w b p o=some q↔max (p.2+cp w b) o.2.Lo≤min o.2.Hi w.gf∧q=(dG p.1 (fJ o.1),max (p.2+cp w b) o.2.Lo):=by
 unfold kW
 split
 ·rename_i h
  constructor
  ·intro e; cases e; exact ⟨h,rfl⟩
  ·rintro ⟨_,rfl⟩; rfl
 ·rename_i h
  constructor
  ·intro e; cases e
  ·rintro ⟨h',_⟩; exact absurd h' h
theorem vl {b:Nat} {p q:aL×Int} {o:Int×ai}:oh w b p o=some q↔o.2.Lo≤min p.2 o.2.Hi∧q=(dG p.1 (fJ o.1),min p.2 o.2.Hi-cp w b):=by
 unfold oh
 split
 ·rename_i h
  constructor
  ·intro e; cases e; exact ⟨h,rfl⟩
  ·rintro ⟨_,rfl⟩; rfl
 ·rename_i h
  constructor
  ·intro e; cases e
  ·rintro ⟨h',_⟩; exact absurd h' h
theorem G6 {b:Nat} (hb:b≤w.n):((⟨0,0⟩:aL),w.gf)∈back w b:=by
 rcases Nat.lt_or_ge b w.n with h|h
 ·exact (px h).2 (.inl U)
 ·rw [vp h]; simp
theorem nv (t:aL):dG t ⟨0,0⟩=t:=by cases t; simp [dG]
theorem yY (a o u:aL):dG (dG a o) u=dG a (dG u o):=by simp only [dG,aL.mk.injEq]; omega
theorem Fx (hl: ∀ b,0≤cp w b): ∀ (k:Nat) (u:aL×Int),u∈bwd w k→u.2≤w.gf:=by
 intro k
 induction k with
 |zero=>intro u hu; simp only [bwd,cu] at hu; subst hu; exact Int.le_refl _
 |succ k ih=>
  intro u hu
  simp only [bwd,bW,List.mem_flatMap,List.mem_filterMap] at hu
  rcases hu with rfl|⟨p,hp,o,ho,e⟩
  ·exact Int.le_refl _
  ·obtain ⟨_,rfl⟩:=vl.1 e
   have:=ih p hp
   have:=hl (w.n-(k+1))
   simp only; omega
/-- what follows a passing is told by the way back -/
theorem Nb: ∀ (k b:Nat) (p q:aL×Int),b+k≤w.n→p.2≤w.gf→q∈gu w k b p→ ∃ u∈back w b,p.2≤u.2∧q.1=dG p.1 u.1:=by
 intro k
 induction k with
 |zero=>
  intro b p q hb hp hq
  simp only [gu,cu] at hq
  subst hq
  exact ⟨_,G6 om,hp,(nv _).symm⟩
 |succ k ih=>
  intro b p q hb hp hq
  obtain ⟨o,ho,p',e,h⟩:=iI.1 hq
  obtain ⟨C,rfl⟩:=g8.1 e
  obtain ⟨u',hu',B,A⟩:=ih (b+1) _ q om (by simp only; omega) h
  simp only at B A
  refine ⟨(dG u'.1 (fJ o.1),min u'.2 o.2.Hi-cp w b),(px om).2 (.inr ⟨u',hu',o,ho,vl.2 ⟨om,U⟩⟩),by simp only; omega,?_⟩
  rw [A,yY]
theorem IB (hl: ∀ b,0≤cp w b): ∀ (d b:Nat) (p u:aL×Int),w.n=b+d→p.2≤u.2→u∈back w b→ ∃ k,b+k≤w.n∧ ∃ q∈gu w k b p,q.1=dG p.1 u.1:=by
 intro d
 induction d with
 |zero=>
  intro b p u hd hp hu
  rw [vp om] at hu
  simp only [cu] at hu
  subst hu
  exact ⟨0,om,p,by simp [gu],(nv _).symm⟩
 |succ d ih=>
  intro b p u hd hp hu
  rcases (px om).1 hu with rfl|⟨u',hu',o,ho,e⟩
  ·exact ⟨0,om,p,by simp [gu],(nv _).symm⟩
  ·obtain ⟨B,rfl⟩:=vl.1 e
   have hn:u'.2≤w.gf:=Fx hl _ _ hu'
   simp only at hp
   obtain ⟨k,hk,q,hq,A⟩:=ih (b+1) (dG p.1 (fJ o.1),max (p.2+cp w b) o.2.Lo) u' om (by simp only; omega) hu'
   refine ⟨k+1,om,q,iI.2 ⟨o,ho,_,g8.2 ⟨om,U⟩,hq⟩,?_⟩
   rw [A]; simp only; rw [yY]
end
section
section
variable {l:br} {r:cD} {one at_:Int} {d:Nat} {f g m:Int} {rec:Int→Int→Int→Bool} {i:Int}
end
theorem qN {l:br} {r:cD} {d:Nat} (hd:d<l.aa.length) {o:Int×ai}:o∈iT (cm l r) d↔o=(-1,⟨r.Start,r.gf⟩)∨ ∃ k,k<r.ag.length∧ ∃ s,r.ag[k]? =some s∧(s.fI=(d:Int)∧(cS l s).Lo≤(cS l s).Hi)∧o=((k:Int),cS l s):=by
 unfold iT uw
 show o∈(-1,(⟨r.Start,r.gf⟩:ai))::((cO l r.ag r.ag.length)[d]?).getD []↔_
 rw [po hd,Option.getD_some,bW,sV]
theorem qh {l:br} {r:cD} {d:Nat} (hd:d<l.aa.length):cp (cm l r) d=ej l d:=by rw [yI,if_pos hd]
theorem vc {l:br} {n d:Nat} {y:Int} (h:(cr l n)[d]? =some y):y=ej l d:=by
 unfold cr at h
 rw [fX] at h
 have hd:d<n:=by
  rcases Nat.lt_or_ge d n with q|q
  ·exact q
  ·rw [List.getElem?_eq_none (by simpa using q)] at h; cases h
 rw [List.getElem?_range hd] at h
 exact (Option.some.inj h).symm
end
section
def Du (w:b_) (b:Nat) (i:Int):Prop:= ∃ b',b'<b∧ ∃ q∈mR w b',q.1=i
noncomputable instance (w:b_) (b:Nat) (i:Int):Decidable (Du w b i):=Classical.propDecidable _
noncomputable def zZ (w:b_) (n:Nat):List Int:=((List.range n).map fun (k:Nat)=>(k:Int)).filter fun i=> !decide (Du w w.n i)
noncomputable def Ja (l:br) (r:cD):List Int:=if dW l r 0=0 then zZ (cm l r) r.ag.length else []
theorem Hh {l:br} {r:cD} (h:dW l r 0=0):Ja l r=zZ (cm l r) r.ag.length:=if_pos h
def tM (w:b_) (b:Nat):Bool:=(mR w b).any fun q=>decide (0≤q.1)
def wv (w:b_) (k:Nat):List Int:=((List.range k).filter fun b=> !tM w b).map fun (b:Nat)=>(b:Int)
noncomputable def tO (l:br) (r:cD):List Int:=if dW l r 0=0 then wv (cm l r) (nI (hU l r)).toNat else []
theorem sY {l:br} {r:cD} (h:dW l r 0=0):tO l r=wv (cm l r) (nI (hU l r)).toNat:=if_pos h
theorem wN {l:br} {r:cD} (h: ¬ dW l r 0=0):tO l r=[]:=if_neg h
theorem DW {w:b_} {n:Nat} {i:Int}:i∈zZ w n↔(0≤i∧i<(n:Int))∧ ¬ Du w w.n i:=by
 unfold zZ
 rw [List.mem_filter,cz]
 simp only [Bool.not_eq_true',decide_eq_false_iff_not]
 constructor
 ·rintro ⟨⟨k,hk,rfl⟩,A⟩
  have:=List.mem_range.1 hk
  exact ⟨om,A⟩
 ·rintro ⟨B,A⟩
  exact ⟨⟨i.toNat,List.mem_range.2 om,om⟩,A⟩
theorem S7 {l:br} {r:cD} (h:dW l r 0=0):0≤nI (hU l r)∧nI (hU l r)≤(l.aa.length:Int):=by
 have A:=(FN (vg h)).1
 rw [kp h] at A ⊢
 obtain ⟨i,e,hi,_⟩:=pD.1 A
 have hn:(cm l r).n=l.aa.length:=cW
 omega
end
section
/-- a truth goes on from here -/
def sZ (w:b_) (b:Nat) (p:aL×Int):Prop:= ∃ k,b+k≤w.n∧ ∃ q∈gu w k b p,kO w q.1=true
/-- a truth may have come here, or earlier -/
def CX (w:b_) (b:Nat) (p:aL×Int):Prop:= ∃ v,(p.1,v)∈fwd w b∧v≤p.2
def K3 (n:Int) (p:aL×Int):aL×Int:=(p.1,p.2+n)
section
variable {w:b_}
theorem Gv: ∀ (k j b:Nat) (p q z:aL×Int),q∈gu w k b p→z∈gu w j (b+k) q→z∈gu w (k+j) b p:=by
 intro k
 induction k with
 |zero=>
  intro j b p q z A B
  simp only [gu,cu] at A
  subst A
  rw [Nat.zero_add]; exact B
 |succ k ih=>
  intro j b p q z A B
  obtain ⟨o,ho,p',e,h⟩:=iI.1 A
  rw [show k+1+j=(k+j)+1 by omega]
  exact iI.2 ⟨o,ho,p',e,ih j (b+1) p' q z h (by rw [show b+1+k=b+(k+1) by omega]; exact B)⟩
theorem Bu: ∀ (k b:Nat) (t:aL) (x y:Int) (q:aL×Int),y≤x→q∈gu w k b (t,x)→ ∃ q'∈gu w k b (t,y),q'.1=q.1∧q'.2≤q.2:=by
 intro k
 induction k with
 |zero=>
  intro b t x y q A hq
  simp only [gu,cu] at hq ⊢
  subst hq
  exact ⟨_,U,U,A⟩
 |succ k ih=>
  intro b t x y q A hq
  obtain ⟨o,ho,p',e,h⟩:=iI.1 hq
  obtain ⟨B,rfl⟩:=g8.1 e
  simp only at B h
  obtain ⟨q',hq',C,D⟩:=ih (b+1) _ _ (max (y+cp w b) o.2.Lo) q om h
  exact ⟨q',iI.2 ⟨o,ho,_,g8.2 ⟨by simp only; omega,U⟩,hq'⟩,C,D⟩
theorem xj {b:Nat} {t:aL} {x y:Int} (h:sZ w b (t,x)) (hy:y≤x):sZ w b (t,y):=by
 obtain ⟨k,hk,q,hq,hm⟩:=h
 obtain ⟨q',hq',e,_⟩:=Bu k b t x y q hy hq
 exact ⟨k,hk,q',hq',by rw [e]; exact hm⟩
theorem uN {k b:Nat} {p q:aL×Int} (h:q∈gu w k b p) (hv:sZ w (b+k) q):sZ w b p:=by
 obtain ⟨j,hj,z,hz,hm⟩:=hv
 exact ⟨k+j,om,z,Gv k j b p q z h hz,hm⟩
theorem Hq {b:Nat} {p q:aL×Int} {o:Int×ai} (h:CX w b p) (ho:o∈iT w b) (e:kW w b p o=some q):CX w (b+1) q:=by
 obtain ⟨v,hv,A⟩:=h
 obtain ⟨B,rfl⟩:=g8.1 e
 exact ⟨max (v+cp w b) o.2.Lo,gh.2 ⟨_,hv,o,ho,g8.2 ⟨by simp only; omega,U⟩⟩,by simp only; omega⟩
theorem Bj {b:Nat} {p:aL×Int} (h:p∈fwd w b):CX w b p:=⟨p.2,h,Int.le_refl _⟩
theorem za (hl: ∀ b,0≤cp w b): ∀ (b:Nat) (p:aL×Int),p∈fwd w b→w.Start≤p.2:=by
 intro b
 induction b with
 |zero=>intro p hp; simp only [fwd,cu] at hp; subst hp; exact Int.le_refl _
 |succ b ih=>
  intro q hq
  obtain ⟨p,hp,o,ho,e⟩:=gh.1 hq
  obtain ⟨_,rfl⟩:=g8.1 e
  have:=ih p hp
  have:=hl b
  simp only; omega
/-- a beam is passed at a time, by a signal -/
def w7 (w:b_) (b:Nat) (s t:Int):Prop:= ∃ p∈fwd w b,∃ o∈iT w b,o.1=s∧(max (p.2+cp w b) o.2.Lo≤t∧t≤min o.2.Hi w.gf)∧sZ w (b+1) (dG p.1 (fJ o.1),t)
theorem wu (hl: ∀ b,0≤cp w b) {b:Nat} (hb:b<w.n) {s t:Int}:(∃ q∈mR w b,q.1=s∧q.2.Lo≤t∧t≤q.2.Hi)↔w7 w b s t:=by
 constructor
 ·rintro ⟨q,hq,hs,C,D⟩
  obtain ⟨o,ho,p,hp,u,hu,e⟩:=iJ.1 hq
  obtain ⟨B,A,rfl⟩:=jH.1 e
  simp only [jI] at C D B
  have hn:u.2≤w.gf:=Fx hl _ _ hu
  obtain ⟨k,hk,q,hq',E⟩:=IB hl (w.n-(b+1)) (b+1) (dG p.1 (fJ o.1),t) u om (by simp only; omega) hu
  refine ⟨p,hp,o,ho,hs,⟨om,om⟩,k,hk,q,hq',?_⟩
  rw [E]
  unfold xE at A
  rw [show dG (dG p.1 (fJ o.1)) u.1=dG (dG p.1 u.1) (fJ o.1) by simp only [dG,aL.mk.injEq]; omega]
  exact A
 ·rintro ⟨p,hp,o,ho,hs,⟨C,D⟩,k,hk,q,hq,hm⟩
  obtain ⟨u,hu,B,A⟩:=Nb k (b+1) _ q hk (by simp only; omega) hq
  simp only at B A
  refine ⟨(o.1,jI w b p u o),iJ.2 ⟨o,ho,p,hp,u,hu,jH.2 ⟨by simp only [jI]; omega,?_,U⟩⟩,hs,by simp only [jI]; omega,by simp only [jI]; omega⟩
  unfold xE
  rw [A] at hm
  rw [show dG (dG p.1 u.1) (fJ o.1)=dG (dG p.1 (fJ o.1)) u.1 by simp only [dG,aL.mk.injEq]; omega]
  exact hm
end
structure yu (w w':b_) (n:Int) (f:Int→Int):Prop where
 start:w'.Start=w.Start+n
 now:w'.gf=w.gf+n
 wn:w'.n=w.n
 low: ∀ b,0≤cp w b
 least: ∀ b,cp w' b=cp w b
 may: ∀ t,kO w t=true→kO w' t=true
 UP: ∀ s,0≤f s↔0≤s
 opt: ∀ (b:Nat) (p:aL×Int) (o:Int×ai),b<w.n→w.Start≤p.2→CX w b p→o∈iT w b→max (p.2+cp w b) o.2.Lo≤min o.2.Hi w.gf→sZ w (b+1) (dG p.1 (fJ o.1),max (p.2+cp w b) o.2.Lo)→
  ∃ o'∈iT w' b,o'.1=f o.1∧ ∀ t,w.Start≤t→t≤w.gf→((o.2.Lo≤t∧t≤o.2.Hi)↔(o'.2.Lo≤t+n∧t+n≤o'.2.Hi))
section
variable {w w':b_} {n:Int} {f g:Int→Int}
theorem yu.one (h:yu w w' n f) (s:Int):fJ (f s)=fJ s:=by
 unfold fJ
 have:=h.UP s
 by_cases q:s<0
 ·rw [if_pos q,if_pos om]
 ·rw [if_neg q,if_neg om]
theorem yu.step (h:yu w w' n f) {b:Nat} {p q:aL×Int} {o:Int×ai} (hb:b<w.n) (hs:w.Start≤p.2) (hl:CX w b p) (ho:o∈iT w b) (e:kW w b p o=some q) (hv:sZ w (b+1) q):
 ∃ o'∈iT w' b,kW w' b (K3 n p) o'=some (K3 n q):=by
 obtain ⟨E,rfl⟩:=g8.1 e
 obtain ⟨o',ho',D,A⟩:=h.opt b p o hb hs hl ho E hv
 have F:=h.low b
 have B:=A (max (p.2+cp w b) o.2.Lo) om om
 have C:=A (max (p.2+n+cp w b) o'.2.Lo-n) om
 refine ⟨o',ho',g8.2 ?_⟩
 simp only [K3,h.least,h.now]
 rw [D,h.one]
 have G:=B.1 om
 have H:=(C om).2 om
 refine ⟨om,?_⟩
 simp only [Prod.mk.injEq,true_and]
 omega
theorem yu.reach (h:yu w w' n f): ∀ (k b:Nat) (p q:aL×Int),b+k≤w.n→w.Start≤p.2→CX w b p→q∈gu w k b p→sZ w (b+k) q→K3 n q∈gu w' k b (K3 n p):=by
 intro k
 induction k with
 |zero=>
  intro b p q _ _ _ hq _
  simp only [gu,cu] at hq ⊢
  rw [hq]
 |succ k ih=>
  intro b p q hb hs hl hq hv
  obtain ⟨o,ho,p',e,hq'⟩:=iI.1 hq
  have hv':sZ w (b+1) p':=uN hq' (by rw [show b+1+k=b+(k+1) by omega]; exact hv)
  obtain ⟨o',ho',e'⟩:=h.step om hs hl ho e hv'
  have A:=g8.1 e
  have B:=h.low b
  exact iI.2 ⟨o',ho',_,e',ih (b+1) p' q om (by rw [A.2]; simp only; omega) (Hq hl ho e) hq' (by rw [show b+1+k=b+(k+1) by omega]; exact hv)⟩
theorem yu.P1 (h:yu w w' n f) {b:Nat} {p:aL×Int} (hs:w.Start≤p.2) (hl:CX w b p) (hv:sZ w b p):sZ w' b (K3 n p):=by
 obtain ⟨k,hk,q,hq,hm⟩:=hv
 exact ⟨k,by rw [h.wn]; exact hk,_,h.reach k b p q hk hs hl hq ⟨0,om,q,by simp [gu],hm⟩,h.may _ hm⟩
theorem yu.fwd (h:yu w w' n f) {b:Nat} {q:aL×Int} (hb:b≤w.n) (hq:q∈fwd w b) (hv:sZ w b q):K3 n q∈Go.Proofs.YtijpnoadncadoaaGreatDoor.fwd w' b:=by
 obtain ⟨p,hp,hr⟩:=(rp b 0 q).1 (by rw [Nat.zero_add]; exact hq)
 have hr':=h.reach b 0 p q om (za h.low 0 p hp) (Bj hp) hr (by rw [Nat.zero_add]; exact hv)
 have:K3 n p∈Go.Proofs.YtijpnoadncadoaaGreatDoor.fwd w' 0:=by
  simp only [Go.Proofs.YtijpnoadncadoaaGreatDoor.fwd,cu] at hp ⊢
  subst hp
  rw [h.start]; rfl
 have A:=(rp b 0 (K3 n q)).2 ⟨_,this,hr'⟩
 rwa [Nat.zero_add] at A
theorem yu.any (h:yu w w' n f) {b:Nat} (hb:b≤w.n) (hm:jE w (Go.Proofs.YtijpnoadncadoaaGreatDoor.fwd w b)=true):jE w' (Go.Proofs.YtijpnoadncadoaaGreatDoor.fwd w' b)=true:=by
 unfold jE at hm ⊢
 obtain ⟨p,hp,A⟩:=List.any_eq_true.1 hm
 exact List.any_eq_true.2 ⟨_,h.fwd hb hp ⟨0,om,p,by simp [gu],A⟩,h.may _ A⟩
theorem yu.pass (h:yu w w' n f) {b:Nat} (hb:b<w.n) {s t:Int} (hp:w7 w b s t):w7 w' b (f s) (t+n):=by
 obtain ⟨p,hp,o,ho,rfl,⟨D,G⟩,hv⟩:=hp
 have hs:=za h.low b p hp
 have hl:=h.low b
 have A:sZ w (b+1) (dG p.1 (fJ o.1),max (p.2+cp w b) o.2.Lo):=xj hv D
 have e:kW w b p o=some (dG p.1 (fJ o.1),max (p.2+cp w b) o.2.Lo):=g8.2 ⟨om,rfl⟩
 have B:sZ w b p:=uN (k:=1) (iI.2 ⟨o,ho,_,e,by simp [gu]⟩) A
 obtain ⟨o',ho',C,E⟩:=h.opt b p o hb hs (Bj hp) ho om A
 have c:=(E t om om).1 om
 refine ⟨K3 n p,h.fwd om hp B,o',ho',C,?_,?_⟩
 ·simp only [K3,h.least,h.now]; omega
 ·have F:=h.P1 (b:=b+1) (p:=(dG p.1 (fJ o.1),t)) (by simp only; omega) ⟨_,gh.2 ⟨p,hp,o,ho,e⟩,D⟩ hv
  rw [C,h.one]; exact F
theorem KF (h:yu w w' n f) (h':yu w' w (-n) g):hP w'=hP w:=by
 unfold hP
 rw [h.wn]
 unfold kH
 congr 1
 refine List.filter_congr fun b hb=>?_
 have hb:=List.mem_range.1 hb
 rw [Bool.eq_iff_iff]
 exact ⟨h'.any (by rw [h.wn]; omega),h.any om⟩
theorem Cn (h:yu w w' n f) (hl': ∀ b,0≤cp w' b) {b:Nat} (hb:b<w.n) {s:Int} (hq: ∃ q∈mR w b,q.1=s): ∃ q∈mR w' b,q.1=f s:=by
 obtain ⟨q,hq,e⟩:=hq
 have A:q.2.Lo≤q.2.Hi:=nq hq
 obtain ⟨q',hq',e',_⟩:=(wu hl' (by rw [h.wn]; exact hb)).2 (h.pass hb ((wu h.low hb).1 ⟨q,hq,e,Int.le_refl _,A⟩))
 exact ⟨q',hq',e'⟩
theorem GK (h:yu w w' n f) (h':yu w' w (-n) g) {b:Nat} (hb:b<w.n):tM w' b=tM w b:=by
 rw [Bool.eq_iff_iff]
 unfold tM
 simp only [List.any_eq_true,decide_eq_true_eq]
 constructor
 ·rintro ⟨q,hq,A⟩
  obtain ⟨q',hq',e⟩:=Cn h' h.low (by rw [h.wn]; exact hb) ⟨q,hq,rfl⟩
  exact ⟨q',hq',by rw [e]; exact (h'.UP _).2 A⟩
 ·rintro ⟨q,hq,A⟩
  obtain ⟨q',hq',e⟩:=Cn h h'.low hb ⟨q,hq,rfl⟩
  exact ⟨q',hq',by rw [e]; exact (h.UP _).2 A⟩
end
section
variable {l l':br} {r r':cD} {n:Int} {f g:Int→Int}
structure v8 (l:br) (r:cD) (l':br) (r':cD) (n:Int) (f g:Int→Int):Prop where
 line:dJ l=0
 line':dJ l'=0
 jS:eg l r
 ride':eg l' r'
 Oi:l'.aa.length=l.aa.length
 to:yu (cm l r) (cm l' r') n f
 VJ:yu (cm l' r') (cm l r) (-n) g
theorem v8.Gi (h:v8 l r l' r' n f g):hP (cm l' r')=hP (cm l r):=KF h.to h.VJ
theorem v8.e (h:v8 l r l' r' n f g) {me:Int}:dW l' r' me=dW l r me:=by
 by_cases hm:me=0
 ·by_cases q:hP (cm l r)=[]
  ·rw [g5 h.line h.jS hm q,g5 h.line' h.ride' hm (h.Gi.trans q)]
  ·rw [lj h.line h.jS hm q,lj h.line' h.ride' hm (by rw [h.Gi]; exact q)]
 ·rw [rm h.line h.jS hm,rm h.line' h.ride' hm]
theorem v8.Eu (h:v8 l r l' r' n f g):hU l' r'=hU l r:=by
 by_cases q:dW l r 0=0
 ·rw [kp q,kp (h.e.trans q),h.Gi]
 ·rw [nE q,nE (by rw [h.e]; exact q)]
theorem v8.tW (h:v8 l r l' r' n f g) {b:Int}:jB l' b=jB l b:=by unfold jB; rw [h.Oi]
theorem v8.bn (h:v8 l r l' r' n f g):(cm l r).n=l.aa.length:=cW
theorem v8.eW (h:v8 l r l' r' n f g):tO l' r'=tO l r:=by
 by_cases q:dW l r 0=0
 ·rw [sY q,sY (h.e.trans q),h.Eu]
  have hb:=S7 q
  unfold wv
  congr 1
  refine List.filter_congr fun b A=>?_
  have A:=List.mem_range.1 A
  rw [GK h.to h.VJ (by rw [h.bn]; omega)]
 ·rw [wN q,wN (by rw [h.e]; exact q)]
end
end
section
theorem nB {l:br} (ht:dq l.aS=true) (h:lF l) {i:Nat} (hi:i<l.aa.length):1≤ej l i∧ej l i≤500000000:=by
 have A:=h.PA i hi
 have B:=AX ht h.tW i
 have hf:=h.head.1
 unfold ej o0
 refine ⟨(Int.le_ediv_iff_mul_le om).2 om,?_⟩
 have:(1000*lz l i+l.hG-1)/l.hG≤1000*lz l i+l.hG-1:=Int.ediv_le_self _ om
 omega
end
section
def dw (good:List Int):aL:=good.foldl (fun t g=>dG t (fJ g)) ⟨0,0⟩
theorem kb {l:List Int} {g:Int}:dw (l++[g])=dG (dw l) (fJ g):=by unfold dw; rw [List.foldl_append]; rfl
def uj (r:cD) (times:List Int) (b:Nat):Int:=if b=0 then r.Start else (times[b-1]?).getD 0
theorem pO {r:cD} {times:List Int} {b:Nat} {t:Int} (h:times[b]? =some t):uj r times (b+1)=t:=by unfold uj; rw [if_neg om,Nat.add_sub_cancel,h]; rfl
structure iY (l:br) (r:cD) (times good:List Int):Prop where
 jS:eg l r
 len:good.length=times.length
 le:times.length≤l.aa.length
 step: ∀ (b:Nat) t,times[b]? =some t→uj r times b+ej l b≤t∧t≤r.gf
 sig: ∀ (b:Nat) t g,times[b]? =some t→good[b]? =some g→g= -1∨ ∃ (k:Nat) (s:aI),g=(k:Int)∧r.ag[k]? =some s∧s.fI=(b:Int)∧(cS l s).Lo≤t∧t≤(cS l s).Hi
 Iv:(dw good).eW≤l.di
 RS:(r.ag.length:Int)-(dw good).right≤l.e8
section
variable {l:br} {r:cD} {times good:List Int}
theorem iY.low (h:iY l r times good) (hl:dJ l=0): ∀ b,0≤cp (cm l r) b:=fun b=>by
 obtain ⟨ht,A⟩:=dZ hl
 exact ((lG ht A h.jS).cp b).1
theorem iY.least (h:iY l r times good) {b:Nat} (hb:b<times.length):cp (cm l r) b=ej l b:=by
 have:=h.le
 rw [yI,if_pos om]
theorem iY.from_ (h:iY l r times good) (hl:dJ l=0): ∀ b:Nat,b≤times.length→r.Start≤uj r times b∧uj r times b≤r.gf:=by
 intro b
 induction b with
 |zero=>intro _; have:=h.jS.time; unfold uj; rw [if_pos rfl]; omega
 |succ b ih=>
  intro hb
  have ht:times[b]? =some (times[b]'om):=eN _
  have B:=ih om
  have C:=h.step b _ ht
  have A:=h.low hl b
  rw [h.least om] at A
  rw [pO ht]
  omega
/-- what comes next, in the truth -/
theorem iY.opt (h:iY l r times good) (hl:dJ l=0) {b:Nat} {t g:Int} (ht:times[b]? =some t) (hg:good[b]? =some g): ∃ o∈iT (cm l r) b,o.1=g∧o.2.Lo≤t∧t≤o.2.Hi:=by
 have hb:=(aX.1 ht).1
 have E:=h.le
 have F:=h.step b t ht
 have G:=h.from_ hl b om
 have B:=h.low hl b
 rw [h.least hb] at B
 rcases h.sig b t g ht hg with rfl|⟨k,s,rfl,hs,A,C,D⟩
 ·exact ⟨(-1,⟨r.Start,r.gf⟩),(qN om).2 (.inl U),U,by simp only; omega,by simp only; omega⟩
 ·exact ⟨((k:Int),cS l s),(qN om).2 (.inr ⟨k,(aX.1 hs).1,s,hs,⟨A,om⟩,U⟩),U,C,D⟩
theorem mj {α:Type} {l:List α} {b:Nat} {x:α} (h:l[b]? =some x):l.take (b+1)=l.take b++[x]:=by rw [List.take_add_one,h]; rfl
theorem iY.live (h:iY l r times good) (hl:dJ l=0): ∀ b:Nat,b≤times.length→CX (cm l r) b (dw (good.take b),uj r times b):=by
 intro b
 induction b with
 |zero=>intro _; exact ⟨r.Start,by simp [fwd,dw]; rfl,by unfold uj; rw [if_pos rfl]; exact Int.le_refl _⟩
 |succ b ih=>
  intro hb
  have B:=h.len
  have ht:times[b]? =some (times[b]'om):=eN _
  have hg:good[b]? =some (good[b]'om):=eN _
  obtain ⟨v,hv,A⟩:=ih om
  obtain ⟨o,ho,e,C,D⟩:=h.opt hl ht hg
  have E:=h.step b _ ht
  have F:=h.least (b:=b) om
  simp only at A hv
  rw [pO ht,mj hg,kb,← e]
  refine ⟨max (v+cp (cm l r) b) o.2.Lo,gh.2 ⟨_,hv,o,ho,g8.2 ⟨?_,U⟩⟩,?_⟩
  ·have G:(cm l r).gf=r.gf:=rfl
   simp only; omega
  ·simp only; omega
theorem iY.P1 (h:iY l r times good) (hl:dJ l=0): ∀ (d b:Nat),b+d=times.length→sZ (cm l r) b (dw (good.take b),uj r times b):=by
 intro d
 induction d with
 |zero=>
  intro b hb
  have hn:(cm l r).n=l.aa.length:=cW
  have C:=h.len
  have D:=h.le
  refine ⟨0,om,_,by simp [gu]; rfl,?_⟩
  rw [List.take_of_length_le om]
  unfold kO
  have A:=h.Iv
  have B:=h.RS
  exact dI ⟨A,B⟩
 |succ d ih=>
  intro b hb
  have C:=h.len
  have ht:times[b]? =some (times[b]'om):=eN _
  have hg:good[b]? =some (good[b]'om):=eN _
  obtain ⟨o,ho,e,D,A⟩:=h.opt hl ht hg
  have B:=h.step b _ ht
  have E:=h.least (b:=b) om
  have F:(cm l r).gf=r.gf:=rfl
  have hv:=ih (b+1) om
  rw [pO ht,mj hg,kb,← e] at hv
  exact uN (k:=1) (iI.2 ⟨o,ho,_,g8.2 ⟨by first|omega|(simp only; omega),U⟩,by simp [gu]; rfl⟩) (xj hv (by first|omega|(simp only; omega)))
theorem iY.pass (h:iY l r times good) (hl:dJ l=0) {b:Nat} {t g:Int} (ht:times[b]? =some t) (hg:good[b]? =some g):w7 (cm l r) b g t:=by
 have hb:=(aX.1 ht).1
 obtain ⟨v,hv,A⟩:=h.live hl b om
 obtain ⟨o,ho,e,B,C⟩:=h.opt hl ht hg
 have D:=h.step b _ ht
 have E:=h.least (b:=b) hb
 have F:(cm l r).gf=r.gf:=rfl
 have hw:=h.P1 hl (times.length-(b+1)) (b+1) om
 rw [pO ht,mj hg,kb,← e] at hw
 simp only at A
 exact ⟨_,hv,o,ho,e,⟨by simp only; omega,om⟩,hw⟩
theorem iY.num (h:iY l r times good) (hl:dJ l=0):(times.length:Int)∈hP (cm l r):=by
 obtain ⟨v,hv,_⟩:=h.live hl times.length (Nat.le_refl _)
 have hn:(cm l r).n=l.aa.length:=cW
 have B:=h.le
 refine pD.2 ⟨times.length,U,om,?_⟩
 unfold jE
 refine List.any_eq_true.2 ⟨_,hv,?_⟩
 have A:=h.len
 rw [List.take_of_length_le om]
 unfold kO
 exact dI ⟨h.Iv,h.RS⟩
theorem iY.e (h:iY l r times good) (hl:dJ l=0):dW l r 0=0:=lj hl h.jS rfl fun e=>by have:=h.num hl; rw [e] at this; cases this
theorem iY.Eu (h:iY l r times good) (hl:dJ l=0):(times.length:Int)∈hU l r:=by rw [kp (h.e hl)]; exact h.num hl
theorem iY.not_false (h:iY l r times good) (hl:dJ l=0) {b:Nat} {g:Int} (hg:good[b]? =some g) (h0:0≤g): ¬ g∈Ja l r∧ ¬ (b:Int)∈tO l r:=by
 have hb:=(aX.1 hg).1
 have A:=h.len
 have B:=h.le
 have ht:times[b]? =some (times[b]'om):=eN _
 have hn:(cm l r).n=l.aa.length:=cW
 obtain ⟨q,hq,e,_⟩:=(wu (h.low hl) om).2 (h.pass hl ht hg)
 constructor
 ·rw [Hh (h.e hl)]
  intro hm
  exact (DW.1 hm).2 ⟨b,om,q,hq,e⟩
 ·rw [sY (h.e hl)]
  intro hm
  unfold wv at hm
  obtain ⟨k,hk,ek⟩:=cz.1 hm
  obtain rfl:k=b:=by omega
  have hr:=(List.mem_filter.1 hk).2
  have:tM (cm l r) k=true:=List.any_eq_true.2 ⟨q,hq,dI om⟩
  rw [this] at hr
  cases hr
end
end
section
def gX (hi:Int→Int) (least:Nat→Int) (now:Int):Nat→List Int→List Int×Int
 |_,[]=>([],now)
 |b,x::xs=>((if 0≤x then min (gX hi least now (b+1) xs).2 (hi x) else (gX hi least now (b+1) xs).2)::(gX hi least now (b+1) xs).1,(if 0≤x then min (gX hi least now (b+1) xs).2 (hi x) else (gX hi least now (b+1) xs).2)-least b)
def gF (t:Int):List Int→Int
 |[]=>t
 |x::xs=>gF x xs
def ki (w:b_):Nat→Int→List Int→List Int→Prop
 |_,_,[],[]=>True
 |b,t,x::rs,y::fs=>(∃ o∈iT w b,o.1=x∧max (t+cp w b) o.2.Lo≤min o.2.Hi w.gf∧y=max (t+cp w b) o.2.Lo)∧ki w (b+1) y rs fs
 |_,_,_,_=>False
section
variable {w:b_} {hi:Int→Int} {least:Nat→Int} {now:Int}
theorem rD: ∀ (b:Nat) (rs:List Int),(gX hi least now b rs).1.length=rs.length
 |_,[]=>rfl
 |b,x::xs=>by simp only [gX,List.length_cons]; rw [rD]
theorem nx: ∀ (t:Int) (fs:List Int) (y:Int),gF t (fs++[y])=y
 |_,[],_=>rfl
 |t,x::fs,y=>nx x fs y
theorem Bd: ∀ (t:Int) (fs:List Int) (y:Int),fs[fs.length-1]? =some y→gF t fs=y
 |t,[],y,h=>by simp at h
 |t,[x],y,h=>by simpa [gF] using h
 |t,x::x2::fs,y,h=>by
  show gF x (x2::fs)=y
  exact Bd x (x2::fs) y (by simpa using h)
theorem tn: ∀ (b:Nat) (rs:List Int) (x:Int) (ss:List Int),(gX hi least now b (rs++x::ss)).1[rs.length]? =some (if 0≤x then min (gX hi least now (b+rs.length+1) ss).2 (hi x) else (gX hi least now (b+rs.length+1) ss).2)
 |b,[],x,ss=>by simp [gX]
 |b,z::rs,x,ss=>by
  have:=tn (b+1) rs x ss
  simp only [List.cons_append,gX,List.length_cons,List.getElem?_cons_succ]
  rw [this,show b+1+rs.length+1=b+(rs.length+1)+1 by omega]
theorem ko: ∀ (b:Nat) (t:Int) (rs fs:List Int),ki w b t rs fs→fs.length=rs.length
 |_,_,[],[],_=>rfl
 |b,t,x::rs,y::fs,h=>by simp [ko _ _ rs fs h.2]
 |_,_,[],_::_,h=>h.elim
 |_,_,_::_,[],h=>h.elim
theorem rR: ∀ (b:Nat) (t:Int) (rs fs ss gs:List Int),fs.length=rs.length→(ki w b t (rs++ss) (fs++gs)↔ki w b t rs fs∧ki w (b+rs.length) (gF t fs) ss gs)
 |b,t,[],[],ss,gs,_=>by simp [ki,gF]
 |b,t,x::rs,y::fs,ss,gs,h=>by
  have ih:=rR (b+1) y rs fs ss gs (by simpa using h)
  simp only [List.cons_append,ki,List.length_cons,gF]
  rw [ih,show b+1+rs.length=b+(rs.length+1) by omega,and_assoc]
 |_,_,[],_::_,_,_,h=>by simp at h
 |_,_,_::_,[],_,_,h=>by simp at h
theorem D8 (b:List Int): ∀ t:aL,b.foldl (fun t g=>dG t (fJ g)) t=dG t (dw b):=by
 induction b with
 |nil=>intro t; exact (nv t).symm
 |cons x b ih=>
  intro t
  show b.foldl (fun t g=>dG t (fJ g)) (dG t (fJ x))=dG t (b.foldl (fun t g=>dG t (fJ g)) (dG ⟨0,0⟩ (fJ x)))
  rw [ih,ih]; simp only [dG,aL.mk.injEq]; omega
theorem rO (a b:List Int):dw (a++b)=dG (dw a) (dw b):=by
 show (a++b).foldl _ _=_
 rw [List.foldl_append,D8]; rfl
theorem rQ:dw []=(⟨0,0⟩:aL):=rfl
theorem pN (l:List Int):dG (⟨0,0⟩:aL) (dw l)=dw l:=by simp [dG]
theorem sS (x:Int) (l:List Int):dw (x::l)=dG (fJ x) (dw l):=by
 rw [show x::l=[x]++l from rfl,rO,show dw [x]=fJ x from (kb (l:=[])).trans (by rw [rQ]; simp [dG])]
theorem s_: ∀ l:List Int,0≤(dw l).right∧0≤(dw l).eW∧(dw l).right+(dw l).eW=(l.length:Int)
 |[]=>by rw [rQ]; simp
 |x::l=>by
  rw [sS]
  have:=vr x
  have:=s_ l
  simp only [dG,List.length_cons]
  omega
/-- chains are what the watch goes through -/
theorem j8: ∀ (k b:Nat) (p q:aL×Int),q∈gu w k b p↔ ∃ rs fs,rs.length=k∧ki w b p.2 rs fs∧q=(dG p.1 (dw rs),gF p.2 fs):=by
 intro k
 induction k with
 |zero=>
  intro b p q
  simp only [gu,cu]
  constructor
  ·rintro rfl; exact ⟨[],[],rfl,trivial,by rw [rQ,nv]; rfl⟩
  ·rintro ⟨rs,fs,A,B,rfl⟩
   have A:=il A
   subst A
   have:=il (ko _ _ _ _ B)
   subst this
   rw [rQ,nv]; rfl
 |succ k ih=>
  intro b p q
  rw [iI]
  constructor
  ·rintro ⟨o,ho,p',e,h⟩
   obtain ⟨A,rfl⟩:=g8.1 e
   obtain ⟨rs,fs,B,C,rfl⟩:=(ih _ _ _).1 h
   refine ⟨o.1::rs,max (p.2+cp w b) o.2.Lo::fs,by simp [B],⟨⟨o,ho,U,A,U⟩,C⟩,?_⟩
   rw [sS]
   simp only [gF,dG,Prod.mk.injEq,aL.mk.injEq,and_true]; omega
  ·rintro ⟨rs,fs,A,B,rfl⟩
   cases rs with
   |nil=>simp at A
   |cons x rs=>
    cases fs with
    |nil=>exact B.elim
    |cons y fs=>
     obtain ⟨⟨o,ho,rfl,C,rfl⟩,D⟩:=B
     refine ⟨o,ho,_,g8.2 ⟨C,U⟩,(ih _ _ _).2 ⟨rs,fs,by simpa using A,D,?_⟩⟩
     rw [sS]
     simp only [gF,dG,Prod.mk.injEq,aL.mk.injEq,and_true]; omega
/-- what the reference's rows of last times know -/
structure Kr (w:b_) (hi:Int→Int) (least:Nat→Int) (now:Int):Prop where
 low: ∀ b,0≤cp w b
 least: ∀ b,b<w.n→least b=cp w b
 now:now=w.gf
 hi: ∀ b o,b<w.n→o∈iT w b→0≤o.1→o.2.Hi=hi o.1
 none_: ∀ b o,b<w.n→o∈iT w b→ ¬ 0≤o.1→o.2.Hi=w.gf
theorem xb (h:Kr w hi least now): ∀ (b:Nat) (rs:List Int),b+rs.length≤w.n→(gX hi least now b rs).2≤w.gf
 |_,[],_=>by simp only [gX]; exact Int.le_of_eq h.now
 |b,x::xs,hb=>by
  simp only [List.length_cons] at hb
  have B:=xb h (b+1) xs om
  have A:=h.low b
  rw [← h.least b om] at A
  simp only [gX]
  split<;>omega
theorem ry (h:Kr w hi least now): ∀ (b:Nat) (t:Int) (rs fs:List Int),b+rs.length≤w.n→t≤w.gf→ki w b t rs fs→t≤(gX hi least now b rs).2
 |_,t,[],[],_,ht,_=>by simp only [gX]; rw [h.now]; exact ht
 |b,t,x::rs,y::fs,hb,ht,hc=>by
  simp only [List.length_cons] at hb
  obtain ⟨⟨o,ho,rfl,D,rfl⟩,A⟩:=hc
  have B:=ry h (b+1) _ rs fs om om A
  have C:=h.least b om
  simp only [gX]
  split
  ·rename_i q
   have:=h.hi b o om ho q
   omega
  ·omega
 |_,_,[],_::_,_,_,hc=>hc.elim
 |_,_,_::_,[],_,_,hc=>hc.elim
theorem x4 (h:Kr w hi least now): ∀ (b:Nat) (t t':Int) (rs fs:List Int),b+rs.length≤w.n→t≤t'→t'≤(gX hi least now b rs).2→ki w b t rs fs→ ∃ gs,ki w b t' rs gs
 |_,t,_,[],[],_,_,_,_=>⟨[],trivial⟩
 |b,t,t',x::rs,y::fs,hb,ht,he,hc=>by
  simp only [List.length_cons] at hb
  obtain ⟨⟨o,ho,rfl,E,rfl⟩,A⟩:=hc
  have C:=ry h (b+1) _ rs fs om om A
  have D:=h.least b om
  have F:=xb h (b+1) rs om
  simp only [gX] at he
  have B:max (t'+cp w b) o.2.Lo≤min o.2.Hi w.gf∧max (t'+cp w b) o.2.Lo≤(gX hi least now (b+1) rs).2:=by
   split at he
   ·rename_i q
    have:=h.hi b o om ho q
    omega
   ·rename_i q
    have:=h.none_ b o om ho q
    omega
  obtain ⟨gs,hg⟩:=x4 h (b+1) _ (max (t'+cp w b) o.2.Lo) rs fs om om B.2 A
  exact ⟨_::gs,⟨o,ho,U,B.1,U⟩,hg⟩
 |_,_,_,[],_::_,_,_,_,hc=>hc.elim
 |_,_,_,_::_,[],_,_,_,hc=>hc.elim
theorem Cm (b:Nat) (t t':Int) (rs fs:List Int) (ht:t'≤t) (hc:ki w b t rs fs): ∃ gs,ki w b t' rs gs:=by
 have A:(dG ⟨0,0⟩ (dw rs),gF t fs)∈gu w rs.length b (⟨0,0⟩,t):=(j8 _ _ _ _).2 ⟨rs,fs,rfl,hc,rfl⟩
 clear A
 induction rs generalizing b t t' fs with
 |nil=>exact ⟨[],trivial⟩
 |cons x rs ih=>
  cases fs with
  |nil=>exact hc.elim
  |cons y fs=>
   obtain ⟨⟨o,ho,rfl,C,rfl⟩,B⟩:=hc
   obtain ⟨gs,hg⟩:=ih (b+1) _ (max (t'+cp w b) o.2.Lo) fs om B
   exact ⟨_::gs,⟨o,ho,U,om,U⟩,hg⟩
/-- a way, as it is asked for -/
structure N8 (w:b_) (hi:Int→Int) (least:Nat→Int) (now:Int) (y:dC):Prop where
 chain:ki w 0 w.Start y.gM y.jg
 len:y.gM.length≤w.n
 last:y.l8=(gX hi least now 0 y.gM).1
 may:kO w (dw y.gM)=true
theorem BJ {k:Nat}:jE w (fwd w k)=true↔ ∃ rs fs,rs.length=k∧ki w 0 w.Start rs fs∧kO w (dw rs)=true:=by
 unfold jE
 rw [List.any_eq_true]
 have e:=fun q=>(rp (w:=w) k 0 q)
 rw [Nat.zero_add] at e
 constructor
 ·rintro ⟨q,hq,hm⟩
  obtain ⟨p,hp,h⟩:=(e q).1 hq
  simp only [fwd,cu] at hp
  subst hp
  obtain ⟨rs,fs,A,B,rfl⟩:=(j8 _ _ _ _).1 h
  refine ⟨rs,fs,A,B,?_⟩
  rwa [pN] at hm
 ·rintro ⟨rs,fs,A,B,C⟩
  refine ⟨_,(e _).2 ⟨((⟨0,0⟩:aL),w.Start),cu.2 U,(j8 _ _ _ _).2 ⟨rs,fs,A,B,U⟩⟩,?_⟩
  simp only [pN]; exact C
theorem IV (h:Kr w hi least now) (hs:w.Start≤w.gf) {b:Nat} (hb:b<w.n) {s t:Int}:w7 w b s t↔ ∃ y,N8 w hi least now y∧ ∃ f e,y.gM[b]? =some s∧y.jg[b]? =some f∧y.l8[b]? =some e∧f≤t∧t≤e:=by
 have ef:=fun q=>(rp (w:=w) b 0 q)
 rw [Nat.zero_add] at ef
 constructor
 ·rintro ⟨p,hp,o,ho,rfl,⟨C,L⟩,k,hk,q,hq,hm⟩
  obtain ⟨Y,AB,hp⟩:=(ef p).1 hp
  simp only [fwd,cu] at AB
  subst AB
  obtain ⟨rs,fs,K,D,rfl⟩:=(j8 _ _ _ _).1 hp
  obtain ⟨ss,gs,AA,E,rfl⟩:=(j8 _ _ _ _).1 hq
  simp only at C L D E hm
  obtain ⟨gs',J⟩:=Cm (b+1) t (max (gF w.Start fs+cp w b) o.2.Lo) ss gs C E
  have H:=ko _ _ _ _ D
  have T:=ko _ _ _ _ J
  have hc:ki w 0 w.Start (rs++o.1::ss) (fs++max (gF w.Start fs+cp w b) o.2.Lo::gs'):=(rR _ _ _ _ _ _ H).2 ⟨D,by rw [Nat.zero_add,K]; exact ⟨⟨o,ho,rfl,om,rfl⟩,J⟩⟩
  have he:=ry h (b+1) t ss gs om om E
  have A:=tn (hi:=hi) (least:=least) (now:=now) 0 rs o.1 ss
  rw [Nat.zero_add,K] at A
  refine ⟨⟨rs++o.1::ss,fs++max (gF w.Start fs+cp w b) o.2.Lo::gs',(gX hi least now 0 (rs++o.1::ss)).1⟩,⟨hc,by simp; omega,U,?_⟩,max (gF w.Start fs+cp w b) o.2.Lo,_,?_,?_,A,C,?_⟩
  ·show kO w (dw (rs++o.1::ss))=true
   rw [show rs++o.1::ss=(rs++[o.1])++ss by simp,rO,kb]
   rwa [pN] at hm
  ·show (rs++o.1::ss)[b]? =some o.1
   rw [List.getElem?_append_right om,K,Nat.sub_self]; rfl
  ·show (fs++_::gs')[b]? =_
   rw [List.getElem?_append_right om,H,K,Nat.sub_self]; rfl
  ·split
   ·rename_i q
    have:=h.hi b o hb ho q
    omega
   ·exact he
 ·rintro ⟨y,hy,f,e,C,L,P,Q,V⟩
  obtain ⟨R,F,La⟩:=y
  obtain ⟨hc,hn,A,hm⟩:=hy
  simp only at C L P hc hn A hm
  have N:=(aX.1 C).1
  have S:=ko _ _ _ _ hc
  have eR:R=R.take b++s::R.drop (b+1):=by rw [← (aX.1 C).2]; exact (List.take_append_drop b R).symm.trans (by rw [List.drop_eq_getElem_cons N])
  have M:b<F.length:=by omega
  have eF:F=F.take b++f::F.drop (b+1):=by rw [← (aX.1 L).2]; exact (List.take_append_drop b F).symm.trans (by rw [List.drop_eq_getElem_cons M])
  rw [eR,eF,rR _ _ _ _ _ _ (by simp only [List.length_take]; omega)] at hc
  have O:(R.take b).length=b:=by rw [List.length_take]; omega
  rw [O,Nat.zero_add] at hc
  obtain ⟨D,⟨o,ho,rfl,W,rfl⟩,E⟩:=hc
  have B:=tn (hi:=hi) (least:=least) (now:=now) 0 (R.take b) o.1 (R.drop (b+1))
  rw [← eR,O,Nat.zero_add,← A,P] at B
  have B:=Option.some.inj B
  have G:t≤(gX hi least now (b+1) (R.drop (b+1))).2∧t≤min o.2.Hi w.gf:=by
   have X:=xb h (b+1) (R.drop (b+1)) (by rw [List.length_drop]; omega)
   split at B
   ·rename_i q
    have:=h.hi b o hb ho q
    omega
   ·rename_i q
    have:=h.none_ b o hb ho q
    omega
  obtain ⟨gs,J⟩:=x4 h (b+1) _ t (R.drop (b+1)) (F.drop (b+1)) (by rw [List.length_drop]; omega) Q G.1 E
  refine ⟨(dG ⟨0,0⟩ (dw (R.take b)),gF w.Start (F.take b)),(ef _).2 ⟨((⟨0,0⟩:aL),w.Start),cu.2 U,(j8 _ _ _ _).2 ⟨_,_,O,D,U⟩⟩,o,ho,U,⟨Q,G.2⟩,(R.drop (b+1)).length,by rw [List.length_drop]; omega,_,(j8 _ _ _ _).2 ⟨_,gs,U,J,U⟩,?_⟩
  show kO w (dG (dG (dG ⟨0,0⟩ (dw (R.take b))) (fJ o.1)) (dw (R.drop (b+1))))=true
  rw [pN,← kb,← rO,show R.take b++[o.1]++R.drop (b+1)=R from by rw [List.append_assoc]; exact eR.symm]
  exact hm
end
noncomputable def Ln (l:br) (r:cD) (x:Int):Int:=match r.ag[x.toNat]? with
 |some s=>(cS l s).Hi
 |none=>0
theorem Em {l:br} {r:cD} {x:Int} {s:aI} (h:r.ag[x.toNat]? =some s):Ln l r x=(cS l s).Hi:=by unfold Ln; rw [h]
noncomputable def jC (l:br) (r:cD) (rs:List Int):List Int:=(gX (Ln l r) (ej l) r.gf 0 rs).1
noncomputable def o7 (l:br) (r:cD) (n:Nat) (t i:Int):Option Int:=
 if i<0 then (if t≤r.gf then some t else none) else match r.ag[i.toNat]? with
  |some s=>if (s.fI=(n:Int)∧(cS l s).Lo≤(cS l s).Hi)∧max t (cS l s).Lo≤min r.gf (cS l s).Hi then some (max t (cS l s).Lo) else none
  |none=>none
noncomputable def ia (l:br) (r:cD) (rs fs:List Int):List dC:=if (r.ag.length:Int)-(dw rs).right≤l.e8 then [⟨rs,fs,jC l r rs⟩] else []
noncomputable def iG (l:br) (r:cD):Nat→List Int→List Int→List dC
 |0,rs,fs=>if l.di<(dw rs).eW then [] else ia l r rs fs
 |k+1,rs,fs=>if l.di<(dw rs).eW then [] else ia l r rs fs++(List.range (r.ag.length+1)).flatMap fun (j:Nat)=>match o7 l r rs.length (gF r.Start fs+ej l rs.length) ((j:Int)-1) with
  |some t=>iG l r k (rs++[(j:Int)-1]) (fs++[t])
  |none=>[]
noncomputable def D2 (l:br) (r:cD) (k:Nat) (rs fs:List Int) (j:Nat):List dC:=ia l r rs fs++(List.range j).flatMap fun (j:Nat)=>match o7 l r rs.length (gF r.Start fs+ej l rs.length) ((j:Int)-1) with
 |some t=>iG l r k (rs++[(j:Int)-1]) (fs++[t])
 |none=>[]
noncomputable def iP (l:br) (r:cD) (k:Nat) (rs fs:List Int) (j:Nat):List dC:=(List.range j).flatMap fun (j:Nat)=>match o7 l r rs.length (gF r.Start fs+ej l rs.length) ((j:Int)-1) with
 |some t=>iG l r k (rs++[(j:Int)-1]) (fs++[t])
 |none=>[]
section
variable {l:br} {r:cD} {k j:Nat} {rs fs:List Int} {t:Int}
theorem rK:D2 l r k rs fs j=ia l r rs fs++iP l r k rs fs j:=rfl
theorem nz (h:o7 l r rs.length (gF r.Start fs+ej l rs.length) ((j:Int)-1)=some t):iP l r k rs fs (j+1)=iP l r k rs fs j++iG l r k (rs++[(j:Int)-1]) (fs++[t]):=by
 unfold iP; rw [List.range_succ,List.flatMap_append]; simp [h]
theorem qA (h:o7 l r rs.length (gF r.Start fs+ej l rs.length) ((j:Int)-1)=none):iP l r k rs fs (j+1)=iP l r k rs fs j:=by
 unfold iP; rw [List.range_succ,List.flatMap_append]; simp [h]
theorem nY (h:l.di<(dw rs).eW):iG l r k rs fs=[]:=by cases k<;>exact if_pos h
theorem nV (h: ¬ l.di<(dw rs).eW):iG l r 0 rs fs=ia l r rs fs:=if_neg h
theorem nF (h: ¬ l.di<(dw rs).eW):iG l r (k+1) rs fs=D2 l r k rs fs (r.ag.length+1):=if_neg h
theorem Bf {n:Nat} (hn:n<l.aa.length) (hl:0≤ej l n) (ht:r.Start≤t) {i y:Int} (hi: -1≤i):o7 l r n (t+ej l n) i=some y↔ ∃ o∈iT (cm l r) n,o.1=i∧max (t+cp (cm l r) n) o.2.Lo≤min o.2.Hi (cm l r).gf∧y=max (t+cp (cm l r) n) o.2.Lo:=by
 rw [qh hn]
 have hw:(cm l r).gf=r.gf:=rfl
 unfold o7
 constructor
 ·intro h
  split at h
  ·rename_i B
   split at h
   ·cases h
    exact ⟨(-1,⟨r.Start,r.gf⟩),(qN hn).2 (.inl U),by simp only; omega,by simp only; omega,by simp only; omega⟩
   ·cases h
  ·rename_i B
   split at h
   ·rename_i s hs
    split at h
    ·rename_i q
     cases h
     exact ⟨((i.toNat:Nat),cS l s),(qN hn).2 (.inr ⟨i.toNat,(aX.1 hs).1,s,hs,q.1,U⟩),by simp only; omega,by simp only; omega,U⟩
    ·cases h
   ·cases h
 ·rintro ⟨o,ho,rfl,A,rfl⟩
  rcases (qN hn).1 ho with rfl|⟨k,hk,s,hs,q,rfl⟩
  ·simp only at A ⊢
   rw [if_pos om,if_pos om]
   congr 1; omega
  ·simp only at A ⊢
   rw [if_neg om,Int.toNat_natCast,hs]
   simp only
   rw [if_pos ⟨q,om⟩]
theorem It (hl: ∀ n,n<l.aa.length→0≤ej l n): ∀ (k:Nat) (rs fs:List Int) (y:dC),rs.length+k=l.aa.length→fs.length=rs.length→r.Start≤gF r.Start fs→
 (y∈iG l r k rs fs↔ ∃ ss gs,ki (cm l r) rs.length (gF r.Start fs) ss gs∧ss.length≤k∧y=⟨rs++ss,fs++gs,jC l r (rs++ss)⟩∧kO (cm l r) (dw (rs++ss))=true):=by
 have D: ∀ (rs fs:List Int) (y:dC),¬ l.di<(dw rs).eW→(y∈ia l r rs fs↔y=⟨rs++[],fs++[],jC l r (rs++[])⟩∧kO (cm l r) (dw (rs++[]))=true):=by
  intro rs fs y hm
  unfold ia
  rw [List.append_nil,List.append_nil]
  have e:kO (cm l r) (dw rs)=true↔(r.ag.length:Int)-(dw rs).right≤l.e8:=by
   unfold kO
   rw [decide_eq_true_eq]
   exact ⟨fun q=>q.2,fun q=>⟨by have:(cm l r).di=l.di:=rfl; omega,q⟩⟩
  split
  ·rename_i q
   rw [cu]
   exact ⟨fun h=>⟨h,e.2 q⟩,fun h=>h.1⟩
  ·rename_i q
   exact ⟨fun h=>(by cases h),fun h=>absurd (e.1 h.2) q⟩
 have Iv: ∀ (rs ss:List Int),l.di<(dw rs).eW→ ¬ kO (cm l r) (dw (rs++ss))=true:=by
  intro rs ss h q
  unfold kO at q
  have:=(of_decide_eq_true q).1
  rw [rO] at this
  have C:=s_ ss
  simp only [dG] at this
  have:(cm l r).di=l.di:=rfl
  omega
 intro k
 induction k with
 |zero=>
  intro rs fs y hn hf hs
  by_cases hm:l.di<(dw rs).eW
  ·rw [nY hm]
   exact ⟨fun h=>(by cases h),fun ⟨ss,gs,_,_,_,q⟩=>absurd q (Iv rs ss hm)⟩
  ·rw [nV hm,D _ _ _ hm]
   constructor
   ·rintro ⟨B,C⟩; exact ⟨[],[],trivial,sm,B,C⟩
   ·rintro ⟨ss,gs,B,C,E,F⟩
    have e:=il (Nat.le_zero.1 C)
    subst e
    have e:=il (ko _ _ _ _ B)
    subst e
    exact ⟨E,F⟩
 |succ k ih=>
  intro rs fs y hn hf hs
  by_cases hm:l.di<(dw rs).eW
  ·rw [nY hm]
   exact ⟨fun h=>(by cases h),fun ⟨ss,gs,_,_,_,q⟩=>absurd q (Iv rs ss hm)⟩
  ·rw [nF hm]
   unfold D2
   rw [gI,D _ _ _ hm,List.mem_flatMap]
   have A: ∀ (x y:Int),(rs++[x]).length+k=l.aa.length∧(fs++[y]).length=(rs++[x]).length:=fun x y=>by simp; omega
   constructor
   ·rintro (⟨B,C⟩|⟨j,hj,h⟩)
    ·exact ⟨[],[],trivial,sm,B,C⟩
    ·cases e:o7 l r rs.length (gF r.Start fs+ej l rs.length) ((j:Int)-1) with
     |none=>rw [e] at h; cases h
     |some t=>
      rw [e] at h
      simp only at h
      obtain ⟨o,ho,B,C,E⟩:=(Bf om (hl _ om) hs om).1 e
      have G:r.Start≤t:=by
       have:=hl rs.length om
       rw [qh om] at E
       omega
      obtain ⟨ss,gs,F,J,H,AA⟩:=(ih _ _ y (A _ t).1 (A _ t).2 (by rw [nx]; exact G)).1 h
      rw [nx,List.length_append] at F
      refine ⟨((j:Int)-1)::ss,t::gs,⟨⟨o,ho,B,C,E⟩,F⟩,by simp; omega,by simpa using H,by simpa using AA⟩
   ·rintro ⟨ss,gs,B,C,E,F⟩
    cases ss with
    |nil=>
     have e:=il (ko _ _ _ _ B)
     subst e
     exact .inl ⟨E,F⟩
    |cons x ss=>
     cases gs with
     |nil=>exact B.elim
     |cons t gs=>
      obtain ⟨⟨o,ho,rfl,J,H⟩,AA⟩:=B
      right
      have hx: -1≤o.1∧o.1<(r.ag.length:Int):=by
       rcases (qN om).1 ho with rfl|⟨k,hk,s,hs,q,rfl⟩
       ·simp only; omega
       ·simp only; omega
      have G:r.Start≤t:=by
       have:=hl rs.length om
       rw [qh om] at H
       omega
      have K:((o.1+1).toNat:Int)-1=o.1:=by omega
      refine ⟨(o.1+1).toNat,List.mem_range.2 om,?_⟩
      rw [K,(Bf om (hl _ om) hs om).2 ⟨o,ho,rfl,J,H⟩]
      simp only
      refine (ih _ _ y (A _ t).1 (A _ t).2 (by rw [nx]; exact G)).2 ⟨ss,gs,?_,?_,?_,?_⟩
      ·rw [nx,List.length_append]; exact AA
      ·simp only [List.length_cons] at C; omega
      ·simpa using E
      ·simpa using F
end
theorem zi {l:br} {r:cD} {rs fs:List Int} (h:(r.ag.length:Int)-(dw rs).right≤l.e8):ia l r rs fs=[⟨rs,fs,jC l r rs⟩]:=if_pos h
theorem xJ {l:br} {r:cD} {rs fs:List Int} (h: ¬ (r.ag.length:Int)-(dw rs).right≤l.e8):ia l r rs fs=[]:=if_neg h
noncomputable def eT (l:br) (r:cD) (i:Nat):List ai:=(r.ag.take i).map (cS l)
noncomputable def fG (l:br) (r:cD) (i:Nat):List Bool:=(r.ag.take i).map fun s=>decide ((cS l s).Lo≤(cS l s).Hi)
section
variable {l:br} {r:cD} {i n:Nat} {s:aI} {rs:List Int}
theorem DV (h:r.ag[i]? =some s):eT l r (i+1)=eT l r i++[cS l s]:=by unfold eT; rw [List.take_add_one,h,List.map_append]; rfl
theorem DN (h:r.ag[i]? =some s):fG l r (i+1)=fG l r i++[decide ((cS l s).Lo≤(cS l s).Hi)]:=by unfold fG; rw [List.take_add_one,h,List.map_append]; rfl
theorem rX (h:i≤r.ag.length):(eT l r i).length=i:=by unfold eT; rw [List.length_map,List.length_take]; omega
theorem uR (h:i≤r.ag.length):(fG l r i).length=i:=by unfold fG; rw [List.length_map,List.length_take]; omega
theorem KH {k:Nat} {z:ai} (hs:r.ag[k]? =some s) (hz:(eT l r r.ag.length)[k]? =some z):z=cS l s:=by
 unfold eT at hz
 rw [List.take_length,fX,hs] at hz
 exact (Option.some.inj hz).symm
theorem Ir {k:Nat} {z:ai} (hz:(eT l r r.ag.length)[k]? =some z): ∃ s,r.ag[k]? =some s∧z=cS l s:=by
 unfold eT at hz
 rw [List.take_length,fX] at hz
 cases h:r.ag[k]? with
 |none=>rw [h] at hz; cases hz
 |some s=>rw [h] at hz; exact ⟨s,rfl,(Option.some.inj hz).symm⟩
theorem CE {k:Nat} {z:Bool} (hs:r.ag[k]? =some s) (hz:(fG l r r.ag.length)[k]? =some z):z=true↔(cS l s).Lo≤(cS l s).Hi:=by
 unfold fG at hz
 rw [List.take_length,fX,hs] at hz
 rw [← Option.some.inj hz]
 exact decide_eq_true_iff
theorem xA (l:br) (s:aI):(0≤(cS l s).Lo∧(cS l s).Lo≤86400001)∧ -1≤(cS l s).Hi∧(cS l s).Hi≤86400000:=by
 have A:=iO (p:=gJ (qi l s) s.Read) (n:=86400001)
 have B:=iO (p:=gH (qi l s) s.Read) (n:=86400001)
 unfold cS qQ
 simp only
 omega
/-- the last times from a beam on -/
noncomputable def j0 (l:br) (r:cD) (rs:List Int) (j:Nat):List Int×Int:=gX (Ln l r) (ej l) r.gf j (rs.drop j)
noncomputable def jU (l:br) (r:cD) (rs:List Int) (j:Nat):List Int:=List.replicate j 0++(j0 l r rs j).1
noncomputable def tp (l:br) (r:cD) (rs:List Int) (j:Nat) (x:Int):Int:=if 0≤x then min (j0 l r rs j).2 (Ln l r x) else (j0 l r rs j).2
theorem uO:j0 l r rs rs.length=([],r.gf):=by unfold j0; rw [List.drop_length]; rfl
theorem Hr:jU l r rs rs.length=List.replicate rs.length 0:=by unfold jU; rw [uO]; simp
theorem Dc:jU l r rs 0=jC l r rs:=by unfold jU j0 jC; simp
theorem qa {j:Nat} {x:Int} (hj:0<j) (hx:rs[j-1]? =some x):j0 l r rs (j-1)=(tp l r rs j x::(j0 l r rs j).1,tp l r rs j x-ej l (j-1)):=by
 unfold j0 tp
 have hb:=(aX.1 hx).1
 rw [List.drop_eq_getElem_cons hb,(aX.1 hx).2,show j-1+1=j by omega]
 simp only [gX]
 rw [show j-1+1=j by omega]
 rfl
theorem G1 {j:Nat} (h:j≤rs.length):(jU l r rs j).length=rs.length:=by unfold jU j0; rw [List.length_append,List.length_replicate,rD,List.length_drop]; omega
theorem zg {j:Nat} {x:Int} (hj:0<j) (hx:rs[j-1]? =some x):(jU l r rs j).set (j-1) (tp l r rs j x)=jU l r rs (j-1):=by
 unfold jU
 rw [qa hj hx]
 simp only
 obtain ⟨k,rfl⟩: ∃ k,j=k+1:=⟨j-1,om⟩
 rw [Nat.add_sub_cancel,List.replicate_succ',List.append_assoc,List.set_append_right _ _ sm,List.length_replicate,Nat.sub_self]
 rfl
theorem Fb (hr:0≤r.gf∧r.gf≤86400000) (hl: ∀ b,b<rs.length→0≤ej l b∧ej l b≤500000000) (hrs: ∀ x∈rs,0≤x→x<(r.ag.length:Int)): ∀ (d j:Nat),j+d=rs.length→(-1-500000000*(d:Int))≤(j0 l r rs j).2∧(j0 l r rs j).2≤86400000
 |0,j,h=>by
  obtain rfl:j=rs.length:=by omega
  rw [uO]; simp only; omega
 |d+1,j,h=>by
  have ih:=Fb hr hl hrs d (j+1) om
  have hx:rs[j+1-1]? =some (rs[j]'om):=by rw [Nat.add_sub_cancel]; exact eN _
  have e:=qa (l:=l) (r:=r) (j:=j+1) om hx
  rw [Nat.add_sub_cancel] at e
  rw [e]
  simp only
  have A:=hl j om
  unfold tp
  split
  ·rename_i q
   have B:=hrs _ (List.getElem_mem (by omega:j<rs.length)) q
   obtain ⟨s,hs⟩: ∃ s,r.ag[(rs[j]'om).toNat]? =some s:=⟨r.ag[(rs[j]'om).toNat]'om,eN _⟩
   rw [Em hs]
   have C:=xA l s
   omega
  ·omega
theorem IK {t i:Int} (hi:i<0):(t≤r.gf→o7 l r n t i=some t)∧(¬ t≤r.gf→o7 l r n t i=none):=by
 unfold o7; rw [if_pos hi]; exact ⟨fun h=>if_pos h,fun h=>if_neg h⟩
theorem Ko {t i:Int} (hi: ¬ i<0) (hs:r.ag[i.toNat]? =some s) (hb:s.fI=(n:Int)) (hw:(cS l s).Lo≤(cS l s).Hi):(max t (cS l s).Lo≤min r.gf (cS l s).Hi→o7 l r n t i=some (max t (cS l s).Lo))∧(¬ max t (cS l s).Lo≤min r.gf (cS l s).Hi→o7 l r n t i=none):=by
 unfold o7; rw [if_neg hi,hs]
 exact ⟨fun h=>if_pos ⟨⟨hb,hw⟩,h⟩,fun h=>if_neg fun q=>h q.2⟩
theorem xW {t i:Int} (hi: ¬ i<0) (hs:r.ag[i.toNat]? =some s) (hb: ¬ (s.fI=(n:Int)∧(cS l s).Lo≤(cS l s).Hi)):o7 l r n t i=none:=by
 unfold o7; rw [if_neg hi,hs]
 exact if_neg fun q=>hb q.1
theorem te {x:Int} (hx:rs[i]? =some x):(dw (rs.take (i+1))).right=(dw (rs.take i)).right+(if 0≤x then 1 else 0):=by
 rw [mj hx,kb]
 unfold fJ
 simp only [dG]
 by_cases h:x<0
 ·rw [if_pos h,if_neg om]
 ·rw [if_neg h,if_pos om]
end
theorem xI {l:br} {r:cD} {rs fs:List Int}:(ia l r rs fs).length≤1:=by unfold ia; split<;>simp
theorem yh {l:br} {r:cD} (hr:r.ag.length≤10): ∀ (k:Nat) (rs fs:List Int),(iG l r k rs fs).length≤12^(k+1)
 |0,rs,fs=>by
  unfold iG
  split
  ·simp
  ·have:=xI (l:=l) (r:=r) (rs:=rs) (fs:=fs); omega
 |k+1,rs,fs=>by
  unfold iG
  split
  ·simp
  ·rw [List.length_append]
   have B:=xI (l:=l) (r:=r) (rs:=rs) (fs:=fs)
   have A: ∀ j,(iP l r k rs fs j).length≤j*12^(k+1):=by
    intro j
    induction j with
    |zero=>simp [iP]
    |succ j ih=>
     cases e:o7 l r rs.length (gF r.Start fs+ej l rs.length) ((j:Int)-1) with
     |none=>rw [qA e,Nat.succ_mul]; exact Nat.le_trans ih (Nat.le_add_right _ _)
     |some t=>rw [nz e,List.length_append,Nat.succ_mul]; exact Nat.add_le_add ih (yh hr k (rs++[(j:Int)-1]) (fs++[t]))
   have C:=A (r.ag.length+1)
   have D:(r.ag.length+1)*12^(k+1)≤11*12^(k+1):=Nat.mul_le_mul_right _ om
   have E:0<12^(k+1):=Nat.pow_pos dc
   have F:12^(k+1+1)=12*12^(k+1):=by rw [Nat.pow_succ,Nat.mul_comm]
   show (ia l r rs fs).length+(iP l r k rs fs (r.ag.length+1)).length≤_
   omega
theorem HR {l:br} {r:cD} (hr:r.ag.length≤10) {k j:Nat} {rs fs:List Int} (hk:k≤5) (hj:j≤11):(iP l r k rs fs j).length≤40000000:=by
 have A: ∀ j,(iP l r k rs fs j).length≤j*12^(k+1):=by
  intro j
  induction j with
  |zero=>simp [iP]
  |succ j ih=>
   cases e:o7 l r rs.length (gF r.Start fs+ej l rs.length) ((j:Int)-1) with
   |none=>rw [qA e,Nat.succ_mul]; exact Nat.le_trans ih (Nat.le_add_right _ _)
   |some t=>rw [nz e,List.length_append,Nat.succ_mul]; exact Nat.add_le_add ih (yh hr k (rs++[(j:Int)-1]) (fs++[t]))
 have C:=A j
 have B:12^(k+1)≤12^6:=Nat.pow_le_pow_right dc om
 have D:j*12^(k+1)≤11*12^6:=Nat.mul_le_mul hj B
 omega
theorem uJ {l:br} {r:cD} (hr:r.ag.length≤10) {k:Nat} {rs fs:List Int} (hk:k≤6):(iG l r k rs fs).length≤40000000:=by
 have A:=yh hr k rs fs (l:=l)
 have B:12^(k+1)≤12^7:=Nat.pow_le_pow_right dc om
 omega
noncomputable def qw (l:br) (r:cD):List dC:=iG l r l.aa.length [] []
section
variable {l:br} {r:cD}
theorem mu:(cm l r).n=l.aa.length:=cW
theorem Od (hle:dJ l=0) (hr:eg l r):Kr (cm l r) (Ln l r) (ej l) r.gf:=by
 obtain ⟨ht,B⟩:=dZ hle
 refine ⟨fun b=>((lG ht B hr).cp b).1,fun b hb=>(qh (by rw [mu] at hb; exact hb)).symm,U,fun b o hb ho A=>?_,fun b o hb ho A=>?_⟩
 ·rw [mu] at hb
  rcases (qN hb).1 ho with rfl|⟨k,hk,s,hs,q,rfl⟩
  ·simp only at A; omega
  ·exact (Em (by simpa using hs)).symm
 ·rw [mu] at hb
  rcases (qN hb).1 ho with rfl|⟨k,hk,s,hs,q,rfl⟩
  ·rfl
  ·simp only at A; omega
theorem pV (hle:dJ l=0) (hr:eg l r) {y:dC}:y∈qw l r↔N8 (cm l r) (Ln l r) (ej l) r.gf y:=by
 obtain ⟨ht,D⟩:=dZ hle
 have hl: ∀ n,n<l.aa.length→0≤ej l n:=fun n hn=>by have:=nB ht D (i:=n) hn; omega
 unfold qw
 rw [It hl _ _ _ _ sm rfl (Int.le_refl _)]
 constructor
 ·rintro ⟨ss,gs,B,A,rfl,C⟩
  exact ⟨B,by rw [mu]; exact A,U,C⟩
 ·rintro ⟨B,A,E,C⟩
  rw [mu] at A
  exact ⟨y.gM,y.jg,B,A,by rw [List.nil_append,List.nil_append]; unfold jC; rw [← E],C⟩
theorem KQ (hle:dJ l=0) (hr:eg l r) {k:Nat} (hk:k≤l.aa.length):((qw l r).any fun y=>decide (y.gM.length=k))=jE (cm l r) (fwd (cm l r) k):=by
 rw [Bool.eq_iff_iff,BJ,List.any_eq_true]
 constructor
 ·rintro ⟨y,hy,e⟩
  have h:=(pV hle hr).1 hy
  exact ⟨y.gM,y.jg,of_decide_eq_true e,h.chain,h.may⟩
 ·rintro ⟨rs,fs,e,A,B⟩
  exact ⟨⟨rs,fs,(gX (Ln l r) (ej l) r.gf 0 rs).1⟩,(pV hle hr).2 ⟨A,by rw [mu]; simp only; omega,U,B⟩,dI e⟩
theorem fy (hle:dJ l=0) (hr:eg l r):qw l r=[]↔hP (cm l r)=[]:=by
 constructor
 ·intro h
  apply List.eq_nil_iff_forall_not_mem.2
  intro x hx
  obtain ⟨k,rfl,hk,hm⟩:=pD.1 hx
  rw [mu] at hk
  rw [← KQ hle hr hk,h] at hm
  cases hm
 ·intro h
  apply List.eq_nil_iff_forall_not_mem.2
  intro y hy
  have hw:=(pV hle hr).1 hy
  have:(y.gM.length:Int)∈hP (cm l r):=pD.2 ⟨y.gM.length,rfl,hw.len,BJ.2 ⟨_,_,rfl,hw.chain,hw.may⟩⟩
  rw [h] at this; cases this
/-- the times at a beam, by all ways -/
def jo (b:Nat) (ws:List dC):List (Int×ai):=ws.filterMap fun y=>match y.gM[b]?,y.jg[b]?,y.l8[b]? with
 |some s,some f,some e=>some (s,⟨f,e⟩)
 |_,_,_=>none
theorem nX {b:Nat} {ws:List dC} {q:Int×ai}:q∈jo b ws↔ ∃ y∈ws,y.gM[b]? =some q.1∧y.jg[b]? =some q.2.Lo∧y.l8[b]? =some q.2.Hi:=by
 unfold jo
 rw [List.mem_filterMap]
 constructor
 ·rintro ⟨y,hy,h⟩
  cases e1:y.gM[b]? with
  |none=>rw [e1] at h; cases h
  |some s=>
   cases e2:y.jg[b]? with
   |none=>rw [e1,e2] at h; cases h
   |some f=>
    cases e3:y.l8[b]? with
    |none=>rw [e1,e2,e3] at h; cases h
    |some e=>
     rw [e1,e2,e3] at h; cases h
     exact ⟨y,hy,e1,e2,e3⟩
 ·rintro ⟨y,hy,A,B,C⟩
  exact ⟨y,hy,by rw [A,B,C]⟩
theorem yc {b:Nat} {ws:List dC} {y:dC} (h:y.gM.length≤b):jo b (ws++[y])=jo b ws:=by
 unfold jo; rw [List.filterMap_append]; simp [List.getElem?_eq_none h]
theorem qq {b:Nat} {ws:List dC} {y:dC} {s f e:Int} (h1:y.gM[b]? =some s) (h2:y.jg[b]? =some f) (h3:y.l8[b]? =some e):jo b (ws++[y])=jo b ws++[(s,⟨f,e⟩)]:=by
 unfold jo; rw [List.filterMap_append]; simp [h1,h2,h3]
theorem Kp (hle:dJ l=0) (hr:eg l r) {y:dC} (hy:y∈qw l r):y.jg.length=y.gM.length∧y.l8.length=y.gM.length∧y.gM.length≤l.aa.length:=by
 have h:=(pV hle hr).1 hy
 exact ⟨ko _ _ _ _ h.chain,by rw [h.last,rD],by have:=h.len; rwa [mu] at this⟩
theorem ub (hle:dJ l=0) (hr:eg l r) {b:Nat} (hb:b<l.aa.length) {s t:Int}:(∃ q∈mR (cm l r) b,q.1=s∧q.2.Lo≤t∧t≤q.2.Hi)↔ ∃ q∈jo b (qw l r),q.1=s∧q.2.Lo≤t∧t≤q.2.Hi:=by
 have hh:=Od hle hr
 rw [wu hh.low (by rw [mu]; exact hb),IV hh hr.time.2.1 (by rw [mu]; exact hb)]
 constructor
 ·rintro ⟨y,hy,f,e,A,B,C,D,E⟩
  exact ⟨(s,⟨f,e⟩),nX.2 ⟨y,(pV hle hr).2 hy,A,B,C⟩,U,D,E⟩
 ·rintro ⟨q,hq,rfl,D,E⟩
  obtain ⟨y,hy,A,B,C⟩:=nX.1 hq
  exact ⟨y,(pV hle hr).1 hy,_,_,A,B,C,D,E⟩
/-- a way's span is none that is empty -/
theorem wS (hle:dJ l=0) (hr:eg l r) {b:Nat} {q:Int×ai} (hq:q∈jo b (qw l r)):q.2.Lo≤q.2.Hi:=by
 have hh:=Od hle hr
 obtain ⟨y,hy,C,D,H⟩:=nX.1 hq
 obtain ⟨hc,hn,B,hm⟩:=(pV hle hr).1 hy
 obtain ⟨R,F,La⟩:=y
 simp only at C D H hc hn B
 have G:=(aX.1 C).1
 have E:=(aX.1 D).1
 have L:=ko _ _ _ _ hc
 have eR:R=R.take b++q.1::R.drop (b+1):=by rw [← (aX.1 C).2]; exact (List.take_append_drop b R).symm.trans (by rw [List.drop_eq_getElem_cons G])
 have eF:F=F.take b++q.2.Lo::F.drop (b+1):=by rw [← (aX.1 D).2]; exact (List.take_append_drop b F).symm.trans (by rw [List.drop_eq_getElem_cons E])
 rw [eR,eF,rR _ _ _ _ _ _ (by simp only [List.length_take]; omega)] at hc
 have AA:(R.take b).length=b:=by rw [List.length_take]; omega
 rw [AA,Nat.zero_add] at hc
 obtain ⟨M,⟨o,ho,K,N,O⟩,J⟩:=hc
 have A:=tn (hi:=Ln l r) (least:=ej l) (now:=r.gf) 0 (R.take b) q.1 (R.drop (b+1))
 rw [← eR,AA,Nat.zero_add,← B,H] at A
 have A:=Option.some.inj A
 have he:=ry hh (b+1) q.2.Lo (R.drop (b+1)) (F.drop (b+1)) (by rw [List.length_drop]; omega) om J
 rw [← K] at A
 split at A
 ·rename_i z
  have:=hh.hi b o om ho z
  omega
 ·omega
theorem BE {a b:List (Int×ai)} {h k:ai} (ha:kF a h) (hb:kF b k) (hab: ∀ x∈b,(∃ y∈a,y.2.Lo≤x.2.Lo)∧ ∃ y∈a,x.2.Hi≤y.2.Hi) (hba: ∀ x∈a,(∃ y∈b,y.2.Lo≤x.2.Lo)∧ ∃ y∈b,x.2.Hi≤y.2.Hi):h=k:=by
 rcases ha with ⟨rfl,rfl⟩|ha
 ·rcases hb with ⟨rfl,rfl⟩|hb
  ·rfl
  ·obtain ⟨x,hx,_⟩:=hb.lo
   obtain ⟨⟨y,hy,_⟩,_⟩:=hab x hx
   cases hy
 ·rcases hb with ⟨rfl,rfl⟩|hb
  ·obtain ⟨x,hx,_⟩:=ha.lo
   obtain ⟨⟨y,hy,_⟩,_⟩:=hba x hx
   cases hy
  ·obtain ⟨M,E,AA⟩:=ha.lo
   obtain ⟨N,F,V⟩:=ha.hi
   obtain ⟨O,G,W⟩:=hb.lo
   obtain ⟨P,H,X⟩:=hb.hi
   obtain ⟨⟨AB,A,Y⟩,_⟩:=hba M E
   obtain ⟨_,J,B,Z⟩:=hba N F
   obtain ⟨⟨K,C,c⟩,_⟩:=hab O G
   obtain ⟨_,L,D,d⟩:=hab P H
   have Q:=hb.all AB A
   have R:=hb.all J B
   have S:=ha.all K C
   have T:=ha.all L D
   apply ai.ext
   ·omega
   ·omega
theorem Ji (hle:dJ l=0) (hr:eg l r) {b:Nat} (hb:b<l.aa.length) {h:ai} (hh:kF (jo b (qw l r)) h):h=mF l r b:=by
 have hk:=vb (l:=mR (cm l r) b) (fun q hq=>nq hq)
 refine BE hh hk (fun x hx=>?_) (fun x hx=>?_)
 ·have hle':=nq hx
  obtain ⟨y,hy,_,A,C⟩:=(ub hle hr hb (s:=x.1) (t:=x.2.Lo)).1 ⟨x,hx,rfl,Int.le_refl _,hle'⟩
  obtain ⟨z,hz,_,D,B⟩:=(ub hle hr hb (s:=x.1) (t:=x.2.Hi)).1 ⟨x,hx,rfl,hle',Int.le_refl _⟩
  exact ⟨⟨y,hy,A⟩,z,hz,B⟩
 ·have hle':=wS hle hr hx
  obtain ⟨y,hy,_,A,C⟩:=(ub hle hr hb (s:=x.1) (t:=x.2.Lo)).2 ⟨x,hx,rfl,Int.le_refl _,hle'⟩
  obtain ⟨z,hz,_,D,B⟩:=(ub hle hr hb (s:=x.1) (t:=x.2.Hi)).2 ⟨x,hx,rfl,hle',Int.le_refl _⟩
  exact ⟨⟨y,hy,A⟩,z,hz,B⟩
end
def pQ (ws:List dC) (b:Nat):Int:=if vv (jo b ws)=mB then 6 else 0
def pR (ws:List dC) (b:Nat):ai:=if vv (jo b ws)=mB then ⟨0,0⟩ else vv (jo b ws)
theorem Nq {l:List (Int×ai)} {h:ai} (hh:kF l h) (hl: ∀ q∈l,q.2.Lo≤q.2.Hi):vv l=h:=
 BE (vb hl) hh (fun x hx=>⟨⟨x,hx,Int.le_refl _⟩,x,hx,Int.le_refl _⟩) (fun x hx=>⟨⟨x,hx,Int.le_refl _⟩,x,hx,Int.le_refl _⟩)
theorem Dg {ws:List dC} {b:Nat} (h:jo b ws=[]):pQ ws b=6∧pR ws b=⟨0,0⟩:=by
 unfold pQ pR; rw [h]; exact ⟨if_pos rfl,if_pos rfl⟩
theorem Dk {ws:List dC} {b:Nat} {o:ai} (hl: ∀ q∈jo b ws,q.2.Lo≤q.2.Hi) (h:oU (jo b ws) o):pQ ws b=0∧pR ws b=o:=by
 have e:=Nq (.inr h) hl
 unfold pQ pR; rw [e]; exact ⟨if_neg h.ne,if_neg h.ne⟩
/-- what was found until now -/
def oa (b:Nat) (ws:List dC) (fd:Bool) (o:ai):Prop:=(fd=false∧jo b ws=[])∨(fd=true∧oU (jo b ws) o)
theorem Gr {b:Nat} {o:ai}:oa b [] false o:= .inl ⟨rfl,rfl⟩
theorem CQ {q:Int×ai} (hq:q.2.Lo≤q.2.Hi):oU [q] q.2:=⟨hq,⟨q,sm,rfl⟩,⟨q,sm,rfl⟩,fun x hx=>by simp at hx; subst hx; exact ⟨Int.le_refl _,Int.le_refl _⟩⟩
theorem zU {l:List (Int×ai)} {h:ai} {q:Int×ai} (hh:oU l h) (hq:q.2.Lo≤q.2.Hi):oU (l++[q]) ⟨min q.2.Lo h.Lo,max q.2.Hi h.Hi⟩:=by
 have:=u_ (.inr hh) hq
 unfold mJ at this
 rw [if_neg hh.ne] at this
 rcases this with ⟨e,_⟩|this
 ·simp at e
 ·exact this
theorem Ds {b:Nat} {ws:List dC} {fd:Bool} {o:ai} {y:dC} (h:oa b ws fd o) (hy:y.gM.length≤b):oa b (ws++[y]) fd o:=by
 unfold oa; rw [yc hy]; exact h
theorem B6 {b:Nat} {ws:List dC} {fd:Bool} {o:ai} {y:dC} {s f e:Int} (h:oa b ws fd o) (hf:fd=false) (h1:y.gM[b]? =some s) (h2:y.jg[b]? =some f) (h3:y.l8[b]? =some e) (hle:f≤e):oa b (ws++[y]) true ⟨f,e⟩:=by
 rcases h with ⟨_,q⟩|⟨q,_⟩
 ·right
  rw [qq h1 h2 h3,q]
  exact ⟨U,CQ hle⟩
 ·rw [q] at hf; cases hf
theorem El {b:Nat} {ws:List dC} {fd:Bool} {o:ai} {y:dC} {s f e:Int} (h:oa b ws fd o) (hf:fd=true) (h1:y.gM[b]? =some s) (h2:y.jg[b]? =some f) (h3:y.l8[b]? =some e) (hle:f≤e):oa b (ws++[y]) true ⟨min f o.Lo,max e o.Hi⟩:=by
 rcases h with ⟨q,_⟩|⟨_,q⟩
 ·rw [q] at hf; cases hf
 ·right
  rw [qq h1 h2 h3]
  exact ⟨U,zU q hle⟩
theorem zb {b:Nat} {ws:List dC} {fd:Bool} {o:ai} (h:oa b ws fd o) (hl: ∀ q∈jo b ws,q.2.Lo≤q.2.Hi):(fd=false→pQ ws b=6∧pR ws b=⟨0,0⟩)∧(fd=true→pQ ws b=0∧pR ws b=o):=by
 rcases h with ⟨q,h⟩|⟨q,h⟩
 ·exact ⟨fun _=>Dg h,fun e=>(by rw [q] at e; cases e)⟩
 ·exact ⟨fun e=>(by rw [q] at e; cases e),fun _=>Dk hl h⟩
section
variable {l:br} {r:cD}
theorem Kg (he:dW l r 0=0) {b:Nat} (hb:b<l.aa.length):pQ (qw l r) b=dY l r b∧pR (qw l r) b=dQ l r b:=by
 obtain ⟨A,hr,_,_⟩:=iM he
 have h:=Ji A hr hb (vb fun q hq=>wS A hr hq)
 have ho:dW l r (jB l b)=0:=by rw [Gm hb]; exact he
 unfold pQ pR
 rw [h]
 by_cases e:mF l r b=mB
 ·rw [if_pos e,if_pos e,(qW ho e).1,(qW ho e).2]; exact ⟨rfl,rfl⟩
 ·rw [if_neg e,if_neg e,(oH ho e).1,(oH ho e).2]; exact ⟨rfl,rfl⟩
theorem Qc (hle:dJ l=0) (hr:eg l r) {y:dC} (hy:y∈qw l r) {b:Nat} {f e:Int} (hb:b<y.gM.length) (h2:y.jg[b]? =some f) (h3:y.l8[b]? =some e):f≤e:=
 wS hle hr (q:=(y.gM[b],⟨f,e⟩)) (nX.2 ⟨y,hy,eN _,h2,h3⟩)
theorem BN:dW l r (jB l l.cf)=dW l r 0:=by
 by_cases h:dJ l=0
 ·obtain ⟨_,A⟩:=dZ h
  have hh:=A.head
  unfold fp at hh
  rw [um om]
 ·rw [gE h,gE h]
theorem vV (h: ¬ dW l r 0=0):dY l r l.cf=dW l r 0:=by
 have:=(l4 (b:=l.cf) (by rw [BN]; exact h)).1
 rw [this,BN]
/-- rows of times that are those of ways -/
structure Lw (ws:List dC):Prop where
 lens: ∀ y∈ws,y.jg.length=y.gM.length∧y.l8.length=y.gM.length∧y.gM.length≤6
 le: ∀ y∈ws,∀ (b:Nat) f e,b<y.gM.length→y.jg[b]? =some f→y.l8[b]? =some e→f≤e
 num:ws.length≤40000000
theorem Lw.FG {ws:List dC} (h:Lw ws) {b:Nat}: ∀ q∈jo b ws,q.2.Lo≤q.2.Hi:=fun q hq=>by
 obtain ⟨y,hy,A,B,C⟩:=nX.1 hq
 exact h.le y hy b _ _ (aX.1 A).1 B C
theorem PB (hle:dJ l=0) (hr:eg l r):Lw (qw l r):=by
 obtain ⟨ht,B⟩:=dZ hle
 have hh:=B.head
 unfold fp at hh
 refine ⟨fun y hy=>?_,fun y hy b f e hb A C=>Qc hle hr hy hb A C,uJ hr.len om⟩
 obtain ⟨D,A,C⟩:=Kp hle hr hy
 exact ⟨D,A,om⟩
end
end
section
open Go.RowKit
theorem Br (l:List dC) (az:List kK): ∀ v∈(List.zipWith dC.cells l az).flatten,v.oneCell'=true:=by
 induction l generalizing az with
 |nil=>intro v hv; simp at hv
 |cons x l ih=>
  cases az with
  |nil=>intro v hv; simp at hv
  |cons a az=>
   intro v hv
   simp only [List.zipWith_cons_cons,List.flatten_cons,gI] at hv
   rcases hv with hv|hv
   ·simp only [dC.cells,xR.cells,bW,List.not_mem_nil,or_false] at hv
    rcases hv with rfl|rfl|rfl<;>rfl
   ·exact ih az v hv
theorem Mj: ∀ (m:dC) (a:kK) (w:World),(∀ X∈dC.owns m a,X.holds w)→ ∀ X∈dC.gn m a,X.holds w:=fun m a w h X hX=>by
 simp only [dC.gn,bW,List.not_mem_nil,or_false] at hX
 have A:=nU (h (own a.1.1 a.1.2 lY 1 (m.gM.map iC)) (by simp [dC.owns]))
 have B:=nU (h (own a.2.1.1 a.2.1.2 lY 1 (m.jg.map iC)) (by simp [dC.owns]))
 have C:=nU (h (own a.2.2.1 a.2.2.2 lY 1 (m.l8.map iC)) (by simp [dC.owns]))
 rcases hX with rfl|rfl|rfl
 ·simpa using A
 ·simpa using B
 ·simpa using C
theorem pT: ∀ (l:List dC) (az:List kK),(bo dC.owns l az).all (·.wr)=true
 |[],_=>rfl
 |_::_,[]=>rfl
 |x::l,a::az=>by
  simp only [bo,List.all_append,dg]
  exact ⟨U,pT l az⟩
theorem Kq (l:List dC) (az:List kK):(bU (bo dC.owns l az)).wr=true:=pT l az
theorem JR {l m:List dC} {az bz:List kK} (h:az.length=l.length):List.zipWith dC.cells (l++m) (az++bz)=List.zipWith dC.cells l az++List.zipWith dC.cells m bz:=List.zipWith_append h.symm
theorem tf {l:List dC} {az:List kK} (h:az.length=l.length):(List.zipWith dC.cells l az).length=l.length:=by rw [List.length_zipWith]; omega
/-- what is read of a thing that is tied, and frozen -/
theorem qe {C L:List aB} {a:OA} {c e sz n:Nat} {es:List (List Value)} (i:Nat) (hC:C[i]? =some (bU L).ro) (hm:own a c e sz es∈L) (hn:es.length=n):iH C (rd a n sz es).holds:=fun w hw=>by
 subst hn
 exact nU ((show (bU L).holds w from (hw _ (aQ hC):(bU L).ro.holds w)).1 _ hm)
section
variable {E:fB} {ops:Array Oper} {Q:dk} {rest:List Oper} {D:List Deferred} {L:List (Nat×Value)} {C C1:List aB}
theorem St.OK {S:BS} {w0 w:World} {X C:List aB} {A:aB} (h:St S w0 (bU (X++[A])::C) w):St S w0 (A::bU X::C) w:=by
 have B:=h.ja
 have D:St S w0 (X++(A::C)) w:=by simpa using B
 exact D.tied.perm (List.Perm.swap _ _ _)
theorem St.merge {S:BS} {w0 w:World} {X Y C:List aB} (h:St S w0 (bU X::bU Y::C) w):St S w0 (bU (X++Y)::C) w:=by
 have A:St S w0 (bU Y::(X++C)) w:=(h.ja).perm (List.perm_middle (a:=bU Y) (l₁:=X) (l₂:=C))
 have B:St S w0 (Y++(X++C)) w:=A.ja
 have D:St S w0 ((X++Y)++C) w:=B.perm (by rw [← List.append_assoc]; exact List.perm_append_comm.append_right _)
 exact D.tied
end
section
variable {E:fB} {ops:Array Oper} {Q:dk} {rest:List Oper} {D:List Deferred} {L:List (Nat×Value)} {C:List aB}
theorem zQ {A:aB} {X X':List aB} (e:X++[A]=X') (h:RJ E ops Q rest D L (bU X'::C)):RJ E ops Q rest D L (A::bU X::C):=fun a w hf hs=>h a w hf (hs.tie e)
theorem zp {X:List aB} {A:aB} (h:RJ E ops Q rest D L (A::bU X::C)):RJ E ops Q rest D L (bU (X++[A])::C):=fun a w hf hs=>h a w hf hs.OK
theorem KZ {K:Act→World→Prop} {ms ns:List dC} {az bz:List kK} (hl:az.length=ms.length) (h:KJ E K D L (bU (bo dC.owns (ms++ns) (az++bz))::C)):KJ E K D L (bU (bo dC.owns ms az)::bU (bo dC.owns ns bz)::C):=fun a w hf hs=>h a w hf (by rw [jA hl.symm]; exact hs.merge)
end
/-- the head of the ways: the way that ends here, if it may -/
def xB (l:br) (r:cD) (rs fs:List Int) (ra fa:RA) (hz:List kK) (LA:List aB):Prop:=
 ((r.ag.length:Int)-(dw rs).right≤l.e8∧ ∃ la:RA,hz=[(ra,fa,la)]∧LA=[own la.1 la.2 lY 1 ((jC l r rs).map iC)])∨(¬ (r.ag.length:Int)-(dw rs).right≤l.e8∧hz=[]∧LA=[])
theorem xB.len {l:br} {r:cD} {rs fs:List Int} {ra fa:RA} {hz:List kK} {LA:List aB} (h:xB l r rs fs ra fa hz LA):hz.length=(ia l r rs fs).length:=by
 unfold ia
 rcases h with ⟨q,la,rfl,rfl⟩|⟨q,rfl,rfl⟩
 ·rw [if_pos q]; rfl
 ·rw [if_neg q]; rfl
theorem xB.wr {l:br} {r:cD} {rs fs:List Int} {ra fa:RA} {hz:List kK} {LA:List aB} (h:xB l r rs fs ra fa hz LA):LA.all (·.wr)=true:=by
 rcases h with ⟨q,la,rfl,rfl⟩|⟨q,rfl,rfl⟩<;>rfl
theorem JM {S:BS} {w0 w:World} {l:br} {r:cD} {rs fs:List Int} {ra fa:RA} {hz az:List kK} {LA:List aB} {R:List dC} {A:aB} (hh:xB l r rs fs ra fa hz LA)
 (h:St S w0 [bU [own ra.1 ra.2 lY 1 (rs.map iC),own fa.1 fa.2 lY 1 (fs.map iC)],A,bU LA,bU (bo dC.owns R az)] w):St S w0 [bU (bo dC.owns (ia l r rs fs++R) (hz++az)++[A])] w:=by
 rw [jA hh.len.symm]
 have D:St S w0 [own ra.1 ra.2 lY 1 (rs.map iC),own fa.1 fa.2 lY 1 (fs.map iC),A,bU LA,bU (bo dC.owns R az)] w:=h.ja
 rcases hh with ⟨q,la,rfl,rfl⟩|⟨q,rfl,rfl⟩
 ·unfold ia
  rw [if_pos q]
  have B:=(St.jR [3,0,1,2,4] rfl rfl D).ja
  have E:=(St.jR [4,1,2,0,3] rfl rfl B).ja
  have C:St S w0 (((bo dC.owns [(⟨rs,fs,jC l r rs⟩:dC)] [(ra,fa,la)]++bo dC.owns R az)++[A])++[]) w:=by
   rw [List.append_nil]
   refine E.perm ?_
   show (bo dC.owns R az++(bo dC.owns [(⟨rs,fs,jC l r rs⟩:dC)] [(ra,fa,la)]++[A])).Perm _
   rw [← List.append_assoc]
   exact List.perm_append_comm.append_right _
  exact C.tied
 ·unfold ia
  rw [if_neg q]
  have B:=(St.jR [4,2] rfl rfl D).ja
  have C:St S w0 (((bo dC.owns [] []++bo dC.owns R az)++[A])++[]) w:=by
   rw [List.append_nil]; exact B
  exact C.tied
theorem HM {E:fB} {K:Act→World→Prop} {D:ib} {L:dD} {l:br} {r:cD} {rs fs:List Int} {ra fa:RA} {hz az z:List kK} {LA:List aB} {R W:List dC} {A A':aB} (hh:xB l r rs fs ra fa hz LA) (hW:ia l r rs fs++R=W) (hz':hz++az=z) (hA:A=A')
 (h:KJ E K D L [bU (bo dC.owns W z++[A'])]):KJ E K D L [bU [own ra.1 ra.2 lY 1 (rs.map iC),own fa.1 fa.2 lY 1 (fs.map iC)],A,bU LA,bU (bo dC.owns R az)]:=fun a w hf hs=>h a w hf (by subst hW hz' hA; exact JM hh hs)
theorem Pr {E:fB} {K:Act→World→Prop} {D:ib} {L:dD} {X A:aB} {W:List dC} (h:KJ E K D L [bU (bo dC.owns W []++[A])]):KJ E K D L [X,A]:=fun a w hf hs=>h a w hf (by
 have B:St E.S E.w0 [A] w:=St.jR [1] rfl rfl hs
 have C:St E.S E.w0 (([]++[A])++[]) w:=B
 have e:bo dC.owns W []=[]:=by cases W<;>rfl
 rw [e]
 exact C.tied)
theorem GP {E:fB} {K:Act→World→Prop} {D:ib} {L:dD} {C:List aB} (e sz:Nat) (k:KJ E K D L (own none 0 e sz []::C)):KJ E K D L C:=fun a w hf hs=>k a w hf (hs.tI e sz)
end
section
open Go.RowKit
theorem L_ (l:br) (kA:OA) (kC:Nat) (az:List RA) (cA:OA) (cC:Nat) (bA:OA) (bC:Nat) (r:cD) (sgA:OA) (sgC:Nat) (hin:eo l az) (hsl:r.ag.length≤1000000):
 dK Tryz.prog 162 [(vA (ct.cells (jW l kA kC cA cC bA bC))),(vA (cN.cells (jr r sgA sgC)))] [(rd kA l.aS.length 9 (l.aS.map au.cells)),(rd cA l.aj.length 2 (List.zipWith ay.cells l.aj az)),(dU (bo ay.gn l.aj az)),(rd bA l.aa.length 4 (l.aa.map bK.cells)),(rd sgA r.ag.length 2 (r.ag.map aI.cells))] (vB (decide (eg l r))):=by
 have AO:=hin.se
 have AN:=hin.sb
 have w:=hin.nP
 have AC:=hin.r9
 refine bG kr Tryz.func162 U U fun w0 Q hQ hN=>?_
 try dsimp only
 refine WS fun _ h=>eL U fun b2=>eL U fun b3=>bE 1 U<|RK h<|aq fun _ j=>WS fun _ H=>e9 2 [] (mc 0 U I) U<|rS (CL (je r.Start 0 86400000) (aN) U)<|rP 2 [] I ?_
 refine bZ (t:=11) U (bg fun X=>?_) (bf fun X=>?_)
 ·refine bE 13 U<|RK H<|aT U<|WS fun _ k=>rP 1 [] I ?_
  refine RK k<|av<|Q1 hQ U U U ?_
  exact cB (bH fun q=>by have C:=q.time; have u:=q.len; omega).symm
 refine e9 4 [] (mc 0 U I) U<|rS (CL (je r.gf r.Start 86400000) (aN) U)<|rP 3 [] I ?_
 refine bZ (t:=19) U (bg fun Z=>?_) (bf fun Z=>?_)
 ·refine bE 5 U<|RK H<|aT U<|WS fun _ m=>rP 1 [] I ?_
  refine RK m<|av<|Q1 hQ U U U ?_
  exact cB (bH fun q=>by have C:=q.time; have u:=q.len; omega).symm
 refine rP 5 [] (mc 0 U I) ?_
 refine RK H<|cw U (aV fun a=>?_) (aU fun a=>?_)
 ·refine WS fun _ n=>rP 1 [] I ?_
  refine RK n<|av<|Q1 hQ U U U ?_
  exact cB (bH fun q=>by have C:=q.time; have u:=q.len; omega).symm
 refine WK j<|aq fun _ o=>WS fun _ J=>rP 1 [] I ?_
 refine RK J<|aF ?_
 have F:(0≤r.ag.length)∧(oS l r.ag 0):=by exact ⟨Nat.zero_le _,vi⟩
 refine bQ (ι:={z:Nat // (z≤r.ag.length)∧(oS l r.ag z)}) [2,3] [0,1,2,3,4,5,6] U U (fun z=>[(5,(vI (z.1:Int)))]) (fun z=>[]) (fun _=>rfl) (fun _=>rfl) (fun z=>r.ag.length-z.1) ⟨0,F⟩ (bk U) (aP [0,1,2,3,4,5,6]) ?_
 clear F
 rintro ⟨i,⟨p,A⟩⟩ J11 D
 try dsimp only
 refine aq fun _ K=>WS fun _ L=>rP 5 [] (mc 0 U I) ?_
 refine RK L<|bV U (aU fun Y=>?_) (aV fun Y=>?_)
 ·refine bL<|ab<|ab<|aH<|KK o<|WS fun _ T=>rP 1 [] I ?_
  refine RK T<|av<|Q1 hQ U U U ?_
  exact cB (dI (wZ om om A om)).symm
 refine WK K<|aq fun _ E=>aF<|WS fun _ M=>rP 3 [] (mc 0 U I) ?_
 obtain ⟨x,hx⟩:=aM r.ag i om
 have s:=bO aI.cells hx
 refine rS (IA i U (aG 6 U) yC dc om om)<|rS (lS i 0 (aI.cells x) U cq (aG 6 U) s U dc U U)<|AL U Gz fun v=>fR U vm U<|RK M<|aq fun _ N=>WS fun _ G=>e9 6 [0,1] (mc 0 U (mc 2 U I)) U<|rS (CL (je x.fI 0 ((l.aa.length:Int)-1)) (aN) U)<|rP 2 [] I ?_
 refine bZ (t:=45) U (bg fun b=>?_) (bf fun b=>?_)
 ·refine bE 5 U<|RK G<|aT U<|WS fun _ O=>rP 1 [] I ?_
  refine RK O<|av<|Q1 hQ U U U ?_
  exact cB (bH fun q=>by have C:=q.sig i x hx; unfold h_ iA at C; omega).symm
 refine e9 2 [] (mc 0 U I) U<|rS (CL (je x.Read 0 86400000) (aN) U)<|rP 2 [] I ?_
 refine RK G<|cw U (bg fun c=>?_) (bf fun c=>?_)
 ·refine WS fun _ P=>rP 1 [] I ?_
  refine RK P<|av<|Q1 hQ U U U ?_
  exact cB (bH fun q=>by have C:=q.sig i x hx; unfold h_ iA at C; omega).symm
 refine WK N<|aq fun _ B=>dA cy 38 kr<|dP 3 [] I ?_
 refine jD (t:=53) U (aU fun d=>?_) (aV fun d=>?_)
 ·refine k6 35 U<|cM<|RK B<|cj U<|cg<|aO<|KK E<|aw<|rP 3 [] I ?_
  refine aK ?_
  have W:(vI (((i+1):Nat):Int))=(vI ((i:Int)+1)):=by exact cI om
  refine a_ (D ⟨(i+1),⟨om,ju A hx (by unfold h_ iA; (rw [GH om]; simp only; omega))⟩⟩ _ _ _ U os (dv.cons U<|dv.cons U<|bj U W<|dv.nil _) (aP [1,2,3,4,5,6,7]))
 refine dP 6 [0,1] (mc 0 U (mc 1 U I)) ?_
 obtain ⟨y,hy⟩:=aM r.ag (i-1) om
 have AB:=bO aI.cells hy
 refine dS (IA (i-1) U (aG 7 U) yC dc om om)<|dS (o1 ((i-1)*2) U (aG 7 U) (Nat.mul_pos om dc) fK U)<|dS (gQ (i-1) 0 (vI y.fI) U cq (aG 7 U) AB U dc U)<|dP 2 [] I ?_
 refine hO (t:=64) U (aV fun e=>?_) (aU fun e=>?_)
 ·refine k6 24 U<|cM<|RK B<|aT U<|WS fun _ R=>rP 1 [] I ?_
  refine RK R<|av<|Q1 hQ U U U ?_
  exact cB (bH fun q=>by have C:=q.sig i x hx; unfold h_ iA at C; (rw [rz om hy] at C; omega)).symm
 refine lR 6 [0,1] (mc 0 U (mc 1 U I)) U<|dS (IA (i-1) U (aG 7 U) yC dc om om)<|dS (o1 ((i-1)*2) U (aG 7 U) (Nat.mul_pos om dc) fK U)<|dS (gQ (i-1) 0 (vI y.fI) U cq (aG 7 U) AB U dc U)<|dP 2 [] I ?_
 refine jD (t:=75) U (aU fun f=>?_) (aV fun f=>?_)
 ·refine k6 13 U<|cM<|RK B<|cj U<|cg<|aO<|KK E<|aw<|rP 3 [] I ?_
  refine aK ?_
  have V:(vI (((i+1):Nat):Int))=(vI ((i:Int)+1)):=by exact cI om
  refine a_ (D ⟨(i+1),⟨om,ju A hx (by unfold h_ iA; (rw [rz om hy]; omega))⟩⟩ _ _ _ U os (dv.cons U<|dv.cons U<|bj U V<|dv.nil _) (aP [1,2,3,4,5,6,7]))
 refine lR 6 [0,1] (mc 0 U (mc 1 U I)) U<|dS (IA (i-1) U (aG 7 U) yC dc om om)<|dS (o1 (((i-1)*2)+1) U (aG 7 U) (Nat.mul_pos om dc) fK U)<|dS (gQ (i-1) 1 (vI y.Read) U cq (aG 7 U) AB U dc U)<|dP 4 [] I ?_
 refine cM<|RK B<|cw U (aV fun g=>?_) (aU fun g=>?_)
 ·refine WS fun _ S=>rP 1 [] I ?_
  refine RK S<|av<|Q1 hQ U U U ?_
  exact cB (bH fun q=>by have C:=q.sig i x hx; unfold h_ iA at C; (rw [rz om hy] at C; omega)).symm
 refine cg<|aO<|KK E<|aw<|rP 3 [] I ?_
 refine aK ?_
 have AA:(vI (((i+1):Nat):Int))=(vI ((i:Int)+1)):=by exact cI om
 refine a_ (D ⟨(i+1),⟨om,ju A hx (by unfold h_ iA; (rw [rz om hy]; omega))⟩⟩ _ _ _ U os (dv.cons U<|dv.cons U<|bj U AA<|dv.nil _) (aP [1,2,3,4,5,6,7]))
end
section
open Go.RowKit
theorem MK (l:br) (kA:OA) (kC:Nat) (az:List RA) (cA:OA) (cC:Nat) (bA:OA) (bC:Nat) (r:cD) (sgA:OA) (sgC:Nat) (hin:eo l az) (hle:dJ l=0) (hr:eg l r):
 p9 Tryz.prog 164 [(vA (ct.cells (jW l kA kC cA cC bA bC))),(vA (cN.cells (jr r sgA sgC)))] [(rd kA l.aS.length 9 (l.aS.map au.cells)),(rd cA l.aj.length 2 (List.zipWith ay.cells l.aj az)),(dU (bo ay.gn l.aj az)),(rd bA l.aa.length 4 (l.aa.map bK.cells)),(rd sgA r.ag.length 2 (r.ag.map aI.cells))] (fun (x:(OA)×Nat×(OA)×Nat×(OA)×Nat)=>(vA (iU.cells (iU.mk (bx.mk x.1 ((cr l l.aa.length).length) x.2.1) (bx.mk x.2.2.1 ((eT l r r.ag.length).length) x.2.2.2.1) (bx.mk x.2.2.2.2.1 ((fG l r r.ag.length).length) x.2.2.2.2.2))))) (fun (x:(OA)×Nat×(OA)×Nat×(OA)×Nat)=>True) (fun (x:(OA)×Nat×(OA)×Nat×(OA)×Nat)=>[(own x.1 x.2.1 3 1 ((cr l l.aa.length).map iC)),(own x.2.2.1 x.2.2.2.1 53 2 ((eT l r r.ag.length).map ai.cells)),(own x.2.2.2.2.1 x.2.2.2.2.2 4 1 ((fG l r r.ag.length).map qk))]):=by
 have A5:=hin.se
 have A1:=hin.sb
 have Am:=hin.nP
 have A0:=hin.r9
 obtain ⟨w,g⟩:=dZ hle
 have t:=g.head
 unfold fp at t
 have A3:=hr.len
 have A4:=hr.time
 refine fF kr Tryz.func164 U U fun w0 Q hQ hN=>?_
 try dsimp only
 refine WS fun _ n=>eL U fun b2=>eL U fun b3=>AL U Ok fun b4=>RK n<|WS fun _ o=>AL U Ok fun h=>RK o<|aq fun _ p=>WS fun _ q=>rP 1 [] I ?_
 refine RK q<|aF<|eP 3 1 ?_
 have A:(0≤l.aa.length):=by exact Nat.zero_le _
 refine bQ (ι:={z:Nat×(OA)×Nat // (z.1≤l.aa.length)}) [2,3,4,5] [2,3,4,5,6,7,8,9] U U (fun z=>[(6,(vI (z.1.1:Int)))]) (fun z=>[(own z.1.2.1 z.1.2.2 3 1 ((cr l z.1.1).map iC)),(cx h 252 (iU.cells (iU.mk (bx.mk z.1.2.1 ((cr l z.1.1).length) z.1.2.2) (bx.mk none 0 0) (bx.mk none 0 0))))]) (fun _=>rfl) (fun _=>rfl) (fun z=>l.aa.length-z.1.1) ⟨(0,none,0),A⟩ (bk U) (aP [2,3,4,5,6,7,8,9,0,1]) ?_
 clear A
 rintro ⟨⟨b,a,c⟩,F⟩ J9 m
 try dsimp only at F
 try dsimp only
 refine aq fun _ K=>WS fun _ L=>rP 5 [] (mc 2 U I) ?_
 refine RK L<|cw U (aV fun j=>?_) (aU fun j=>?_)
 ·refine WK K<|aq fun _ M=>aF<|dM cy [5,6,8] [1] [0] [0,1,2,3,4,5,6,7] [0,1,2,3,4,5,6,7,8,9] U U U U U<|eS U (FA 0 U fK U)<|fS U (L1 (vS a ((cr l b).length) c) 9 U cq U U)<|eS U (LW 2 U cq U U)<|eS U (MV U) ?_
  have A2:=nB w g (i:=b) om
  refine eS U (CL (I3 l kA kC az cA cC bA bC (b:Int) hin asm asm om) (bw [3,4,5,6]) U)<|eS U (FA 0 U fK U)<|eC U<|jF U fun T14 W=>eB (xs:=[.tmp 21]) (cs:=[(vI (ej l (b:Int).toNat))]) U dp ky U U U U (by simp [Value.cells]) U U fun y=>aK (W _ _ (aP [1,2,3,4,5,6,7,8]) (aP [1,2,3,4,5,6,7,8,9,10]) ?_)
  refine cv U fun T16 X=>?_
  refine dH (es2:=(List.map iC (cr l (b+1)))) (m':=(cr l (b+1)).length) 9 U U U r8 U U sm (bu (es:=List.map iC [(ej l (b:Int).toNat)]) 0 U U (by simp [bR]) U) (kZ _) (by simp only [cW]; omega) (by simp only [maxLen,cW]; omega) (by rw [q_]; simp) sm U fun H AB=>?_
  try dsimp only
  refine aK (X _ _ (aP [1,2,3,4,5,6,7,8]) ?_)
  refine cv U fun T19 Y=>QE (iU.cells (iU.mk (bx.mk H ((cr l (b+1)).length) AB) (bx.mk none 0 0) (bx.mk none 0 0))) U F9 U U<|aK (Y _ _ (aP [1,2,3,4,5,6,7,8]) ?_)
  refine fP U<|aO<|KK M<|aw<|rP 3 [] I ?_
  refine aK ?_
  have e:(vI (((b+1):Nat):Int))=(vI ((b:Int)+1)):=by exact cI om
  refine a_ (m ⟨((b+1),H,AB),(by first|omega|(simp only []; omega))⟩ _ _ _ U os (cK 4<|bj U e<|dv.nil _) (aP [1,2,3,4,5,6,7,8,9,10]))
 refine bL<|ab<|ab<|aH<|KK p<|aq fun _ N=>WS fun _ O=>?_
 rw [show cr l b=(cr l l.aa.length) from by rw [show b=l.aa.length by omega]]
 refine rP 1 [] I ?_
 refine RK O<|aF<|eP 53 2<|eP 4 1 ?_
 have A:(0≤r.ag.length):=by exact Nat.zero_le _
 refine bQ (ι:={z:Nat×(OA)×Nat×(OA)×Nat // (z.1≤r.ag.length)}) [2,3,4,5] [2,3,4,5,6,7,8,9,10] U U (fun z=>[(7,(vI (z.1.1:Int)))]) (fun z=>[(own z.1.2.2.2.1 z.1.2.2.2.2 4 1 ((fG l r z.1.1).map qk)),(own z.1.2.1 z.1.2.2.1 53 2 ((eT l r z.1.1).map ai.cells)),(cx h 252 (iU.cells (iU.mk (bx.mk a ((cr l l.aa.length).length) c) (bx.mk z.1.2.1 ((eT l r z.1.1).length) z.1.2.2.1) (bx.mk z.1.2.2.2.1 ((fG l r z.1.1).length) z.1.2.2.2.2))))]) (fun _=>rfl) (fun _=>rfl) (fun z=>r.ag.length-z.1.1) ⟨(0,none,0,none,0),A⟩ (bk U) (aP [2,3,4,5,6,7,8,9,10,0,1,11]) ?_
 clear A
 rintro ⟨⟨i,ta,tc,sa,sc⟩,G⟩ J23 J
 try dsimp only at G
 try dsimp only
 refine aq fun _ P=>WS fun _ R=>rP 5 [] (mc 1 U I) ?_
 refine RK R<|bV U (aU fun k=>?_) (aV fun k=>?_)
 ·refine bL<|ab<|ab<|aH<|KK N<|WS fun _ V=>?_
  rw [show eT l r i=(eT l r r.ag.length) from by rw [show i=r.ag.length by omega]]
  rw [show fG l r i=(fG l r r.ag.length) from by rw [show i=r.ag.length by omega]]
  refine rP 1 [] (mc 11 U I) ?_
  refine fR U SU U<|RK V<|av<|LX hQ (a,c,ta,tc,sa,sc) [8,10,9] [0] (mc 0 U I) U U U U ?_
  trivial
 refine WK P<|aq fun _ S=>aF<|aq fun _ T=>dM cy [10,11] [] [] [0,1,2,3,4,5,6,7,8,9,10,11] [] U U U U U<|eS U (LW 2 U cq U U)<|eS U (FA 2 U fK U)<|eS U (L1 (vS sgA r.ag.length sgC) 1 U cq U U)<|eS U (MV U) ?_
 obtain ⟨s,hs⟩:=aM r.ag i om
 have v:=bO aI.cells hs
 refine eS U (IA i U (aG 7 U) yC dc om om)<|eS U (lS i 0 (aI.cells s) U cq (aG 7 U) v U dc U U) ?_
 have u:=(hr.sig i s hs).1
 refine eS U (CL (LS l kA kC az cA cC bA bC s hin asm (by exact u)) (bw [3,4,5,6]) U)<|eS U (MV U)<|eS U (EX U)<|eS U (EX U)<|eS U (AG U)<|eC U<|cv U fun T29 Z=>AL U ed fun AC=>aK (Z _ _ (aP [1,2,3,4,5,6,7,8,9,10,11,12]) ?_)
 refine cv U fun T31 d=>fR U c_ U<|aK (d _ _ (aP [1,2,3,4,5,6,7,8,9,10,11,12]) ?_)
 refine fP U<|KK T<|WS fun _ AA=>rP 3 [0,1] (mc 12 U (mc 0 U I)) ?_
 refine eB (xs:=[.tmp 44]) (cs:=(ai.cells (cS l s))) U lu ed U U U U (by simp [Value.cells,ai.aZ]) U U fun AN=>?_
 refine dH (es2:=(List.map ai.cells (eT l r (i+1)))) (m':=(eT l r (i+1)).length) 12 U U U FC U U sm (bu (es:=List.map ai.cells [(cS l s)]) 0 U U (by simp [ai.aZ]) U) (kT _) (by rw [rX om]; omega) (by rw [rX om]; simp only [maxLen]; omega) (by rw [DV hs]; simp) sm U fun B C=>?_
 try dsimp only
 refine bE 1 U<|hE (vs:=[(vS B ((eT l r (i+1)).length) C)]) (cs':=(iU.cells (iU.mk (bx.mk a ((cr l l.aa.length).length) c) (bx.mk B ((eT l r (i+1)).length) C) (bx.mk sa ((fG l r i).length) sc)))) (C':=[_,_,_,_,_,_,_,_,_,_,_,_,_,(cx h 252 (iU.cells (iU.mk (bx.mk a ((cr l l.aa.length).length) c) (bx.mk B ((eT l r (i+1)).length) C) (bx.mk sa ((fG l r i).length) sc))))]) 13 U U U QI U U U U U U U<|RK AA<|aw<|rP 3 [] (mc 13 U I) ?_
 refine eB (xs:=[.tmp 50]) (cs:=[(vB (decide ((cS l s).Lo≤(cS l s).Hi)))]) U N_ VX U U U U (by simp [Value.cells]) U U fun AO=>?_
 refine dH (es2:=(List.map qk (fG l r (i+1)))) (m':=(fG l r (i+1)).length) 12 U U U SR U U sm (bu (es:=List.map qk [(decide ((cS l s).Lo≤(cS l s).Hi))]) 0 U U (by simp [Ao]) U) (Gt _) (by rw [uR om]; omega) (by rw [uR om]; simp only [maxLen]; omega) (by rw [DN hs]; simp) sm U fun D E=>?_
 try dsimp only
 refine bE 1 U<|hE (vs:=[(vS D ((fG l r (i+1)).length) E)]) (cs':=(iU.cells (iU.mk (bx.mk a ((cr l l.aa.length).length) c) (bx.mk B ((eT l r (i+1)).length) C) (bx.mk D ((fG l r (i+1)).length) E)))) (C':=[_,_,_,_,_,_,_,_,_,_,_,_,_,_,(cx h 252 (iU.cells (iU.mk (bx.mk a ((cr l l.aa.length).length) c) (bx.mk B ((eT l r (i+1)).length) C) (bx.mk D ((fG l r (i+1)).length) E))))]) 14 U U U Q8 U U U U U U U<|aK<|aO<|KK S<|aw<|bE 2 U<|rP 1 [] I ?_
 refine aK ?_
 have f:(vI (((i+1):Nat):Int))=(vI ((i:Int)+1)):=by exact cI om
 refine a_ (J ⟨((i+1),B,C,D,E),(by first|omega|(simp only []; omega))⟩ _ _ _ U os (cK 4<|bj U f<|dv.nil _) (aP [3,4,5,6,7,8,9,10,11,12,13,14]))
theorem I1 (r:cD) (sgA:OA) (sgC:Nat) (l:br) (wA:OA) (wC:Nat) (tA:OA) (tC:Nat) (bA:OA) (bC:Nat) (rs:List Int) (rsA:OA) (rsC:Nat) (hle:dJ l=0) (hr:eg l r) (hn:rs.length≤l.aa.length) (hrs: ∀ x∈rs,0≤x→x<(r.ag.length:Int)):
 p9 Tryz.prog 176 [(vA (cN.cells (jr r sgA sgC))),(vA (iU.cells (iU.mk (bx.mk wA ((cr l l.aa.length).length) wC) (bx.mk tA ((eT l r r.ag.length).length) tC) (bx.mk bA ((fG l r r.ag.length).length) bC)))),(vS rsA rs.length rsC)] [(rd sgA r.ag.length 2 (r.ag.map aI.cells)),(rd wA ((cr l l.aa.length).length) 1 ((cr l l.aa.length).map iC)),(rd tA ((eT l r r.ag.length).length) 2 ((eT l r r.ag.length).map ai.cells)),(rd bA ((fG l r r.ag.length).length) 1 ((fG l r r.ag.length).map qk)),(rd rsA rs.length 1 (rs.map iC))] (fun (x:(OA)×Nat)=>(vS x.1 ((jC l r rs).length) x.2)) (fun (x:(OA)×Nat)=>True) (fun (x:(OA)×Nat)=>[(own x.1 x.2 3 1 ((jC l r rs).map iC))]):=by
 obtain ⟨J,D⟩:=dZ hle
 have v:=D.head
 unfold fp at v
 have A2:=hr.len
 have A3:=hr.time
 have w:=Fb (l:=l) (rs:=rs) ⟨om,om⟩ (fun b hb=>by have:=nB J D (i:=b) om; omega) hrs
 have A0:=cW (l:=l) (n:=l.aa.length)
 have A4:=rX (l:=l) (Nat.le_refl r.ag.length)
 refine fF kr Tryz.func176 U U fun w0 Q hQ hN=>?_
 try dsimp only
 refine WS fun _ h=>eL U fun b2=>eL U fun b3=>bE 1 U<|RK h<|WS fun _ m=>rP 2 [] I ?_
 refine vZ (n:=rs.length) (es:=(List.map iC (List.replicate rs.length 0))) U U U r8 om om (by simp only [maxLen]; omega) (by rw [List.map_replicate]; rfl) U fun E=>?_
 try dsimp only
 refine bE 1 U<|RK m<|WS fun _ p=>e9 3 [] (mc 2 U I) U<|RK p<|aq fun _ q=>WS fun _ t=>rP 4 [] I ?_
 refine RK t<|aF ?_
 rw [show (own (some ⟨E,0,none⟩) rs.length 3 1 (List.map iC (List.replicate rs.length 0)))=(own (some ⟨E,0,none⟩) rs.length 3 1 ((jU l r rs rs.length).map iC)) from by rw [Hr]]
 have B:(rs.length≤rs.length):=by exact Nat.le_refl _
 have u:(vI ((j0 l r rs rs.length).2))=(vI r.gf):=by rw [uO]
 refine bQ (ι:={z:Nat // (z≤rs.length)}) [2,3,4,7] [1,2,3,4,5,6,7] U U (fun z=>[(8,(vI ((j0 l r rs z.1).2))),(9,(vI ((z.1:Int)-1)))]) (fun z=>[(own (some ⟨E,0,none⟩) rs.length 3 1 ((jU l r rs z.1).map iC))]) (fun _=>rfl) (fun _=>rfl) (fun z=>z.1) ⟨rs.length,B⟩ (bj U u<|bk U) (aP [1,2,3,4,5,6,7,0]) ?_
 clear B
 rintro ⟨j,AC⟩ J10 F
 try dsimp only
 have A1:=G1 (l:=l) (r:=r) (rs:=rs) (j:=j) om
 refine aq fun _ L=>WS fun _ M=>rP 2 [] I ?_
 refine RK M<|bV U (aU fun g=>?_) (aV fun g=>?_)
 ·refine bL<|ab<|ab<|aH<|KK q<|WS fun _ R=>rP 1 [] I ?_
  rw [show (Value.slice (some ⟨E,0,none⟩) rs.length rs.length)=(Value.slice (some ⟨E,0,none⟩) ((jC l r rs).length) rs.length) from by rw [show (jC l r rs).length=rs.length from rD _ _]]
  rw [show jU l r rs j=jC l r rs from by rw [show j=0 by omega]; exact Dc]
  refine rP 1 [] I ?_
  refine RK R<|av<|LX hQ ((some ⟨E,0,none⟩),rs.length) [7] [] I U U U U ?_
  trivial
 refine WK L<|aq fun _ G=>aF<|aq fun _ H=>WS fun _ N=>rP 2 [] I ?_
 have Am:=w (rs.length-j) j om
 obtain ⟨x,hx⟩:=aM rs (j-1) om
 have d:=bO iC hx
 refine rS (IA (j-1) U (aG 6 U) dp dc om om)<|rS (gQ (j-1) 0 (vI x) U cq (aG 6 U) d U dc U)<|rP 1 [] I ?_
 refine RK N<|bV U (aU fun A=>?_) (aV fun A=>?_)
 ·refine WK H<|WS fun _ P=>rP 3 [] I ?_
  obtain ⟨A7,c⟩:=aM (jU l r rs j) (j-1) om
  have hx25m:=bO iC c
  refine rS (IA (j-1) U (ak (n:=rs.length) 7 U sq) dp dc om om) ?_
  have V:((jU l r rs j).set (j-1) ((j0 l r rs j).2))=(jU l r rs (j-1)):=by (rw [← zg om hx]; congr 1; unfold tp; (rw [if_neg A]; done))
  refine gR (k:=(j-1)) (o:=0) (vs:=[(vI ((j0 l r rs j).2))]) (es':=(List.map iC (jU l r rs (j-1)))) (C':=[_,_,_,_,_,_,_,(own (some ⟨E,0,none⟩) rs.length 3 1 (List.map iC (jU l r rs (j-1))))]) 7 U U U AR U U U U hx25m U dc (by exact (List.map_set (f:=iC) (l:=(jU l r rs j)) (i:=(j-1)) (a:=(j0 l r rs j).2)).symm.trans (congrArg _ V)) U<|RK P<|aw<|rP 4 [] (mc 0 U I) ?_
  obtain ⟨y,hy⟩:=aM (cr l l.aa.length) (j-1) om
  have K:=bO iC hy
  refine rS (IA (j-1) U (aG 3 U) dp dc om om)<|rS (gQ (j-1) 0 (vI y) U cq (aG 3 U) K U dc U) ?_
  have C:=vc hy
  have AB:=nB J D (i:=j-1) om
  rw [← C] at AB
  refine bE 2 U<|aK<|aO<|KK G<|aw<|rP 3 [] I ?_
  refine aK ?_
  have W:(vI ((j0 l r rs (j-1)).2))=(vI (((j0 l r rs j).2)-y)):=by exact cI (by rw [qa om hx]; simp only; unfold tp; rw [C]; (rw [if_neg A]; done))
  have X:(vI ((((j-1):Nat):Int)-1))=(vI (((j:Int)-1)-1)):=by exact cI om
  refine a_ (F ⟨(j-1),(by first|omega|(simp only []; omega))⟩ _ _ _ U os (cK 4<|bj U W<|bj U X<|dv.nil _) (aP [0,1,2,3,4,5,6,7]))
 refine dA cy 12 kr<|dP 5 [] (mc 0 U I) ?_
 refine dS (IA (j-1) U (aG 6 U) dp dc om om)<|dS (gQ (j-1) 0 (vI x) U cq (aG 6 U) d U dc U) ?_
 have A5:=hrs x (aQ hx) A
 obtain ⟨z,hz⟩:=aM (eT l r r.ag.length) ((x).toNat) om
 have AO:=bO ai.cells hz
 refine dS (IA ((x).toNat) U (aG 4 U) lu dc om om)<|dS (o1 ((((x).toNat)*2)+1) U (aG 4 U) (Nat.mul_pos om dc) fK U) ?_
 obtain ⟨s,hs,e⟩:=Ir hz
 have AN:=xA l s
 rw [← e] at AN
 have Y:Ln l r x=z.Hi:=by rw [Em hs,e]
 refine dS (gQ ((x).toNat) 1 (vI z.Hi) U cq (aG 4 U) AO U dc U)<|dS (MN U)<|k6 1 U<|cM<|RK H<|WS fun _ O=>rP 3 [] I ?_
 obtain ⟨A6,Z⟩:=aM (jU l r rs j) (j-1) om
 have hx19m:=bO iC Z
 refine rS (IA (j-1) U (ak (n:=rs.length) 7 U sq) dp dc om om) ?_
 have S:((jU l r rs j).set (j-1) (min ((j0 l r rs j).2) z.Hi))=(jU l r rs (j-1)):=by (rw [← zg om hx]; congr 1; unfold tp; (rw [if_pos A,Y]; done))
 refine gR (k:=(j-1)) (o:=0) (vs:=[(vI (min ((j0 l r rs j).2) z.Hi))]) (es':=(List.map iC (jU l r rs (j-1)))) (C':=[_,_,_,_,_,_,_,(own (some ⟨E,0,none⟩) rs.length 3 1 (List.map iC (jU l r rs (j-1))))]) 7 U U U AR U U U U hx19m U dc (by exact (List.map_set (f:=iC) (l:=(jU l r rs j)) (i:=(j-1)) (a:=(min ((j0 l r rs j).2) z.Hi))).symm.trans (congrArg _ S)) U<|RK O<|aw<|rP 4 [] (mc 0 U I) ?_
 obtain ⟨y,hy⟩:=aM (cr l l.aa.length) (j-1) om
 have K:=bO iC hy
 refine rS (IA (j-1) U (aG 3 U) dp dc om om)<|rS (gQ (j-1) 0 (vI y) U cq (aG 3 U) K U dc U) ?_
 have C:=vc hy
 have AB:=nB J D (i:=j-1) om
 rw [← C] at AB
 refine bE 2 U<|aK<|aO<|KK G<|aw<|rP 3 [] I ?_
 refine aK ?_
 have T:(vI ((j0 l r rs (j-1)).2))=(vI ((min ((j0 l r rs j).2) z.Hi)-y)):=by exact cI (by rw [qa om hx]; simp only; unfold tp; rw [C]; (rw [if_pos A,Y]; done))
 have AA:(vI ((((j-1):Nat):Int)-1))=(vI (((j:Int)-1)-1)):=by exact cI om
 refine a_ (F ⟨(j-1),(by first|omega|(simp only []; omega))⟩ _ _ _ U os (cK 4<|bj U T<|bj U AA<|dv.nil _) (aP [0,1,2,3,4,5,6,7]))
end
end Go.Proofs.YtijpnoadncadoaaGreatDoor
