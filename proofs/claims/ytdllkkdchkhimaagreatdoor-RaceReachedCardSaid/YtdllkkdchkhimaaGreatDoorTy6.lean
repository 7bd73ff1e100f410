/-
 The statement raceReached_said, part 6 of 8: V4, V3, V5, V6, V8, Wh2, Rc2, Rc3, Rc4, Rs3, Rs4, Rs6, Rs7, Rs8, RkB, RaB, RtB, Rp0, Rp1, Rp2, Rt1, DrawB, Rep6, Async, NJoin, Rt3, Rr1, RkS, RaS, RtS.
 Conditions: none.
-/
import Derived.Test.YtdllkkdchkhimaaGreatDoorTy1
import Derived.Test.YtdllkkdchkhimaaGreatDoorTy2
import Derived.Test.YtdllkkdchkhimaaGreatDoorTy3
import Derived.Test.YtdllkkdchkhimaaGreatDoorTy4
import Derived.Test.YtdllkkdchkhimaaGreatDoorTy5
namespace Go.Proofs.YtdllkkdchkhimaaGreatDoor
set_option maxRecDepth 100000
set_option maxHeartbeats 4000000
set_option linter.unusedVariables false
section
open Go.RowKit
theorem HT (ln:bK) (ri:eK) (e:List Int) (tms:List TM) (e_A:OA) (e_C:Nat) (tb:List Nat) (t_A:OA) (t_C:Nat) (fs:List FM) (bs:List FM) (fb:List Nat) (f_A:OA) (f_C:Nat) (bb:List Nat) (b_A:OA) (b_C gw:Nat) (b g1 g2:Nat) (mf:FM) (mb:FM) (hb:b<e.length) (hw:Hh (cK ln ri e tms)) (htb:tb.length=tms.length) (hfw:xw (cK ln ri e tms) fs) (hfb:fb.length=fs.length) (hbw:ua (cK ln ri e tms) bs) (hbb:bb.length=bs.length) (hsg:ri.aj.n≤1000) (hm1:fs[b]? =some mf) (hm2:bs[b+1]? =some mb):
 Ej Tryz.prog 203 [] [(vP g1),(vP g2)] [(rd e_A e.length 1 (e.map iC)),(rd t_A tms.length 1 (List.zipWith gJ tms tb)),(e7 (aU rh tms tb)),(rd f_A fs.length 1 (List.zipWith gJ fs fb)),(e7 (aU nM fs fb)),(rd b_A bs.length 1 (List.zipWith gJ bs bb)),(e7 (aU nM bs bb)),(bZ gw 270 (ck.cells (ck.mk ln ri (aM.mk e_A e.length e_C) (aM.mk t_A tms.length t_C) (aM.mk f_A fs.length f_C) (aM.mk b_A bs.length b_C)))),(bZ g1 259 [(vP gw)]),(bZ g2 3 [(vI (b:Int))])] ([]:List (Int×aa)) (fun ys x ys'=> ∃ q,q∈pK (cK ln ri e tms) b mf mb∧x=OT q∧ys'=ys++[q]) (fun ys=> ∀ q∈pK (cK ln ri e tms) b mf mb,q∈ys):=by
 have A7:e.length≤6:=hw.n
 have A8:tms.length=e.length:=hw.times
 have Az:fs.length=e.length+1:=hfw.len
 have Ay:bs.length=e.length+1:=hbw.len
 refine sX kr Tryz.func203 U U fun l J Z A0 w0 Q hY Ae Ad hQ hN=>?_
 try dsimp only
 refine WS fun _ Af=>uy U U fun b2=>RK Af<|WS fun _ Ag=>rP 2 [0,1] (mr 10 U (mr 11 U I)) ?_
 refine cX (um gw b) (aL) U fun y4 A9=>?_
 obtain ⟨AX,AY⟩:=y4
 try dsimp only
 refine RK Ag<|aw<|ky 4 U (by exact fun _ h=>h)<|ky 6 U (by exact fun _ h=>h)<|ky 8 U (by exact fun _ h=>h)<|ky 14 U (by exact fun _ h=>h) ?_
 refine nz (L0:=[(0,(Value.func (.yield l) #[] #[])),(1,(vP g1)),(2,(vP g2)),(3,(vP b2))]) (F:=[(rd e_A e.length 1 (e.map iC)).ro,(rd t_A tms.length 1 (List.zipWith gJ tms tb)).ro,(e7 (aU rh tms tb)).ro,(bZ gw 270 (ck.cells (ck.mk ln ri (aM.mk e_A e.length e_C) (aM.mk t_A tms.length t_C) (aM.mk f_A fs.length f_C) (aM.mk b_A bs.length b_C)))).ro,(bZ AX 259 [(vP gw)]),(bZ AY 3 [(vI (b:Int))])]) (fun k (y:(List (Int×aa))×av)=>(lu (cK ln ri e tms) b mf mb k y.1)∧(J y.1 y.2)∧(Fo A0 w0 y.2)) (fun k y=>[(bZ b2 273 [(Value.func (.yield l) #[] #[])]),y.2,(rd e_A e.length 1 (e.map iC)).ro,(rd t_A tms.length 1 (List.zipWith gJ tms tb)).ro,(e7 (aU rh tms tb)).ro,(rd f_A fs.length 1 (List.zipWith gJ fs fb)).ro,(e7 (aU nM fs fb)).ro,(rd b_A bs.length 1 (List.zipWith gJ bs bb)).ro,(e7 (aU nM bs bb)).ro,(bZ gw 270 (ck.cells (ck.mk ln ri (aM.mk e_A e.length e_C) (aM.mk t_A tms.length t_C) (aM.mk f_A fs.length f_C) (aM.mk b_A bs.length b_C)))).ro,(bZ g1 259 [(vP gw)]).ro,(bZ g2 3 [(vI (b:Int))]).ro]) (fun c (z:av)=>(c= .ret∧(Z z)∧(Fo A0 w0 z))) (fun _ z=>[(bZ b2 273 [(Value.func (.yield l) #[] #[])]),z,(rd e_A e.length 1 (e.map iC)).ro,(rd t_A tms.length 1 (List.zipWith gJ tms tb)).ro,(e7 (aU rh tms tb)).ro,(rd f_A fs.length 1 (List.zipWith gJ fs fb)).ro,(e7 (aU nM fs fb)).ro,(rd b_A bs.length 1 (List.zipWith gJ bs bb)).ro,(e7 (aU nM bs bb)).ro,(bZ gw 270 (ck.cells (ck.mk ln ri (aM.mk e_A e.length e_C) (aM.mk t_A tms.length t_C) (aM.mk f_A fs.length f_C) (aM.mk b_A bs.length b_C)))).ro,(bZ g1 259 [(vP gw)]).ro,(bZ g2 3 [(vI (b:Int))]).ro]) [6,7,8,9,10,11,12,13,14,15,16,17] [3,2,1,0,4,5] (([]:List (Int×aa)),A0) rfl rfl (se ln ri e tms e_A e_C tb t_A t_C f_A fs.length f_C b_A bs.length b_C gw b AX AY om om) rfl rfl rfl (by exact ⟨lu.nil,Ae,Ad⟩) (by simp only [List.forall_mem_cons,List.not_mem_nil,false_imp_iff,implies_true,and_true]; exact ⟨⟨_,aX (i:=0) rfl,(dI (bU _))⟩,⟨_,aX (i:=1) rfl,(dI (bU _))⟩,⟨_,aX (i:=2) rfl,(dI (bU _))⟩,⟨_,aX (i:=3) rfl,(dI (bU _))⟩,⟨_,aX (i:=4) rfl,(bU _)⟩,⟨_,aX (i:=5) rfl,(bU _)⟩⟩) (by rintro k x k2 ⟨o,_,rfl,_⟩; rfl) rfl (aQ rfl) ?_ ?_ ?_ ?_
 rotate_left 1
 ·rintro BA k ⟨ys,A⟩ AS AC
  obtain ⟨X,Y,a⟩:=AC
  try dsimp only at X Y a
  try dsimp only
  refine aD ?_
  refine hN _ _ _ (ou 0 U U<|gW (vs:=[]) trivial fun w hs=>KS 8 U (by exact lu.fin X AS) Y a hs)
 ·rintro BB id A AV
  simp at AV
 ·rintro BC A AW
  obtain ⟨hc,Ak,Al⟩:=AW
  try dsimp only
  refine hQ _ _ _ (ou 0 U U<|gW (vs:=[]) trivial fun w hs=>rI 8 U Ak Al hs)
 rintro k x k2 ⟨ys,A⟩ lr ra rb S w1 K8 Qr9 Am hx AB Ah AP At AZ
 obtain ⟨o,ho,rfl,rfl⟩:=hx
 obtain ⟨X,Y,a⟩:=AB
 try dsimp only at X Y a
 try dsimp only
 refine WS fun _ AG=>rP 1 [] I ?_
 refine RK AG<|an<|AL U dg fun Au=>fR U cu U<|aH<|jg (fun _ _ h=>h) (aK [1,0,2,3,4,5,6,7,8,9,10,11,12,13])<|aT (Ah _ _ ?_)
 refine aw<|al fun _ AH=>dF cD 7 kr<|mI 1 [] (mr 12 U I) U<|dS (SX (bQ U U) U U)<|dP 3 [0,1] (mr 11 U (mr 13 U I)) ?_
 obtain ⟨ga,s⟩:=aO fb b om
 have AT:(List.zipWith gJ fs fb)[b]? =some (gJ mf ga):=dZ hm1 s
 refine dS (IA b U (aG 7 U) nQ dc om om)<|dS (gF b 0 (Value.map (some ga)) U cq (aG 7 U) AT U dc U)<|cO<|iI (kV:=ep) (m:=bM iV mf) 8 U U oW U ⟨⟨(gZ ep ga (bM iV mf)),(cj hm1 s (by simp [nM])),U⟩,fun h=>h⟩ (show jc _ (gZ ep ga (bM iV mf)).holds from dy 8 U (cj hm1 s (by simp [nM]))) U fun Ap=>?_
 try dsimp only
 refine RK AH<|aw ?_
 have C:(∀ p∈mf,p∈mf)∧(nH (cK ln ri e tms) b mf mb o mf ys)∧(lu (cK ln ri e tms) b mf mb k ys)∧(J ys A)∧(Fo A0 w0 A):=by exact ⟨fun p hp=>hp,nH.start,X,Y,a⟩
 refine bO (ι:={z:FM×(List (Int×aa))×av // (∀ p∈z.1,p∈mf)∧(nH (cK ln ri e tms) b mf mb o z.1 z.2.1)∧(lu (cK ln ri e tms) b mf mb k z.2.1)∧(J z.2.1 z.2.2)∧(Fo A0 w0 z.2.2)}) [0,1,2,3,4,5,23] [1,2,3,5,6,7,8,9,10,11,12,13,14] U U (fun z=>[]) (fun z=>[(yd ep Ap ga (bM iV mf) (bM iV z.1.1) none),z.1.2.2]) (fun _=>rfl) (fun _=>rfl) (fun z=>z.1.1.length) ⟨(mf,ys,A),C⟩ (dx.nil _) (aK [1,2,3,5,6,7,8,9,10,11,12,13,14,0,4]) ?_
 clear C
 rintro ⟨⟨left,ys,A⟩,⟨K,M,N,O,P⟩⟩ J15 AF
 try dsimp only at K M N O P
 try dsimp only
 refine WS fun _ j=>g8 oZ.inj (f:=iV) 13 U U U U (fun Ab=>?_) (fun t v hm hn=>?_)
 ·refine rP 1 [] I ?_
  refine RK j<|al fun _ Ar=>aV U<|bB<|ae<|ae<|ax<|aD ?_
  exact AP (ys,A) _ _ (by exact ⟨lu.next N M Ab,O,P⟩) (aK [0,2,14,3,4,5,6,7,8,9,10,11,12])
 try dsimp only
 refine bg 1 U<|RK j<|al fun _ AI=>aP U<|WK AI<|aw<|WS fun _ AJ=>rS (SX (g7 13 U U U) U U)<|bg 2 U<|AL U tO fun Av=>fR U ru U<|bg 1 U<|RK AJ<|al fun _ AK=>dF cD 8 kr<|mI 1 [] (mr 12 U I) U<|dS (SX (bQ U U) U U)<|dP 4 [0,1] (mr 11 U (mr 13 U I)) ?_
 obtain ⟨gb,AA⟩:=aO bb (b+1) om
 have AU:(List.zipWith gJ bs bb)[(b+1)]? =some (gJ mb gb):=dZ hm2 AA
 refine dS (IA (b+1) U (aG 9 U) nQ dc om om)<|dS (gF (b+1) 0 (Value.map (some gb)) U cq (aG 9 U) AU U dc U)<|cO<|iI (kV:=ep) (m:=bM iV mb) 10 U U oW U ⟨⟨(gZ ep gb (bM iV mb)),(cj hm2 AA (by simp [nM])),U⟩,fun h=>h⟩ (show jc _ (gZ ep gb (bM iV mb)).holds from dy 10 U (cj hm2 AA (by simp [nM]))) U fun Aq=>?_
 try dsimp only
 refine RK AK<|aw ?_
 have C:(∀ p∈mb,p∈mb)∧(nx (cK ln ri e tms) b mb o (t,v) mb ys)∧(nH (cK ln ri e tms) b mf mb o left ys)∧(lu (cK ln ri e tms) b mf mb k ys)∧(J ys A)∧(Fo A0 w0 A):=by exact ⟨fun p hp=>hp,nx.start,M,N,O,P⟩
 refine bO (ι:={z:FM×(List (Int×aa))×av // (∀ p∈z.1,p∈mb)∧(nx (cK ln ri e tms) b mb o (t,v) z.1 z.2.1)∧(nH (cK ln ri e tms) b mf mb o left z.2.1)∧(lu (cK ln ri e tms) b mf mb k z.2.1)∧(J z.2.1 z.2.2)∧(Fo A0 w0 z.2.2)}) [0,1,2,3,4,5,6,7,23,37] [1,2,3,4,5,6,7,8,9,10,11,12,13,14,15] U U (fun z=>[]) (fun z=>[(yd ep Aq gb (bM iV mb) (bM iV z.1.1) none),z.1.2.2]) (fun _=>rfl) (fun _=>rfl) (fun z=>z.1.1.length) ⟨(mb,ys,A),C⟩ (dx.nil _) (aK [1,2,3,4,5,6,7,8,9,10,11,12,13,14,15,0,16]) ?_
 clear C
 rintro ⟨⟨l2,T,A2⟩,⟨B,D,E,G,H,Aa⟩⟩ J23 V
 try dsimp only at B D E G H Aa
 try dsimp only
 refine WS fun _ r=>g8 oZ.inj (f:=iV) 15 U U U U (fun Ac=>?_) (fun u z L AD=>?_)
 ·refine rP 1 [] I ?_
  refine RK r<|al fun _ As=>aV U<|bB<|ae<|ae<|ax<|aD<|fm 14 U dA U ?_
  refine aT (AF ⟨((cd left t),T,A2),⟨mj K,nH.next hn hm E D Ac,G,H,Aa⟩⟩ _ _ _ U (cW hm) (aQ U) (aK [1,2,3,4,5,6,7,8,9,10,11,12,13,14,16]))
 try dsimp only
 refine bg 1 U<|RK r<|al fun _ AM=>aP U<|WK AM<|aw<|WS fun _ AN=>rS (SX (g7 15 U U U) U U)<|bg 2 U<|AL U tO fun Aw=>fR U ru U<|rP 1 [] I ?_
 refine RK AN<|al fun _ AO=>dR cD [17,18] [] [] [0,1,2,3,4,5,6,7,8,9,10,11,12,13,14,15,16,17] [] U U U U U<|eS U (MV U)<|eS U (Ts 13 U cq U)<|eS U (SX (bQ U U) U U)<|eS U (FA 10 U fD U)<|eS U (H0 (vS e_A e.length e_C) 12 U cq U U)<|eS U (Ts 14 U cq U) ?_
 obtain ⟨y,hy⟩:=aO e b om
 have An:=bP iC hy
 refine eS U (IA b U (aG 5 U) cy dc om om)<|eS U (gF b 0 (vI y) U cq (aG 5 U) An U dc U) ?_
 have A1:=hw.least y (aX hy)
 have Aj:=J0 hw _ _ (hfw.mem hm1 (K _ hm))
 have Ai:=Lq hw (hbw.mem hm2 (B _ L))
 have A3:=ur o.1
 have A4:=hw.opt ho
 dsimp only at Aj Ai
 refine eS U (BI U (ik ⟨om,om⟩))<|eS U (FA 0 U fD U)<|eS U (L1 (vI o.2.Lo) 3 U cq U U)<|eS U (MX U)<|eS U (MV U)<|eS U (FA 1 U fD U)<|eS U (L1 (vI o.2.Hi) 3 U cq U U)<|eS U (MN U)<|eS U (SX (bj (xs:=[(0,.tmp 54),(1,.tmp 58)]) (cs:=(aa.cells (aa.mk (max (v+y) o.2.Lo) (min z o.2.Hi)))) U U (bh gl U)) U U)<|e8 U<|cp U fun T30 AQ=>AL U dg fun Ax=>aH (AQ _ _ (aK [1,2,3,4,5,6,7,8,9,10,11,12,13,14,15,16,17,18]) ?_)
 refine cp U fun T32 AR=>fR U cu U<|aH (AR _ _ (aK [1,2,3,4,5,6,7,8,9,10,11,12,13,14,15,16,17,18]) ?_)
 refine fM U<|KK AO<|al fun _ R=>dF cD 19 kr<|dP 6 [] (mc 0 U I) ?_
 refine jk (t:=65) U (aR fun d=>?_) (aS fun d=>?_)
 ·refine lz 3 U<|lz 10 U<|cO<|rP 3 [] I ?_
  refine RK R<|aV U<|bY<|aD<|fm 17 U dA U ?_
  refine aT (V ⟨((cd l2 u),T,A2),⟨mj B,nx.skip AD L D (by exact G4 hy d),E,G,H,Aa⟩⟩ _ _ _ U (cW L) (aQ U) (aK [2,3,4,5,6,7,8,9,10,11,12,13,14,15,16,17,18]))
 refine dP 3 [0,1,2] (mr 14 U (mc 2 U (mc 1 U I))) ?_
 have A6:(0≤(du t u).right∧(du t u).right≤1000)∧0≤(du t u).eU∧(du t u).eU≤1000:=by simp only [du]; omega
 have A5:(0≤(du (du t u) (fp o.1)).right∧(du (du t u) (fp o.1)).right≤1000)∧0≤(du (du t u) (fp o.1)).eU∧(du (du t u) (fp o.1)).eU≤1000:=by simp only [du]; omega
 refine dS (CL (vY t u om om) (aL) U)<|lz 1 U<|dS (CL (Jc o.1) (aL) U)<|dS (CL (vY (du t u) (fp o.1) asm om) (aL) U)<|dS (CL (OR ln ri e tms e_A e_C tb t_A t_C fs bs fb f_A f_C bb b_A b_C gw (du (du t u) (fp o.1)) asm hsg) (bp [6,7,8,9,10,11,12,13]) U)<|dP 2 [] I ?_
 refine jk (t:=75) U (fun g=>?_) (fun g=>?_)
 ·refine lz 3 U<|cO<|rP 3 [] I ?_
  refine RK R<|aV U<|bY<|aD<|fm 17 U dA U ?_
  refine aT (V ⟨((cd l2 u),T,A2),⟨mj B,nx.skip AD L D (by exact Gf g),E,G,H,Aa⟩⟩ _ _ _ U (cW L) (aQ U) (aK [2,3,4,5,6,7,8,9,10,11,12,13,14,15,16,17,18]))
 refine dP 3 [0,1] (mc 5 U (mc 0 U I)) ?_
 refine cO<|kB (k:=T) (k':=(T++[(o.1,(aa.mk (max (v+y) o.2.Lo) (min z o.2.Hi)))])) 18 (by first|exact Am|exact Nat.le_refl _) hY H Aa U U U (by exact ⟨(o.1,_),hE.2 ⟨o,ho,(t,v),K _ hm,(u,z),B _ L,(CO hy d g)⟩,U,U⟩) U U (fun B34 W AE=>?_) (fun B34 W AE=>?_)
 rotate_left 1
 ·refine rP 2 [] I ?_
  refine RK R<|aP U<|ar ?_
  exact AZ B34 _ _ (by exact ⟨U,W,AE⟩) (aK [3,5,18,6,7,8,9,10,11,12,13,14,15])
 refine rP 2 [] I ?_
 refine RK R<|aV U<|bY<|aD<|fm 17 U dA U ?_
 refine aT (V ⟨((cd l2 u),(T++[(o.1,(aa.mk (max (v+y) o.2.Lo) (min z o.2.Hi)))]),B34),⟨mj B,nx.TX AD L D (CO hy d g),E.app,G.app,W,AE⟩⟩ _ _ _ U (cW L) (aQ U) (aK [2,3,4,5,6,7,8,9,10,11,12,13,14,15,16,17,18]))
end
section
open Go.RowKit
theorem Gv (ln:bK) (ri:eK) (e:List Int) (tms:List TM) (e_A:OA) (e_C:Nat) (tb:List Nat) (t_A:OA) (t_C:Nat) (fs:List FM) (bs:List FM) (fb:List Nat) (f_A:OA) (f_C:Nat) (bb:List Nat) (b_A:OA) (b_C gw:Nat) (hw:Hh (cK ln ri e tms)) (hsg:ri.aj.n≤1000) (hn:ln.ag.n=e.length) (hfw:xw (cK ln ri e tms) fs) (hfb:fb.length=fs.length):
 lv Tryz.prog 202 [(vP gw)] [(rd e_A e.length 1 (e.map iC)),(rd t_A tms.length 1 (List.zipWith gJ tms tb)),(e7 (aU rh tms tb)),(rd f_A fs.length 1 (List.zipWith gJ fs fb)),(e7 (aU nM fs fb)),(rd b_A bs.length 1 (List.zipWith gJ bs bb)),(e7 (aU nM bs bb)),(bZ gw 270 (ck.cells (ck.mk ln ri (aM.mk e_A e.length e_C) (aM.mk t_A tms.length t_C) (aM.mk f_A fs.length f_C) (aM.mk b_A bs.length b_C))))] (fun (x:(OA)×Nat)=>(vS x.1 ((jD (cK ln ri e tms)).length) x.2)) (fun (x:(OA)×Nat)=>True) (fun (x:(OA)×Nat)=>[(own x.1 x.2 3 1 ((jD (cK ln ri e tms)).map iC))]):=by
 have y:e.length≤6:=hw.n
 have u:fs.length=e.length+1:=hfw.len
 refine dp kr Tryz.func202 U U fun w0 Q hQ hN=>?_
 try dsimp only
 refine WS fun _ X=>bg 1 U<|RK X<|WS fun _ Y=>bg 1 U<|RK Y<|al fun _ Z=>WS fun _ b=>bg 1 U<|rS (SX (bQ U U) U U)<|rP 6 [] (mr 7 U I) ?_
 refine RK b<|aw<|fX 3 1 ?_
 have A:(0≤e.length+1):=by exact Nat.zero_le _
 refine bO (ι:={z:Nat×(OA)×Nat // (z.1≤e.length+1)}) [0,12] [1,2,3,4,5,6,7,8] U U (fun z=>[(3,(vS z.1.2.1 ((kf (cK ln ri e tms) z.1.1).length) z.1.2.2)),(13,(vI (z.1.1:Int)))]) (fun z=>[(own z.1.2.1 z.1.2.2 3 1 ((kf (cK ln ri e tms) z.1.1).map iC))]) (fun _=>rfl) (fun _=>rfl) (fun z=>e.length+1-z.1.1) ⟨(0,none,0),A⟩ (aQ U) (aK [1,2,3,4,5,6,7,8,0]) ?_
 clear A
 rintro ⟨⟨n,a,c⟩,G⟩ J5 AB
 try dsimp only at G
 try dsimp only
 refine WS fun _ d=>rP 1 [] I ?_
 refine RK d<|al fun _ g=>bR U (aR fun s=>?_) (aS fun s=>?_)
 ·refine bB<|ae<|ae<|ax<|KK Z<|WS fun _ P=>?_
  rw [show kf (cK ln ri e tms) n=jD (cK ln ri e tms) by (obtain rfl:n=e.length+1:=by omega); rfl]
  refine rP 2 [] I ?_
  refine RK P<|ar<|LX hQ (a,c) [8] [] I U U U U ?_
  trivial
 refine WK g<|al fun _ R=>aw<|WS fun _ J=>bg 2 U<|RK J<|WS fun _ K=>bg 1 U<|rS (SX (bQ U U) U U)<|rP 3 [] (mr 7 U I) ?_
 obtain ⟨m,B⟩:=aO fs n om
 obtain ⟨ma,hm0a⟩:=aO fb n om
 have hm0m:(List.zipWith gJ fs fb)[n]? =some (gJ m ma):=dZ B hm0a
 refine rS (IA n U (aG 3 U) nQ dc om om)<|rS (gF n 0 (Value.map (some ma)) U cq (aG 3 U) hm0m U dc U)<|iI (kV:=ep) (m:=bM iV m) 4 U U oW U ⟨⟨(gZ ep ma (bM iV m)),(cj B hm0a (by simp [nM])),U⟩,fun h=>h⟩ (show jc _ (gZ ep ma (bM iV m)).holds from dy 4 U (cj B hm0a (by simp [nM]))) U fun l=>?_
 try dsimp only
 refine RK K<|aw ?_
 have A:(∀ p∈m,p∈m)∧(∀ p∈m,p∈m∨kq (cK ln ri e tms) p.1=false):=by exact ⟨fun p hp=>hp,fun p hp=> .inl hp⟩
 refine bO (ι:={z:FM // (∀ p∈z,p∈m)∧(∀ p∈m,p∈z∨kq (cK ln ri e tms) p.1=false)}) [0,3,4,12,13,23] [1,2,3,4,5,6,7,8,9] U U (fun z=>[]) (fun z=>[(yd ep l ma (bM iV m) (bM iV z.1) none)]) (fun _=>rfl) (fun _=>rfl) (fun z=>z.1.length) ⟨m,A⟩ (dx.nil _) (aK [1,2,3,4,5,6,7,8,9,0]) ?_
 clear A
 rintro ⟨left,⟨C,D⟩⟩ J13 H
 try dsimp only
 refine WS fun _ F=>g8 oZ.inj (f:=iV) 9 U U U U (fun W=>?_) (fun t v hm i=>?_)
 ·refine bg 1 U<|RK F<|al fun _ o=>aV U<|bB<|ae<|ae<|ax<|aD<|KK R<|an<|rP 2 [] I ?_
  refine aH ?_
  rw [← GI (w:=(cK ln ri e tms)) (k:=n) ((CW (hfw.min _ _ B) (hfw.keys _ _ B)).symm.trans (Iy D W))]
  have S:(vI (((n+1):Nat):Int))=(vI ((n:Int)+1)):=by exact cI om
  refine aT (AB ⟨((n+1),a,c),(by first|omega|(simp only []; omega))⟩ _ _ _ U os (cN 3<|bk U S<|dx.nil _) (aK [0,1,2,3,4,5,6,7,8]))
 try dsimp only
 refine bg 1 U<|RK F<|al fun _ L=>aP U<|WK L<|aw<|WS fun _ M=>rS (SX (g7 9 U U U) U U)<|bg 1 U<|AL U tO fun q=>fR U ru U<|RK M<|WS fun _ N=>rP 2 [] (mc 0 U I) ?_
 have j:=J0 hw _ _ (hfw.mem B (C _ hm))
 dsimp only at j
 refine rS (CL (OR ln ri e tms e_A e_C tb t_A t_C fs bs fb f_A f_C bb b_A b_C gw t om hsg) (bp [1,2,3,4,5,6,7,8]) U)<|RK N<|bR U (fun E=>?_) (fun E=>?_)
 ·refine bY<|aD<|fm 10 U dA U ?_
  refine aT (H ⟨(cd left t),⟨mj C,Ii i hm D (by first|exact E|simpa using E)⟩⟩ _ _ _ U (cW hm) (aQ U) (aK [1,2,3,4,5,6,7,8,9,10]))
 refine WS fun _ O=>rP 2 [] I ?_
 refine cU (xs:=[.tmp 32]) (cs:=[(vI (n:Int))]) U cy jd U U U U (by simp [Value.cells]) U U fun r=>?_
 have hy:jm (cK ln ri e tms) (fwd (cK ln ri e tms) n)=true:=(CW (hfw.min _ _ B) (hfw.keys _ _ B)).symm.trans (Oe (C _ hm) E)
 refine c_ (es2:=(List.map iC (kf (cK ln ri e tms) (n+1)))) (m':=(kf (cK ln ri e tms) (n+1)).length) 10 U U U pE U U sm (aY (es:=List.map iC [(n:Int)]) 0 U U (by simp [bJ]) U) (jT _) (by have:=x9 (w:=(cK ln ri e tms)) (k:=n); first|omega|(simp; omega)) (by have:=x9 (w:=(cK ln ri e tms)) (k:=n); simp only [maxLen]; omega) (by rw [DR hy]; simp) sm U fun AA V=>?_
 try dsimp only
 refine bg 1 U<|RK O<|bB<|iw U<|ae<|ax<|aD<|KK R<|an<|rP 2 [] I ?_
 refine aH ?_
 have T:(vI (((n+1):Nat):Int))=(vI ((n:Int)+1)):=by exact cI om
 refine aT (AB ⟨((n+1),AA,V),(by first|omega|(simp only []; omega))⟩ _ _ _ U os (cN 3<|bk U T<|dx.nil _) (aK [2,3,4,5,6,7,8,9,10]))
end
section
open Go.RowKit
theorem JC (ln:bK) (ri:eK) (e:List Int) (tms:List TM) (e_A:OA) (e_C:Nat) (tb:List Nat) (t_A:OA) (t_C gw:Nat) (hw:Hh (cK ln ri e tms)) (hn:ln.ag.n=e.length) (htb:tb.length=tms.length):
 De Tryz.prog 201 [(vP gw)] [(rd e_A e.length 1 (e.map iC)),(rd t_A tms.length 1 (List.zipWith gJ tms tb)),(e7 (aU rh tms tb))] (bZ gw 270 (ck.cells (ck.mk ln ri (aM.mk e_A e.length e_C) (aM.mk t_A tms.length t_C) (aM.mk none 0 0) (aM.mk none 0 0)))) (fun (x:(List FM)×(List Nat)×(OA)×Nat×(List FM)×(List Nat)×(OA)×Nat)=>(vT [])) (fun (x:(List FM)×(List Nat)×(OA)×Nat×(List FM)×(List Nat)×(OA)×Nat)=>xw (cK ln ri e tms) x.1∧ua (cK ln ri e tms) x.2.2.2.2.1∧x.2.1.length=x.1.length∧x.2.2.2.2.2.1.length=x.2.2.2.2.1.length) (fun (x:(List FM)×(List Nat)×(OA)×Nat×(List FM)×(List Nat)×(OA)×Nat)=>(bo [(bZ gw 270 (ck.cells (ck.mk ln ri (aM.mk e_A e.length e_C) (aM.mk t_A tms.length t_C) (aM.mk x.2.2.1 x.1.length x.2.2.2.1) (aM.mk x.2.2.2.2.2.2.1 x.2.2.2.2.1.length x.2.2.2.2.2.2.2)))),(own x.2.2.1 x.2.2.2.1 274 1 (List.zipWith gJ x.1 x.2.1)),(bo (aU nM x.1 x.2.1)),(own x.2.2.2.2.2.2.1 x.2.2.2.2.2.2.2 274 1 (List.zipWith gJ x.2.2.2.2.1 x.2.2.2.2.2.1)),(bo (aU nM x.2.2.2.2.1 x.2.2.2.2.2.1))])):=by
 have Cg:e.length≤6:=hw.n
 have Ch:tms.length=e.length:=hw.times
 refine mE kr Tryz.func201 U U fun w0 Q hQ hN=>?_
 try dsimp only
 refine WS fun _ Ac=>uy U U fun W=>RK Ac<|WS fun _ Af=>fE 1 [] (mc 0 U I) U<|rS (SX (bQ U U) U U)<|rP 5 [] (mc 1 U I) ?_
 refine RK Af ?_
 refine mN (ι:={z:(OA)×(OA) // True}) [0,1,2] [0,2,3,4] U U (fun z=>[]) (fun z=>[(own z.1.1 (ln.ag.n+1) 274 1 (List.map oC (List.replicate (ln.ag.n+1) (none:Option Nat)))),(own z.1.2 (ln.ag.n+1) 274 1 (List.map oC (List.replicate (ln.ag.n+1) (none:Option Nat)))),(bZ gw 270 (ck.cells (ck.mk ln ri (aM.mk e_A e.length e_C) (aM.mk t_A tms.length t_C) (aM.mk z.1.1 (ln.ag.n+1) (ln.ag.n+1)) (aM.mk z.1.2 (ln.ag.n+1) (ln.ag.n+1)))))]) (fun _=>rfl) (fun _=>rfl) ?_ fun K4 Ag=>?_
 ·rintro ⟨⟨fA,bA⟩,_⟩
  try dsimp only
  refine BQ 6 U U fun wz Sz hz=>?_
  have Cd:(List.replicate (ln.ag.n+1) (none:Option Nat)).length=(ln.ag.n+1):=List.length_replicate
  try dsimp only
  refine mN (ι:={z:Nat // True}) [0,1,2] [0,1,2,3,4,6] U U (fun z=>[]) (fun z=>[(bo (aU nM [[((aC.mk 0 0),ri.Start)]] [z.1])),(own fA (ln.ag.n+1) 274 1 (List.map oC (eB [z.1] (ln.ag.n+1))))]) (fun _=>rfl) (fun _=>rfl) ?_ fun K5 B9=>?_
  ·rintro ⟨ga,_⟩
   try dsimp only
   refine al fun _ Ah=>WS fun _ Ai=>rP 2 [] I ?_
   refine RK Ai<|aw<|ox ?_
   have C:(0≤ln.ag.n)∧(([[((aC.mk 0 0),ri.Start)]]).length=0+1)∧(([ga]).length=0+1)∧(pO (cK ln ri e tms) ([[((aC.mk 0 0),ri.Start)]])):=by exact ⟨Nat.zero_le _,rfl,rfl,pO.first⟩
   refine vG (ι:={z:Nat×(List FM)×(List Nat)×(List Nat) // (z.1≤ln.ag.n)∧(z.2.1.length=z.1+1)∧(z.2.2.1.length=z.1+1)∧(pO (cK ln ri e tms) z.2.1)}) (fun z=>z.1.2.2.2.map lq) (fun z=>[(0,(vP gw)),(1,(vP W)),(2,(vI (ln.ag.n:Int))),(52,(vI (ln.ag.n:Int))),(53,(vI (z.1.1:Int)))]) (fun z=>[(bo (z.1.2.2.2.map lS)),(bZ gw 270 (ck.cells (ck.mk ln ri (aM.mk e_A e.length e_C) (aM.mk t_A tms.length t_C) (aM.mk fA (ln.ag.n+1) (ln.ag.n+1)) (aM.mk bA (ln.ag.n+1) (ln.ag.n+1))))).ro,(bZ W 259 [(vP gw)]),(rd e_A e.length 1 (e.map iC)).ro,(rd t_A tms.length 1 (List.zipWith gJ tms tb)).ro,(e7 (aU rh tms tb)).ro,(own bA (ln.ag.n+1) 274 1 (List.map oC (List.replicate (ln.ag.n+1) (none:Option Nat)))),(bo (aU nM z.1.2.1 z.1.2.2.1)),(own fA (ln.ag.n+1) 274 1 (List.map oC (eB z.1.2.2.1 (ln.ag.n+1))))]) (fun z=>ln.ag.n-z.1.1) ⟨(0,[[((aC.mk 0 0),ri.Start)]],[ga],([]:List Nat)),C⟩ U (aQ U) (aK [0,1,2,3,4,5,6,7,8]) ?_
   clear C
   rintro ⟨⟨b,fs,fb,B3⟩,⟨Ax,AK,Ay,M⟩⟩ J8 B8
   try dsimp only at Ax AK Ay M
   try dsimp only
   have Ce:(eB fb (ln.ag.n+1)).length=(ln.ag.n+1):=qU om
   refine WS fun _ Aj=>rP 1 [] I ?_
   refine RK Aj<|al fun _ AB=>cM U (aS fun B6=>?_) (aR fun B6=>?_)
   ·refine WK AB<|al fun _ BB=>aw<|WS fun _ BC=>rP 1 [] I ?_
    refine AL U jd fun s=>Hz U BF U U<|RK BC<|al fun _ BD=>dR cD [6,8] [6] [0] [0,1,2,3,4,5,6,7,8] [0,1,2,3,4,5,6,7,8,9] U U U U U<|eS U (Dl 3 U cq U)<|eS U (SX (bQ U U) U U)<|eS U (FA 12 U fD U)<|eS U (H0 (vS fA (ln.ag.n+1) (ln.ag.n+1)) 2 U cq U U)<|eS U (Dl 0 U cq U)<|eS U (BI U (ik ⟨om,om⟩)) ?_
    obtain ⟨CK,B0⟩:=aO (eB fb (ln.ag.n+1)) (b+1) om
    have hx17m:(List.map oC (eB fb (ln.ag.n+1)))[(b+1)]? =some (oC CK):=by rw [fB,B0]; rfl
    refine fS U (IA (b+1) U (ak (n:=(ln.ag.n+1)) 9 U sq) nQ dc om om) ?_
    refine e8 U<|iz U fun T18 Bg=>mz (kV:=ep) U U fun B=>?_
    try dsimp only
    refine aH (Bg _ _ (aK [1,2,3,4,5,6,7,8,9]) (aK [1,2,3,4,5,6,7,8,9,10]) ?_)
    refine cp U fun T20 Bi=>?_
    have Br:((eB fb (ln.ag.n+1)).set (b+1) (some B))=(eB (fb++[B]) (ln.ag.n+1)):=by exact tQ om om
    refine eG (k:=(b+1)) (o:=0) (vs:=[(Value.map (some B))]) (es':=(List.map oC (eB (fb++[B]) (ln.ag.n+1)))) (C':=[_,_,_,_,_,_,_,_,_,_,(own fA (ln.ag.n+1) 274 1 (List.map oC (eB (fb++[B]) (ln.ag.n+1))))]) 10 U U U I3 U U U U hx17m U dc (by exact (List.map_set (f:=oC) (l:=(eB fb (ln.ag.n+1))) (i:=(b+1)) (a:=(some B))).symm.trans (congrArg _ Br)) U<|aH (Bi _ _ (aK [1,2,3,4,5,6,7,8,9]) ?_)
    refine fM U<|KK BD<|al fun _ BE=>?_
    have CC:(eB (fb++[B]) (ln.ag.n+1)).length=(ln.ag.n+1):=qU (by simp; omega)
    obtain ⟨mb,N⟩:=aO fs b om
    obtain ⟨ga,Z⟩:=aO fb b om
    refine Ff 9 N Z U U U ?_
    try dsimp only
    refine dF cD 7 kr<|mI 1 [] (mc 6 U I) U<|dS (SX (bQ U U) U U)<|dP 3 [0,1] (mr 5 U (mc 3 U I)) ?_
    have Bv:(List.map oC (eB (fb++[B]) (ln.ag.n+1)))[b]? =some (oC (some ga)):=rr (oO (IG Z))
    refine dS (IA b U (ak (n:=(ln.ag.n+1)) 11 U sq) nQ dc om om) ?_
    refine dS (gF b 0 (Value.map (some ga)) U cq (ak (n:=(eB (fb++[B]) (ln.ag.n+1)).length) 11 U sm) Bv U dc U)<|cO<|uz 0 U U oW U U fun AS=>?_
    try dsimp only
    refine RK BE<|aw ?_
    have C:(∀ p∈mb,p∈mb)∧(xb (cK ln ri e tms) b ([]:FM))∧(j3 (cK ln ri e tms) b mb ([]:FM) mb):=by exact ⟨fun p hp=>hp,xb.start,j3.start⟩
    refine vG (ι:={z:FM×FM×(List Nat) // (∀ p∈z.1,p∈mb)∧(xb (cK ln ri e tms) b z.2.1)∧(j3 (cK ln ri e tms) b mb z.2.1 z.1)}) (fun z=>z.1.2.2.map lq) (fun z=>[(0,(vP gw)),(1,(vP W)),(2,(vI (ln.ag.n:Int))),(3,(vP s)),(52,(vI (ln.ag.n:Int))),(53,(vI (b:Int))),(71,(vP AS))]) (fun z=>[(zf ep AS ga (bM iV mb) (bM iV z.1.1) none),(bo (fz nM fs fb b)),(gZ ep B (bM iV z.1.2.1)),(bZ s 3 [(vI (b:Int))]),(bo (z.1.2.2.map lS)),(bZ gw 270 (ck.cells (ck.mk ln ri (aM.mk e_A e.length e_C) (aM.mk t_A tms.length t_C) (aM.mk fA (ln.ag.n+1) (ln.ag.n+1)) (aM.mk bA (ln.ag.n+1) (ln.ag.n+1))))).ro,(bZ W 259 [(vP gw)]),(rd e_A e.length 1 (e.map iC)).ro,(rd t_A tms.length 1 (List.zipWith gJ tms tb)).ro,(e7 (aU rh tms tb)).ro,(own bA (ln.ag.n+1) 274 1 (List.map oC (List.replicate (ln.ag.n+1) (none:Option Nat)))),(own fA (ln.ag.n+1) 274 1 (List.map oC (eB (fb++[B]) (ln.ag.n+1))))]) (fun z=>z.1.1.length) ⟨(mb,([]:FM),B3),C⟩ U (aQ U) (aK [0,1,2,3,4,5,6,7,8,9,10,11]) ?_
    clear C
    rintro ⟨⟨left,m,AM⟩,⟨c,d,g⟩⟩ J26 A_
    try dsimp only at c d g
    try dsimp only
    refine WS fun _ AV=>rU oZ.inj (f:=iV) 0 U U U U (fun B7=>?_) (fun t v hm Az=>?_)
    ·refine bg 1 U<|RK AV<|al fun _ CU=>aV U<|bB<|ae<|ae<|ax<|aD<|KK BB<|an<|rP 2 [] I ?_
     refine aH<|KC (C':=[(gZ ep ga (bM iV mb)),(bo (fz nM fs fb b)),(gZ ep B (bM iV m)),(bZ s 3 [(vI (b:Int))]),(bo (AM.map lS)),(bZ gw 270 (ck.cells (ck.mk ln ri (aM.mk e_A e.length e_C) (aM.mk t_A tms.length t_C) (aM.mk fA (ln.ag.n+1) (ln.ag.n+1)) (aM.mk bA (ln.ag.n+1) (ln.ag.n+1))))).ro,(bZ W 259 [(vP gw)]),(rd e_A e.length 1 (e.map iC)).ro,(rd t_A tms.length 1 (List.zipWith gJ tms tb)).ro,(e7 (aU rh tms tb)).ro,(own bA (ln.ag.n+1) 274 1 (List.map oC (List.replicate (ln.ag.n+1) (none:Option Nat)))),(own fA (ln.ag.n+1) 274 1 (List.map oC (eB (fb++[B]) (ln.ag.n+1))))]) 0 U KD U<|IS 1 0 N Z U U U ?_
     try dsimp only
     refine BV (X':=aU nM (fs++[m]) (fb++[B])) 0 1 U U (zk om U) ?_
     try dsimp only
     have Bs:(vI (((b+1):Nat):Int))=(vI ((b:Int)+1)):=by exact cI om
     refine aT (B8 ⟨((b+1),(fs++[m]),(fb++[B]),AM),⟨om,by simp; omega,by simp; omega,M.add AK N d g B7⟩⟩ _ _ _ U os (cN 4<|bk U Bs<|dx.nil _) (aK [2,3,4,5,6,7,8,0,9]))
    try dsimp only
    refine bg 1 U<|RK AV<|al fun _ BG=>aP U<|WK BG<|aw<|WS fun _ BH=>rS (SX (r_ 0 U U U) U U)<|bg 2 U<|AL U tO fun A2=>AL U jd fun A3=>tP U ru U<|Hz U BF U U<|RK BH<|WS fun _ BJ=>rP 2 [0,1] (mc 8 U (mc 5 U I)) ?_
    refine cX (um gw b) (aL) U fun CP CX=>?_
    obtain ⟨AY,Aa⟩:=CP
    try dsimp only
    refine RK BJ<|aw<|ky 11 U (by exact fun _ h=>h)<|ky 13 U (by exact fun _ h=>h)<|ky 15 U (by exact fun _ h=>h)<|ky 12 U (by exact fun _ h=>h) ?_
    refine nz (L0:=[(0,(vP gw)),(1,(vP W)),(2,(vI (ln.ag.n:Int))),(3,(vP s)),(4,(vP A2)),(5,(vP A3)),(52,(vI (ln.ag.n:Int))),(53,(vI (b:Int))),(71,(vP AS))]) (F:=[(rd e_A e.length 1 (e.map iC)).ro,(rd t_A tms.length 1 (List.zipWith gJ tms tb)).ro,(e7 (aU rh tms tb)).ro,(bZ gw 270 (ck.cells (ck.mk ln ri (aM.mk e_A e.length e_C) (aM.mk t_A tms.length t_C) (aM.mk fA (ln.ag.n+1) (ln.ag.n+1)) (aM.mk bA (ln.ag.n+1) (ln.ag.n+1))))).ro,(bZ AY 259 [(vP gw)]),(bZ Aa 3 [(vI (b:Int))])]) (fun k (y:FM)=>(m0 (cK ln ri e tms) b mb left y (t,v) k)) (fun k y=>[(bZ A3 3 [(vI v)]),(bZ A2 276 (aC.cells t)),(zf ep AS ga (bM iV mb) (bM iV (cd left t)) (some (t,(vI v)))),(bo (fz nM fs fb b)),(gZ ep B (bM iV y)),(bZ s 3 [(vI (b:Int))]),(bo (AM.map lS)),(bZ gw 270 (ck.cells (ck.mk ln ri (aM.mk e_A e.length e_C) (aM.mk t_A tms.length t_C) (aM.mk fA (ln.ag.n+1) (ln.ag.n+1)) (aM.mk bA (ln.ag.n+1) (ln.ag.n+1))))).ro,(bZ W 259 [(vP gw)]),(rd e_A e.length 1 (e.map iC)).ro,(rd t_A tms.length 1 (List.zipWith gJ tms tb)).ro,(e7 (aU rh tms tb)).ro,(own bA (ln.ag.n+1) 274 1 (List.map oC (List.replicate (ln.ag.n+1) (none:Option Nat)))),(own fA (ln.ag.n+1) 274 1 (List.map oC (eB (fb++[B]) (ln.ag.n+1))))]) (fun _ (_:Unit)=>False) (fun _ _=>[]) [6,7,8,9,10,11,12,13,14,15,16,17,18,19] [3,2,1,0,4,5] m rfl rfl (se ln ri e tms e_A e_C tb t_A t_C fA (ln.ag.n+1) (ln.ag.n+1) bA (ln.ag.n+1) (ln.ag.n+1) gw b AY Aa om om) rfl rfl rfl (by exact m0.start d g) (by simp only [List.forall_mem_cons,List.not_mem_nil,false_imp_iff,implies_true,and_true]; exact ⟨⟨_,aX (i:=0) rfl,(dI (bU _))⟩,⟨_,aX (i:=1) rfl,(dI (bU _))⟩,⟨_,aX (i:=2) rfl,(dI (bU _))⟩,⟨_,aX (i:=3) rfl,(dI (bU _))⟩,⟨_,aX (i:=4) rfl,(bU _)⟩,⟨_,aX (i:=5) rfl,(bU _)⟩⟩) (by rintro k x k2 ⟨o,_,rfl,_⟩; rfl) rfl (aQ rfl) ?_ ?_ (fun _ _ _ h=>h.elim) (fun _ _ h=>h.elim)
    rotate_left 1
    ·rintro CJ k O AJ Ar
     have D:=Ar
     try dsimp only
     refine aD<|aD<|I5 (X:=AM.map lS) 13 0 U U ?_
     try dsimp only
     refine fm 9 U wV U ?_
     refine aT (A_ ⟨((cd left t),O,(CJ::AM)),⟨mj c,D.on,D.next Az hm AJ⟩⟩ _ _ _ U (cW hm) (aQ U) (aK [9,10,11,12,0,4,14,1,2,3,18,19]))
    rintro k x k2 O l ra rb S w1 K39 Qr40 CG hx Aq BK H CN CR
    obtain ⟨o,ho,rfl,rfl⟩:=hx
    have D:=Aq
    try dsimp only
    refine WS fun _ BL=>rP 1 [] I ?_
    refine RK BL<|an<|AL U dg fun CZ=>fR U cu U<|aH<|jg (fun _ _ h=>h) (aK [1,0,2,3,4,5,6,7,8,9,10,11,12,13,14,15])<|aT (BK _ _ ?_)
    refine aw<|al fun _ BM=>dR cD [16,18] [] [] [0,1,2,3,4,5,6,7,8,9,10,11,12,13,14,15] [] U U U U U<|eS U (Dl 2 U cq U)<|eS U (Dl 10 U cq U)<|eS U (SX (bQ U U) U U)<|eS U (FA 10 U fD U)<|eS U (H0 (vS e_A e.length e_C) 9 U cq U U)<|eS U (Dl 7 U cq U) ?_
    obtain ⟨y,hy⟩:=aO e b om
    have A0:=bP iC hy
    refine eS U (IA b U (aG 11 U) cy dc om om)<|eS U (gF b 0 (vI y) U cq (aG 11 U) A0 U dc U) ?_
    have CB:=hw.least y (aX hy)
    have hp:=M.mem N (c _ hm)
    have CA:=J0 hw _ _ hp
    have CE:=ur o.1
    have CF:=hw.opt ho
    have Cf:=hw.now
    dsimp only at CA
    refine eS U (BI U (ik ⟨om,om⟩))<|eS U (FA 0 U fD U)<|eS U (L1 (vI o.2.Lo) 1 U cq U U)<|eS U (MX U)<|eS U (LW 3 U cq U U)<|eS U (MV U)<|eS U (CL (Jc o.1) (aL) U)<|eS U (CL (vY t (fp o.1) om om) (aL) U)<|eS U (AG U)<|e8 U<|cp U fun T45 Bj=>AL U tO fun Ca=>aH (Bj _ _ (aK [1,2,3,4,5,6,7,8,9,10,11,12,13,14,15,16]) ?_)
    refine cp U fun T47 Bk=>fR U ru U<|aH (Bk _ _ (aK [1,2,3,4,5,6,7,8,9,10,11,12,13,14,15,16]) ?_)
    refine fM U<|KK BM<|al fun _ BN=>dF cD 15 kr<|mI 1 [] (mc 11 U I) U<|dS (SX (bQ U U) U U)<|dP 4 [0,1] (mr 10 U (mc 8 U I)) ?_
    have Bw:(List.map oC (eB (fb++[B]) (ln.ag.n+1)))[(b+1)]? =some (oC (some B)):=rr (oO (z8 om))
    refine dS (IA (b+1) U (ak (n:=(ln.ag.n+1)) 16 U sq) nQ dc om om) ?_
    refine dS (gF (b+1) 0 (Value.map (some B)) U cq (ak (n:=(eB (fb++[B]) (ln.ag.n+1)).length) 16 U sm) Bw U dc U)<|mI 1 [] (mc 0 U I) U<|dS (SX (jZ (kV:=ep) (x:=(du t (fp o.1))) (l:=O) (f:=iV) (z:=0) U U U oW oZ Vi (by exact aG 7 U)) U U)<|lz 5 U<|cO<|RK BN<|al fun _ AC=>dF cD 19 kr<|mI 4 [0,1] (mc 2 U (mc 11 U I)) U<|dS (SX (bQ U U) U U)<|mI 3 [] (mr 10 U I) U<|dS (MN U)<|dP 2 [] I ?_
    refine jk (t:=121) U (aR fun P=>?_) (aS fun P=>?_)
    ·refine dP 8 [] I ?_
     refine cO<|RK AC<|aV U<|bY<|aD ?_
     exact H O _ _ (by exact D.skip (JJ hy P)) (aK [1,3,4,5,6,7,8,9,10,11,12,13,14,15,16])
    refine dP 3 [] I ?_
    refine iS (t:=124) U (fun R=>?_) (fun R=>?_)
    ·rw [Bool.not_eq_true'] at R
     refine lz 5 U<|cO<|RK AC<|aP U<|dF cD 10 kr<|mI 1 [] (mc 11 U I) U<|dS (SX (bQ U U) U U)<|dP 4 [0,1] (mr 10 U (mc 8 U I)) ?_
     have Bx:(List.map oC (eB (fb++[B]) (ln.ag.n+1)))[(b+1)]? =some (oC (some B)):=rr (oO (z8 om))
     refine dS (IA (b+1) U (ak (n:=(ln.ag.n+1)) 16 U sq) nQ dc om om) ?_
     refine dS (gF (b+1) 0 (Value.map (some B)) U cq (ak (n:=(eB (fb++[B]) (ln.ag.n+1)).length) 16 U sm) Bx U dc U)<|dP 2 [] (mc 0 U I) ?_
     refine cO<|iu (kV:=ep) (x:=(du t (fp o.1))) (C':=[_,_,_,_,_,_,_,(gZ ep B (bM iV (dK O (du t (fp o.1)) (max (v+y) o.2.Lo)))),_,_,_,_,_,_,_,_,_]) 7 U U U U oW oZ U (gE _ _ _ _).symm U<|aH<|aD ?_
     exact H (dK O (du t (fp o.1)) (max (v+y) o.2.Lo)) _ _ (by exact D.set hp ho (AH hy P) (.inl (by simpa using R))) (aK [1,3,4,5,6,7,8,9,10,11,12,13,14,15,16])
    rw [Bool.not_eq_false'] at R
    refine dP 5 [] I ?_
    refine cO<|RK AC<|bR U (aR fun u=>?_) (aS fun u=>?_)
    ·refine bY<|aD ?_
     exact H O _ _ (by exact D.oi (AH hy P) (by simpa using R) u) (aK [1,3,4,5,6,7,8,9,10,11,12,13,14,15,16])
    refine dF cD 10 kr<|mI 1 [] (mc 11 U I) U<|dS (SX (bQ U U) U U)<|dP 4 [0,1] (mr 10 U (mc 8 U I)) ?_
    have By:(List.map oC (eB (fb++[B]) (ln.ag.n+1)))[(b+1)]? =some (oC (some B)):=rr (oO (z8 om))
    refine dS (IA (b+1) U (ak (n:=(ln.ag.n+1)) 16 U sq) nQ dc om om) ?_
    refine dS (gF (b+1) 0 (Value.map (some B)) U cq (ak (n:=(eB (fb++[B]) (ln.ag.n+1)).length) 16 U sm) By U dc U)<|dP 2 [] (mc 0 U I) ?_
    refine cO<|iu (kV:=ep) (x:=(du t (fp o.1))) (C':=[_,_,_,_,_,_,_,(gZ ep B (bM iV (dK O (du t (fp o.1)) (max (v+y) o.2.Lo)))),_,_,_,_,_,_,_,_,_]) 7 U U U U oW oZ U (gE _ _ _ _).symm U<|aH<|aD ?_
    exact H (dK O (du t (fp o.1)) (max (v+y) o.2.Lo)) _ _ (by exact D.set hp ho (AH hy P) (.inr u)) (aK [1,3,4,5,6,7,8,9,10,11,12,13,14,15,16])
   refine bB<|ae<|ae<|ax<|KK Ah<|WS fun _ AD=>rP 1 [] I ?_
   refine AL U jd fun B4=>Hz U BF U U<|RK AD<|aw ?_
   rw [GZ]
   refine ox ?_
   have C:(0≤ln.ag.n+1)∧(([]:List FM).length=0)∧(([]:List Nat).length=0)∧(g0 (cK ln ri e tms) (ln.ag.n+1-0) ([]:List FM)):=by exact ⟨Nat.zero_le _,rfl,rfl,g0.none_⟩
   refine vG (ι:={z:Nat×(List FM)×(List Nat)×Nat×(List Nat) // (z.1≤ln.ag.n+1)∧(z.2.1.length=z.1)∧(z.2.2.1.length=z.1)∧(g0 (cK ln ri e tms) (ln.ag.n+1-z.1) z.2.1)}) (fun z=>z.1.2.2.2.2.map lq) (fun z=>[(0,(vP gw)),(1,(vP W)),(2,(vI (ln.ag.n:Int))),(12,(Value.pointer (some ⟨z.1.2.2.2.1,0,none⟩)))]) (fun z=>[(bo (aU nM z.1.2.1 z.1.2.2.1)),(bZ z.1.2.2.2.1 3 [(vI ((ln.ag.n:Int)-(z.1.1:Int)))]),(bo (z.1.2.2.2.2.map lS)),(bZ gw 270 (ck.cells (ck.mk ln ri (aM.mk e_A e.length e_C) (aM.mk t_A tms.length t_C) (aM.mk fA (ln.ag.n+1) (ln.ag.n+1)) (aM.mk bA (ln.ag.n+1) (ln.ag.n+1))))).ro,(bZ W 259 [(vP gw)]),(rd e_A e.length 1 (e.map iC)).ro,(rd t_A tms.length 1 (List.zipWith gJ tms tb)).ro,(e7 (aU rh tms tb)).ro,(own bA (ln.ag.n+1) 274 1 (List.map oC (gX z.1.2.2.1 (ln.ag.n+1)))),(bo (aU nM fs fb)),(own fA (ln.ag.n+1) 274 1 (List.map oC (eB fb (ln.ag.n+1))))]) (fun z=>ln.ag.n+1-z.1.1) ⟨(0,([]:List FM),([]:List Nat),B4,B3),C⟩ U (aQ U) (aK [0,1,2,3,4,5,6,7,8,9,10]) ?_
   clear C
   rintro ⟨⟨j,bs,bb,gq,q⟩,⟨AP,AQ,AR,E⟩⟩ J57 AU
   try dsimp only at AP AQ AR E
   try dsimp only
   refine al fun _ AE=>WS fun _ AF=>rP 2 [] (mc 1 U I) ?_
   refine RK AF<|bR U (aR fun A7=>?_) (aS fun A7=>?_)
   ·refine bB<|ae<|ae<|ax ?_
    rw [show (List.map oC (eB fb (ln.ag.n+1)))=(List.zipWith gJ fs fb) from by rw [yH om]; exact (zY om).symm]
    rw [show (List.map oC (gX bb (ln.ag.n+1)))=(List.zipWith gJ bs bb) from by rw [Ha om]; exact (zY om).symm]
    refine Am (C1:=[(own fA (ln.ag.n+1) 274 1 (List.zipWith gJ fs fb)),(bo (aU nM fs fb)),(own bA (ln.ag.n+1) 274 1 (List.zipWith gJ bs bb)),(bo (aU nM bs bb)),(bo (q.map lS))]) hz [10,9,8,0,2] U U (by simp only [fI,List.all_nil,LC,Mt,Bool.and_true]; rfl) ?_
    rw [show (bZ gw 270 (ck.cells (ck.mk ln ri (aM.mk e_A e.length e_C) (aM.mk t_A tms.length t_C) (aM.mk fA (ln.ag.n+1) (ln.ag.n+1)) (aM.mk bA (ln.ag.n+1) (ln.ag.n+1)))))=(bZ gw 270 (ck.cells (ck.mk ln ri (aM.mk e_A e.length e_C) (aM.mk t_A tms.length t_C) (aM.mk fA fs.length (ln.ag.n+1)) (aM.mk bA bs.length (ln.ag.n+1))))) from by rw [show fs.length=(ln.ag.n+1) from by omega,show bs.length=(ln.ag.n+1) from by omega]]
    refine PS [(bZ gw 270 (ck.cells (ck.mk ln ri (aM.mk e_A e.length e_C) (aM.mk t_A tms.length t_C) (aM.mk fA fs.length (ln.ag.n+1)) (aM.mk bA bs.length (ln.ag.n+1))))),(own fA (ln.ag.n+1) 274 1 (List.zipWith gJ fs fb)),(bo (aU nM fs fb)),(own bA (ln.ag.n+1) 274 1 (List.zipWith gJ bs bb)),(bo (aU nM bs bb))] [(bo (q.map lS))] ?_
    refine hN _ _ _ (Kb 1 U U<|gW (vs:=[]) trivial fun w hs=>SL (fs,fb,fA,(ln.ag.n+1),bs,bb,bA,(ln.ag.n+1)) 0 ?_ ?_ U (by show List.all _ _=true; simp only [fI,List.all_nil,LC,Bool.and_true]; rfl) hs)
    ·clear hs w hQ hN AF AE AD AB Aj Ai Ah Af Ac; rfl
    ·clear hs w hQ hN AF AE AD AB Aj Ai Ah Af Ac; exact ⟨M.ok (by show fs.length=e.length+1; omega),g0.ok (by have:=E; rwa [show ln.ag.n+1-j=0 by omega] at this) (by show bs.length=e.length+1; omega),dso,dso⟩
   refine WK AE<|al fun _ AW=>aw<|al fun _ BO=>?_
   obtain ⟨b,Cc⟩: ∃ b:Nat,b+j=ln.ag.n:=⟨ln.ag.n-j,om⟩
   rw [show (ln.ag.n:Int)-(j:Int)=(b:Int) from by omega]
   have CW:(gX bb (ln.ag.n+1)).length=(ln.ag.n+1):=zy om
   refine dR cD [5,12,13,15] [11] [0,1,2] [0,1,2,3,4,5,6,7,9,10] [0,1,2,3,4,5,6,7,8,9,10] U U U U U<|eS U (Dl 4 U cq U)<|eS U (SX (bQ U U) U U)<|eS U (FA 13 U fD U)<|eS U (H0 (vS bA (ln.ag.n+1) (ln.ag.n+1)) 3 U cq U U)<|eS U (Dl 1 U cq U)<|eS U (SX (bj (xs:=[]) (cs:=(aC.cells (aC.mk 0 0))) U U (bh Bb U)) U U)<|eS U (Dl 4 U cq U)<|eS U (SX (bQ U U) U U)<|eS U (FA 7 U fD U)<|eS U (FA 8 U fD U)<|eS U (H0 (vI ri.gh) 3 U cq U U) ?_
   obtain ⟨CM,B1⟩:=aO (gX bb (ln.ag.n+1)) b om
   have hx63m:(List.map oC (gX bb (ln.ag.n+1)))[b]? =some (oC CM):=by rw [fB,B1]; rfl
   refine fS U (IA b U (ak (n:=(ln.ag.n+1)) 8 U sq) nQ dc om om) ?_
   refine e8 U<|iz U fun T64 Bl=>mz (kV:=ep) U U fun A=>?_
   try dsimp only
   refine aH (Bl _ _ (aK [1,2,3,4,5,6,7,8,10,11]) (aK [1,2,3,4,5,6,7,8,9,10,11]) ?_)
   refine iz U fun T66 Bm=>?_
   have Bt:(dK ([]:List (aC×Int)) (aC.mk 0 0) ri.gh)=[((aC.mk 0 0),ri.gh)]:=by rfl
   refine yD (kV:=ep) (x:=(aC.mk 0 0)) (C':=[(gZ ep A (bM iV ([((aC.mk 0 0),ri.gh)]))),_,_,_,_,_,_,_,_,_,_,_]) 0 U U U U oW oZ U ((gE _ _ _ _).symm.trans (congrArg _ Bt)) U<|aH (Bm _ _ (aK [1,2,3,4,5,6,7,8,10,11]) (aK [1,2,3,4,5,6,7,8,9,10,11]) ?_)
   refine iz U fun T68 Bn=>rS (MV U)<|aH (Bn _ _ (aK [1,2,3,4,5,6,7,8,10,11]) (aK [1,2,3,4,5,6,7,8,9,10,11]) ?_)
   refine cp U fun T69 Bo=>?_
   have Bu:((gX bb (ln.ag.n+1)).set b (some A))=(gX (A::bb) (ln.ag.n+1)):=by exact HB om
   refine eG (k:=b) (o:=0) (vs:=[(Value.map (some A))]) (es':=(List.map oC (gX (A::bb) (ln.ag.n+1)))) (C':=[_,_,_,_,_,_,_,_,_,(own bA (ln.ag.n+1) 274 1 (List.map oC (gX (A::bb) (ln.ag.n+1)))),_,_]) 9 U U U I3 U U U U hx63m U dc (by exact (List.map_set (f:=oC) (l:=(gX bb (ln.ag.n+1))) (i:=b) (a:=(some A))).symm.trans (congrArg _ Bu)) U<|aH (Bo _ _ (aK [1,2,3,4,5,6,7,8,10,11]) ?_)
   refine fM U<|KK BO<|al fun _ BP=>WS fun _ BR=>rP 3 [] (mc 2 U I) ?_
   refine RK BR<|cM U (aS fun A8=>?_) (aR fun A8=>?_)
   ·refine bB<|ae<|ax<|KK AW<|al fun _ BS=>WS fun _ BT=>fE 1 [] (mc 2 U I) U<|RK BT<|an<|AL U jd fun B5=>Hz U BF U U<|RK BS<|an<|rP 2 [] (mc 0 U I) ?_
    refine Hz U BF U U<|aH ?_
    rw [show (b:Int)-1=(ln.ag.n:Int)-(((j+1):Nat):Int) from by omega]
    refine ze (ms:=bs) (m:=[((aC.mk 0 0),ri.gh)]) (a:=A) 2 1 U U U ?_
    try dsimp only
    refine aT (AU ⟨((j+1),([((aC.mk 0 0),ri.gh)]::bs),(A::bb),B5,q),⟨om,by simp; omega,by simp; omega,by exact g0.end_ (b:=b) E om om (by show e.length≤b; omega)⟩⟩ _ _ _ U os (aQ U) (aK [0,1,3,4,5,6,7,8,9,10,11]))
   refine WK BP<|al fun _ BU=>?_
   have CD:(gX (A::bb) (ln.ag.n+1)).length=(ln.ag.n+1):=zy (by simp; omega)
   obtain ⟨mb,N⟩:=aO bs 0 om
   obtain ⟨ga,Z⟩:=aO bb 0 om
   refine Ff 1 N Z U U U ?_
   try dsimp only
   refine dF cD 8 kr<|mI 1 [] (mc 6 U I) U<|dS (SX (bQ U U) U U)<|dP 4 [0,1] (mr 5 U (mc 3 U I)) ?_
   have Bz:(List.map oC (gX (A::bb) (ln.ag.n+1)))[(b+1)]? =some (oC (some ga)):=rr (sW (i:=1) (by simpa using Z) (by simp; omega))
   refine dS (IA (b+1) U (ak (n:=(ln.ag.n+1)) 10 U sq) nQ dc om om) ?_
   refine dS (gF (b+1) 0 (Value.map (some ga)) U cq (ak (n:=(gX (A::bb) (ln.ag.n+1)).length) 10 U sm) Bz U dc U)<|cO<|uz 0 U U oW U U fun AT=>?_
   try dsimp only
   refine RK BU<|aw ?_
   have C:(∀ p∈mb,p∈mb)∧(vz (cK ln ri e tms) b ([((aC.mk 0 0),ri.gh)]))∧(jA (cK ln ri e tms) b mb ([((aC.mk 0 0),ri.gh)]) mb):=by exact ⟨fun p hp=>hp,vz.start (by show b<e.length; omega),jA.start⟩
   refine vG (ι:={z:FM×FM×(List Nat) // (∀ p∈z.1,p∈mb)∧(vz (cK ln ri e tms) b z.2.1)∧(jA (cK ln ri e tms) b mb z.2.1 z.1)}) (fun z=>z.1.2.2.map lq) (fun z=>[(0,(vP gw)),(1,(vP W)),(2,(vI (ln.ag.n:Int))),(12,(vP gq)),(171,(vP AT))]) (fun z=>[(zf ep AT ga (bM iV mb) (bM iV z.1.1) none),(bo (fz nM bs bb 0)),(gZ ep A (bM iV z.1.2.1)),(bZ gq 3 [(vI (b:Int))]),(bo (z.1.2.2.map lS)),(bZ gw 270 (ck.cells (ck.mk ln ri (aM.mk e_A e.length e_C) (aM.mk t_A tms.length t_C) (aM.mk fA (ln.ag.n+1) (ln.ag.n+1)) (aM.mk bA (ln.ag.n+1) (ln.ag.n+1))))).ro,(bZ W 259 [(vP gw)]),(rd e_A e.length 1 (e.map iC)).ro,(rd t_A tms.length 1 (List.zipWith gJ tms tb)).ro,(e7 (aU rh tms tb)).ro,(own bA (ln.ag.n+1) 274 1 (List.map oC (gX (A::bb) (ln.ag.n+1)))),(bo (aU nM fs fb)),(own fA (ln.ag.n+1) 274 1 (List.map oC (eB fb (ln.ag.n+1))))]) (fun z=>z.1.1.length) ⟨(mb,[((aC.mk 0 0),ri.gh)],q),C⟩ U (aQ U) (aK [0,1,2,3,4,5,6,7,8,9,10,11,12]) ?_
   clear C
   rintro ⟨⟨left,m,V⟩,⟨J,K,L⟩⟩ J80 BA
   try dsimp only at J K L
   try dsimp only
   refine WS fun _ AX=>rU oZ.inj (f:=iV) 0 U U U U (fun A9=>?_) (fun t v hm Az=>?_)
   ·refine bg 1 U<|RK AX<|al fun _ CV=>aV U<|bB<|ae<|ae<|ax<|aD<|KK AW<|al fun _ BW=>WS fun _ BX=>fE 1 [] (mc 3 U I) U<|RK BX<|an<|AL U jd fun A4=>Hz U BF U U<|RK BW<|an<|rP 2 [] (mc 0 U I) ?_
    refine Hz U BF U U<|aH<|KC (C':=[(bZ A4 3 [(vI ((b:Int)-1))]),(gZ ep ga (bM iV mb)),(bo (fz nM bs bb 0)),(gZ ep A (bM iV m)),(bZ gq 3 [(vI (b:Int))]),(bo (V.map lS)),(bZ gw 270 (ck.cells (ck.mk ln ri (aM.mk e_A e.length e_C) (aM.mk t_A tms.length t_C) (aM.mk fA (ln.ag.n+1) (ln.ag.n+1)) (aM.mk bA (ln.ag.n+1) (ln.ag.n+1))))).ro,(bZ W 259 [(vP gw)]),(rd e_A e.length 1 (e.map iC)).ro,(rd t_A tms.length 1 (List.zipWith gJ tms tb)).ro,(e7 (aU rh tms tb)).ro,(own bA (ln.ag.n+1) 274 1 (List.map oC (gX (A::bb) (ln.ag.n+1)))),(bo (aU nM fs fb)),(own fA (ln.ag.n+1) 274 1 (List.map oC (eB fb (ln.ag.n+1))))]) 1 U KD U<|IS 2 1 N Z U U U ?_
    try dsimp only
    rw [show (b:Int)-1=(ln.ag.n:Int)-(((j+1):Nat):Int) from by omega]
    refine ze (ms:=bs) (m:=m) (a:=A) 0 2 U U U ?_
    try dsimp only
    refine aT (AU ⟨((j+1),(m::bs),(A::bb),A4,V),⟨om,by simp; omega,by simp; omega,by exact g0.more (b:=b) E om om (by show b<e.length; omega) N K L A9⟩⟩ _ _ _ U os (aQ U) (aK [0,1,3,4,5,6,7,8,9,10,11]))
   try dsimp only
   refine bg 1 U<|RK AX<|al fun _ BY=>aP U<|WK BY<|aw<|WS fun _ BZ=>rS (SX (r_ 0 U U U) U U)<|bg 2 U<|AL U tO fun A5=>AL U jd fun A6=>tP U ru U<|Hz U BF U U<|RK BZ<|WS fun _ Ba=>rP 2 [0,1] (mc 8 U (mc 5 U I)) ?_
   refine cX (um gw b) (aL) U fun CQ CY=>?_
   obtain ⟨AZ,Ab⟩:=CQ
   try dsimp only
   refine RK Ba<|aw<|ky 11 U (by exact fun _ h=>h)<|ky 13 U (by exact fun _ h=>h)<|ky 15 U (by exact fun _ h=>h)<|ky 12 U (by exact fun _ h=>h) ?_
   refine nz (L0:=[(0,(vP gw)),(1,(vP W)),(2,(vI (ln.ag.n:Int))),(12,(vP gq)),(13,(vP A5)),(14,(vP A6)),(171,(vP AT))]) (F:=[(rd e_A e.length 1 (e.map iC)).ro,(rd t_A tms.length 1 (List.zipWith gJ tms tb)).ro,(e7 (aU rh tms tb)).ro,(bZ gw 270 (ck.cells (ck.mk ln ri (aM.mk e_A e.length e_C) (aM.mk t_A tms.length t_C) (aM.mk fA (ln.ag.n+1) (ln.ag.n+1)) (aM.mk bA (ln.ag.n+1) (ln.ag.n+1))))).ro,(bZ AZ 259 [(vP gw)]),(bZ Ab 3 [(vI (b:Int))])]) (fun k (y:FM)=>(ny (cK ln ri e tms) b mb left y (t,v) k)) (fun k y=>[(bZ A6 3 [(vI v)]),(bZ A5 276 (aC.cells t)),(zf ep AT ga (bM iV mb) (bM iV (cd left t)) (some (t,(vI v)))),(bo (fz nM bs bb 0)),(gZ ep A (bM iV y)),(bZ gq 3 [(vI (b:Int))]),(bo (V.map lS)),(bZ gw 270 (ck.cells (ck.mk ln ri (aM.mk e_A e.length e_C) (aM.mk t_A tms.length t_C) (aM.mk fA (ln.ag.n+1) (ln.ag.n+1)) (aM.mk bA (ln.ag.n+1) (ln.ag.n+1))))).ro,(bZ W 259 [(vP gw)]),(rd e_A e.length 1 (e.map iC)).ro,(rd t_A tms.length 1 (List.zipWith gJ tms tb)).ro,(e7 (aU rh tms tb)).ro,(own bA (ln.ag.n+1) 274 1 (List.map oC (gX (A::bb) (ln.ag.n+1)))),(bo (aU nM fs fb)),(own fA (ln.ag.n+1) 274 1 (List.map oC (eB fb (ln.ag.n+1))))]) (fun _ (_:Unit)=>False) (fun _ _=>[]) [6,7,8,9,10,11,12,13,14,15,16,17,18,19,20] [3,2,1,0,4,5] m rfl rfl (se ln ri e tms e_A e_C tb t_A t_C fA (ln.ag.n+1) (ln.ag.n+1) bA (ln.ag.n+1) (ln.ag.n+1) gw b AZ Ab om om) rfl rfl rfl (by exact ny.start K L) (by simp only [List.forall_mem_cons,List.not_mem_nil,false_imp_iff,implies_true,and_true]; exact ⟨⟨_,aX (i:=0) rfl,(dI (bU _))⟩,⟨_,aX (i:=1) rfl,(dI (bU _))⟩,⟨_,aX (i:=2) rfl,(dI (bU _))⟩,⟨_,aX (i:=3) rfl,(dI (bU _))⟩,⟨_,aX (i:=4) rfl,(bU _)⟩,⟨_,aX (i:=5) rfl,(bU _)⟩⟩) (by rintro k x k2 ⟨o,_,rfl,_⟩; rfl) rfl (aQ rfl) ?_ ?_ (fun _ _ _ h=>h.elim) (fun _ _ h=>h.elim)
   rotate_left 1
   ·rintro B2 k O AJ AO
    have D:=AO
    try dsimp only
    refine aD<|aD<|I5 (X:=V.map lS) 13 0 U U ?_
    try dsimp only
    refine fm 9 U wV U ?_
    refine aT (BA ⟨((cd left t),O,(B2::V)),⟨mj J,D.on,D.next Az hm AJ⟩⟩ _ _ _ U (cW hm) (aQ U) (aK [9,10,11,12,0,4,14,1,2,3,18,19,20]))
   rintro k x k2 O l ra rb S w1 K95 Qr96 CG hx As Bc A1 CO CS
   obtain ⟨o,ho,rfl,rfl⟩:=hx
   have D:=As
   try dsimp only
   refine WS fun _ Bd=>rP 1 [] I ?_
   refine RK Bd<|an<|AL U dg fun Cb=>fR U cu U<|aH<|jg (fun _ _ h=>h) (aK [1,0,2,3,4,5,6,7,8,9,10,11,12,13,14,15,16])<|aT (Bc _ _ ?_)
   refine aw<|al fun _ Ad=>dR cD [16,18] [] [] [0,1,2,3,4,5,6,7,8,9,10,11,12,13,14,15,16] [] U U U U U<|eS U (Dl 2 U cq U)<|eS U (FA 1 U fD U)<|eS U (L1 (vI o.2.Hi) 1 U cq U U) ?_
   have hp:=E.Ul (b:=b) om N (J _ hm)
   have B_:=Lq hw hp
   have CE:=ur o.1
   have CF:=hw.opt ho
   dsimp only at B_
   refine eS U (MN U)<|eS U (Dl 10 U cq U)<|eS U (SX (bQ U U) U U)<|eS U (FA 10 U fD U)<|eS U (H0 (vS e_A e.length e_C) 9 U cq U U)<|eS U (Dl 7 U cq U) ?_
   obtain ⟨y,hy⟩:=aO e b om
   have A0:=bP iC hy
   refine eS U (IA b U (aG 11 U) cy dc om om)<|eS U (gF b 0 (vI y) U cq (aG 11 U) A0 U dc U) ?_
   have CB:=hw.least y (aX hy)
   refine eS U (BI U (rJ ⟨om,om⟩))<|eS U (LW 3 U cq U U)<|eS U (MV U)<|eS U (CL (Jc o.1) (aL) U)<|eS U (CL (vY t (fp o.1) om om) (aL) U)<|eS U (AG U)<|e8 U<|cp U fun T101 Ak=>AL U tO fun CT=>aH (Ak _ _ (aK [1,2,3,4,5,6,7,8,9,10,11,12,13,14,15,16,17]) ?_)
   refine cp U fun T103 Al=>fR U ru U<|aH (Al _ _ (aK [1,2,3,4,5,6,7,8,9,10,11,12,13,14,15,16,17]) ?_)
   refine fM U<|KK Ad<|al fun _ Ae=>dF cD 14 kr<|mI 1 [] (mc 11 U I) U<|dS (SX (bQ U U) U U)<|dP 3 [0,1] (mr 10 U (mc 8 U I)) ?_
   have At:(List.map oC (gX (A::bb) (ln.ag.n+1)))[b]? =some (oC (some A)):=rr (sW (i:=0) rfl (by simp; omega))
   refine dS (IA b U (ak (n:=(ln.ag.n+1)) 15 U sq) nQ dc om om) ?_
   refine dS (gF b 0 (Value.map (some A)) U cq (ak (n:=(gX (A::bb) (ln.ag.n+1)).length) 15 U sm) At U dc U)<|mI 1 [] (mc 0 U I) U<|dS (SX (jZ (kV:=ep) (x:=(du t (fp o.1))) (l:=O) (f:=iV) (z:=0) U U U oW oZ Vi (by exact aG 7 U)) U U)<|lz 5 U<|cO<|RK Ae<|WS fun _ Y=>fE 3 [0,1] (mc 3 U (mc 2 U I)) U<|rS (MN U)<|rP 4 [] (mc 2 U I) ?_
   refine cb (t:=217) U (aR fun T=>?_) (aS fun T=>?_)
   ·refine rP 8 [] I ?_
    refine RK Y<|aV U<|bY<|aD ?_
    exact A1 O _ _ (by exact D.skip (Nu T)) (aK [1,3,4,5,6,7,8,9,10,11,12,13,14,15,16,17])
   refine rP 3 [] I ?_
   refine db (t:=220) U (fun AN=>?_) (fun AN=>?_)
   ·rw [Bool.not_eq_true'] at AN
    refine bg 5 U<|RK Y<|aP U<|dF cD 9 kr<|mI 1 [] (mc 11 U I) U<|dS (SX (bQ U U) U U)<|dP 3 [0,1] (mr 10 U (mc 8 U I)) ?_
    have Au:(List.map oC (gX (A::bb) (ln.ag.n+1)))[b]? =some (oC (some A)):=rr (sW (i:=0) rfl (by simp; omega))
    refine dS (IA b U (ak (n:=(ln.ag.n+1)) 15 U sq) nQ dc om om) ?_
    refine dS (gF b 0 (Value.map (some A)) U cq (ak (n:=(gX (A::bb) (ln.ag.n+1)).length) 15 U sm) Au U dc U)<|dP 2 [] (mc 0 U I) ?_
    refine cO<|iu (kV:=ep) (x:=(du t (fp o.1))) (C':=[_,_,_,_,_,_,_,(gZ ep A (bM iV (dK O (du t (fp o.1)) ((min v o.2.Hi)-y)))),_,_,_,_,_,_,_,_,_,_]) 7 U U U U oW oZ U (gE _ _ _ _).symm U<|aH<|aD ?_
    exact A1 (dK O (du t (fp o.1)) ((min v o.2.Hi)-y)) _ _ (by exact D.set (by show b<e.length; omega) hp ho (Av hy T) (.inl (by simpa using AN))) (aK [1,3,4,5,6,7,8,9,10,11,12,13,14,15,16,17])
   rw [Bool.not_eq_false'] at AN
   refine rP 5 [] I ?_
   refine RK Y<|bR U (aR fun AA=>?_) (aS fun AA=>?_)
   ·refine bY<|aD ?_
    exact A1 O _ _ (by exact D.oi (Av hy T) (by simpa using AN) AA) (aK [1,3,4,5,6,7,8,9,10,11,12,13,14,15,16,17])
   refine dF cD 9 kr<|mI 1 [] (mc 11 U I) U<|dS (SX (bQ U U) U U)<|dP 3 [0,1] (mr 10 U (mc 8 U I)) ?_
   have Aw:(List.map oC (gX (A::bb) (ln.ag.n+1)))[b]? =some (oC (some A)):=rr (sW (i:=0) rfl (by simp; omega))
   refine dS (IA b U (ak (n:=(ln.ag.n+1)) 15 U sq) nQ dc om om) ?_
   refine dS (gF b 0 (Value.map (some A)) U cq (ak (n:=(gX (A::bb) (ln.ag.n+1)).length) 15 U sm) Aw U dc U)<|dP 2 [] (mc 0 U I) ?_
   refine cO<|iu (kV:=ep) (x:=(du t (fp o.1))) (C':=[_,_,_,_,_,_,_,(gZ ep A (bM iV (dK O (du t (fp o.1)) ((min v o.2.Hi)-y)))),_,_,_,_,_,_,_,_,_,_]) 7 U U U U oW oZ U (gE _ _ _ _).symm U<|aH<|aD ?_
   exact A1 (dK O (du t (fp o.1)) ((min v o.2.Hi)-y)) _ _ (by exact D.set (by show b<e.length; omega) hp ho (Av hy T) (.inr AA)) (aK [1,3,4,5,6,7,8,9,10,11,12,13,14,15,16,17])
  refine dR cD [4,11,12,14] [10] [0,1,2] [0,1,2,3,4,6] [0,1,2,3,4,5,6] U U U U U<|eS U (Dl 1 U cq U)<|eS U (SX (bQ U U) U U)<|eS U (FA 12 U fD U)<|eS U (H0 (vS fA (ln.ag.n+1) (ln.ag.n+1)) 0 U cq U U)<|eS U (SX (bj (xs:=[]) (cs:=(aC.cells (aC.mk 0 0))) U U (bh Bb U)) U U)<|eS U (Dl 1 U cq U)<|eS U (SX (bQ U U) U U)<|eS U (FA 7 U fD U)<|eS U (FA 7 U fD U)<|eS U (H0 (vI ri.Start) 0 U cq U U) ?_
  obtain ⟨x6,CH⟩:=aO (List.replicate (ln.ag.n+1) (none:Option Nat)) 0 om
  have hx7m:(List.map oC (List.replicate (ln.ag.n+1) (none:Option Nat)))[0]? =some (oC x6):=by rw [fB,CH]; rfl
  refine fS U (IA 0 U (ak (n:=(ln.ag.n+1)) 5 U sq) nQ dc U om) ?_
  refine e8 U<|iz U fun T8 Ao=>mz (kV:=ep) U U fun r=>?_
  try dsimp only
  refine aH (Ao _ _ (aK [1,2,3,4,5,7]) (aK [1,2,3,4,5,6,7]) ?_)
  refine iz U fun T10 G=>?_
  have Bp:(dK ([]:List (aC×Int)) (aC.mk 0 0) ri.Start)=[((aC.mk 0 0),ri.Start)]:=by rfl
  refine yD (kV:=ep) (x:=(aC.mk 0 0)) (C':=[(gZ ep r (bM iV ([((aC.mk 0 0),ri.Start)]))),_,_,_,_,_,_,_]) 0 U U U U oW oZ U ((gE _ _ _ _).symm.trans (congrArg _ Bp)) U<|aH (G _ _ (aK [1,2,3,4,5,7]) (aK [1,2,3,4,5,6,7]) ?_)
  refine iz U fun T12 Be=>rS (MV U)<|aH (Be _ _ (aK [1,2,3,4,5,7]) (aK [1,2,3,4,5,6,7]) ?_)
  refine cp U fun T13 Bf=>?_
  have Bq:((List.replicate (ln.ag.n+1) (none:Option Nat)).set 0 (some r))=(eB [r] (ln.ag.n+1)):=by rw [za]; exact tQ rfl sm
  refine eG (k:=0) (o:=0) (vs:=[(Value.map (some r))]) (es':=(List.map oC (eB [r] (ln.ag.n+1)))) (C':=[_,_,_,_,_,_,(own fA (ln.ag.n+1) 274 1 (List.map oC (eB [r] (ln.ag.n+1)))),_]) 6 U U U I3 U U U U hx7m U dc (by exact (List.map_set (f:=oC) (l:=(List.replicate (ln.ag.n+1) (none:Option Nat))) (i:=0) (a:=(some r))).symm.trans (congrArg _ Bq)) U<|aH (Bf _ _ (aK [1,2,3,4,5,7]) ?_)
  refine fM U<|D8<|BV (X:=[]) (X':=aU nM [[((aC.mk 0 0),ri.Start)]] [r]) 0 1 U U U ?_
  try dsimp only
  refine aT (jg (aQ U) (aK [1,2,3,4,5,7,0,6]) (B9 ⟨r,trivial⟩))
 refine o8 cD [0,1,2,3,5,6,8,9,11,12] [4,7,10,13] [false,false,false,false,false,false,false,false,false,false] [] [(bZ W 259 [(vP gw)]),(rd e_A e.length 1 (e.map iC)).ro,(rd t_A tms.length 1 (List.zipWith gJ tms tb)).ro,(e7 (aU rh tms tb)).ro] [] kr (aK [0,2,3,4]) (aK [])<|eS U (Dl 0 U cq U)<|eS U (Dl 0 U cq U)<|eS U (MV U)<|eS U (BI U (ik ⟨om,om⟩))<|eS U (MV U)<|eS U (BI U (ik ⟨om,om⟩))<|eS U (SX (bQ U U) U U)<|eS U (FA 12 U fD U)<|eS U (SX (bQ U U) U U)<|eS U (FA 13 U fD U)<|e8 U<|iT [4,7] kr (eN ?_<|eN ?_<|kT)
 rotate_left 1
 ·refine NO U U [4,10,13] fun T5 An=>?_
  refine x5 (n:=(ln.ag.n+1)) (es:=(List.map oC (List.replicate (ln.ag.n+1) (none:Option Nat)))) U U U Bh om om (by simp only [maxLen]; omega) (by rw [List.map_replicate]; rfl) U fun b6=>?_
  try dsimp only
  refine aH (An _ _ (aK [1,3,4,5]) ?_)
  refine N1 4<|NO U U [10,13] fun T7 AI=>?_
  refine x5 (n:=(ln.ag.n+1)) (es:=(List.map oC (List.replicate (ln.ag.n+1) (none:Option Nat)))) U U U Bh om om (by simp only [maxLen]; omega) (by rw [List.map_replicate]; rfl) U fun b8=>?_
  try dsimp only
  refine aH (AI _ _ (aK [2,4,5,6]) ?_)
  refine N1 10<|NO U U [13] fun T9 Ap=>RQ (ck.cells (ck.mk ln ri (aM.mk e_A e.length e_C) (aM.mk t_A tms.length t_C) (aM.mk (some ⟨b8,0,none⟩) (ln.ag.n+1) (ln.ag.n+1)) (aM.mk none 0 0))) U zn U U<|aH (Ap _ _ (aK [2,4,5,6]) ?_)
  refine N1 13<|NO U U [] fun T10 G=>RQ (ck.cells (ck.mk ln ri (aM.mk e_A e.length e_C) (aM.mk t_A tms.length t_C) (aM.mk (some ⟨b8,0,none⟩) (ln.ag.n+1) (ln.ag.n+1)) (aM.mk (some ⟨b6,0,none⟩) (ln.ag.n+1) (ln.ag.n+1)))) U zn U U<|aH (G _ _ (aK [2,4,5,6]) ?_)
  refine pM ?_
  refine aT (jg (aQ U) (aK [2,4,5,6,0,1,3]) (Ag ⟨((some ⟨b8,0,none⟩),(some ⟨b6,0,none⟩)),trivial⟩))
 refine NO U U [7,10,13] fun T5 An=>?_
 refine x5 (n:=(ln.ag.n+1)) (es:=(List.map oC (List.replicate (ln.ag.n+1) (none:Option Nat)))) U U U Bh om om (by simp only [maxLen]; omega) (by rw [List.map_replicate]; rfl) U fun b6=>?_
 try dsimp only
 refine aH (An _ _ (aK [1,3,4,5]) ?_)
 refine iT [7,10] kr (eN ?_<|eN ?_<|kT)
 rotate_left 1
 ·refine NO U U [7,13] fun T7 AI=>Vn (ck.cells (ck.mk ln ri (aM.mk e_A e.length e_C) (aM.mk t_A tms.length t_C) (aM.mk (some ⟨b6,0,none⟩) (ln.ag.n+1) (ln.ag.n+1)) (aM.mk none 0 0))) U zn U U<|aH (AI _ _ (aK [1,3,4,5]) ?_)
  refine N1 7<|NO U U [13] fun T8 Ao=>?_
  refine x5 (n:=(ln.ag.n+1)) (es:=(List.map oC (List.replicate (ln.ag.n+1) (none:Option Nat)))) U U U Bh om om (by simp only [maxLen]; omega) (by rw [List.map_replicate]; rfl) U fun r=>?_
  try dsimp only
  refine aH (Ao _ _ (aK [2,4,5,6]) ?_)
  refine N1 13<|NO U U [] fun T10 G=>RQ (ck.cells (ck.mk ln ri (aM.mk e_A e.length e_C) (aM.mk t_A tms.length t_C) (aM.mk (some ⟨b6,0,none⟩) (ln.ag.n+1) (ln.ag.n+1)) (aM.mk (some ⟨r,0,none⟩) (ln.ag.n+1) (ln.ag.n+1)))) U zn U U<|aH (G _ _ (aK [2,4,5,6]) ?_)
  refine pM ?_
  refine aT (jg (aQ U) (aK [2,4,5,6,1,0,3]) (Ag ⟨((some ⟨b6,0,none⟩),(some ⟨r,0,none⟩)),trivial⟩))
 refine NO U U [10,13] fun T7 AI=>?_
 refine x5 (n:=(ln.ag.n+1)) (es:=(List.map oC (List.replicate (ln.ag.n+1) (none:Option Nat)))) U U U Bh om om (by simp only [maxLen]; omega) (by rw [List.map_replicate]; rfl) U fun b8=>?_
 try dsimp only
 refine aH (AI _ _ (aK [2,4,5,6]) ?_)
 refine N1 10<|NO U U [13] fun T9 Ap=>RQ (ck.cells (ck.mk ln ri (aM.mk e_A e.length e_C) (aM.mk t_A tms.length t_C) (aM.mk (some ⟨b6,0,none⟩) (ln.ag.n+1) (ln.ag.n+1)) (aM.mk none 0 0))) U zn U U<|aH (Ap _ _ (aK [2,4,5,6]) ?_)
 refine N1 13<|NO U U [] fun T10 G=>RQ (ck.cells (ck.mk ln ri (aM.mk e_A e.length e_C) (aM.mk t_A tms.length t_C) (aM.mk (some ⟨b6,0,none⟩) (ln.ag.n+1) (ln.ag.n+1)) (aM.mk (some ⟨b8,0,none⟩) (ln.ag.n+1) (ln.ag.n+1)))) U zn U U<|aH (G _ _ (aK [2,4,5,6]) ?_)
 refine pM ?_
 refine aT (jg (aQ U) (aK [2,4,5,6,1,0,3]) (Ag ⟨((some ⟨b6,0,none⟩),(some ⟨b8,0,none⟩)),trivial⟩))
end
section
open Go.RowKit
theorem Eb (l:bf) (kA:OA) (kC:Nat) (az:List RA) (cA:OA) (cC:Nat) (bA:OA) (bC g1:Nat) (bm:Int) (g2:Nat) (hin:eE l az):
 ej Tryz.prog 198 [(vP g1),(vP g2)] [(rd kA l.aJ.length 9 (l.aJ.map ao.cells)),(rd cA l.ai.length 2 (List.zipWith au.cells l.ai az)),(e7 (aU au.gY l.ai az)),(rd bA l.ag.length 4 (l.ag.map bE.cells)),(bZ g1 28 (bK.cells (lp l kA kC cA cC bA bC))),(bZ g2 3 [(vI bm)])] (vI (jC l bm)):=by
 have K:=hin.sE
 have J:=hin.sD
 have H:=hin.og
 have AA:=hin.sB
 refine bI kr Tryz.func198 U U fun L Q hQ hN=>?_
 try dsimp only
 refine WS fun _ B=>bg 1 U<|RK B<|al fun _ C=>WS fun _ D=>rP 5 [0,1] (mr 4 U (mr 5 U I)) ?_
 refine cU (xs:=[.tmp 7]) (cs:=[(vI bm)]) U cy jd U U U U (by simp [Value.cells]) U U fun G=>?_
 refine rS (CL (ej.eq (iP 0 ((l.ag.length:Int)-1) ([bm]) (some ⟨G,0,none⟩) 1 (by (simp; done))) cT) (ay (aY 0 U U (by simp [bJ]) U)<|aL) U) ?_
 refine rP 1 [] I ?_
 refine RK D<|cM U (bx fun A=>?_) (bw fun A=>?_)
 ·refine WS fun _ E=>rP 1 [] I ?_
  refine RK E<|ar<|Q1 hQ U U U ?_
  exact cI (if_neg om).symm
 refine WK C<|WS fun _ F=>rP 1 [] I ?_
 refine RK F<|ar<|Q1 hQ U U U ?_
 exact cI (if_pos om).symm
end
section
open Go.RowKit
theorem N0 (l:bf) (kA:OA) (kC:Nat) (az:List RA) (cA:OA) (cC:Nat) (bA:OA) (bC:Nat) (r:cE) (sgA:OA) (sgC:Nat) (f:Value) (X:av) (me:Int) (gm:Nat) (hf:D_ Tryz.prog f [] [X] (.int .i64 me)) (hin:eE l az) (hsl:r.aj.length≤1000000):
 lv Tryz.prog 197 [(vA (bK.cells (lp l kA kC cA cC bA bC))),(vA (eK.cells (mB r sgA sgC))),(vS (some ⟨gm,0,none⟩) 1 1)] [(rd kA l.aJ.length 9 (l.aJ.map ao.cells)),(rd cA l.ai.length 2 (List.zipWith au.cells l.ai az)),(e7 (aU au.gY l.ai az)),(rd bA l.ag.length 4 (l.ag.map bE.cells)),(rd sgA r.aj.length 2 (r.aj.map aN.cells)),X,(bZ gm 262 [f])] (fun (x:Bool×Int×Nat×(OA)×Nat×(OA)×Nat×(List Nat)×(List FM)×(List Nat)×(OA)×Nat×(List FM)×(List Nat)×(OA)×Nat)=>bif x.1 then (vT [(Value.pointer (some ⟨x.2.2.1,0,none⟩)),(vI 0)]) else (vT [(Value.pointer none),(vI x.2.1)])) (fun (x:Bool×Int×Nat×(OA)×Nat×(OA)×Nat×(List Nat)×(List FM)×(List Nat)×(OA)×Nat×(List FM)×(List Nat)×(OA)×Nat)=>(x.1=true→(eH l r me=0∧xw (ct l r) x.2.2.2.2.2.2.2.2.1∧ua (ct l r) x.2.2.2.2.2.2.2.2.2.2.2.2.1∧x.2.2.2.2.2.2.2.2.2.1.length=x.2.2.2.2.2.2.2.2.1.length∧x.2.2.2.2.2.2.2.2.2.2.2.2.2.1.length=x.2.2.2.2.2.2.2.2.2.2.2.2.1.length∧x.2.2.2.2.2.2.2.1.length=(ei l r.aj r.aj.length).length))∧(x.1=false→(x.2.1=eH l r me∧ ¬ eH l r me=0))) (fun (x:Bool×Int×Nat×(OA)×Nat×(OA)×Nat×(List Nat)×(List FM)×(List Nat)×(OA)×Nat×(List FM)×(List Nat)×(OA)×Nat)=>bif x.1 then [(bZ x.2.2.1 270 (ck.cells (ck.mk (lp l kA kC cA cC bA bC) (mB r sgA sgC) (aM.mk x.2.2.2.1 ((cL l l.ag.length).length) x.2.2.2.2.1) (aM.mk x.2.2.2.2.2.1 ((ei l r.aj r.aj.length).length) x.2.2.2.2.2.2.1) (aM.mk x.2.2.2.2.2.2.2.2.2.2.1 x.2.2.2.2.2.2.2.2.1.length x.2.2.2.2.2.2.2.2.2.2.2.1) (aM.mk x.2.2.2.2.2.2.2.2.2.2.2.2.2.2.1 x.2.2.2.2.2.2.2.2.2.2.2.2.1.length x.2.2.2.2.2.2.2.2.2.2.2.2.2.2.2)))),(own x.2.2.2.1 x.2.2.2.2.1 3 1 ((cL l l.ag.length).map iC)),(own x.2.2.2.2.2.1 x.2.2.2.2.2.2.1 58 1 (List.zipWith gJ (ei l r.aj r.aj.length) x.2.2.2.2.2.2.2.1)),(bo (aU rh (ei l r.aj r.aj.length) x.2.2.2.2.2.2.2.1)),(own x.2.2.2.2.2.2.2.2.2.2.1 x.2.2.2.2.2.2.2.2.2.2.2.1 274 1 (List.zipWith gJ x.2.2.2.2.2.2.2.2.1 x.2.2.2.2.2.2.2.2.2.1)),(bo (aU nM x.2.2.2.2.2.2.2.2.1 x.2.2.2.2.2.2.2.2.2.1)),(own x.2.2.2.2.2.2.2.2.2.2.2.2.2.2.1 x.2.2.2.2.2.2.2.2.2.2.2.2.2.2.2 274 1 (List.zipWith gJ x.2.2.2.2.2.2.2.2.2.2.2.2.1 x.2.2.2.2.2.2.2.2.2.2.2.2.2.1)),(bo (aU nM x.2.2.2.2.2.2.2.2.2.2.2.2.1 x.2.2.2.2.2.2.2.2.2.2.2.2.2.1))] else []):=by
 have B3:=hin.sE
 have B1:=hin.sD
 have Bz:=hin.og
 have B0:=hin.sB
 have B2:=hin.side
 refine dp kr Tryz.func197 U U fun w0 Q hQ hN=>?_
 try dsimp only
 refine WS fun _ Ba=>fV U fun b2=>fV U fun b3=>bg 2 U<|RK Ba<|al fun _ Bb=>WS fun _ Bc=>fE 1 [] (mc 1 U I) U<|rS (CL (Bu l kA kC az cA cC bA bC hin) (bp [2,3,4,5]) U)<|bg 1 U<|RK Bc<|WS fun _ Bd=>rP 2 [] I ?_
 refine RK Bd<|cM U (bx fun h=>?_) (bw fun h=>?_)
 ·refine WS fun _ Be=>rP 3 [] I ?_
  refine RK Be<|ar<|LX hQ (false,(dw l),0,none,0,none,0,[],[],[],none,0,[],[],none,0) [] [] I U (by rfl) U U ?_
  exact rf<|JV (nU (r:=r) (me:=me) h) h
 refine WK Bb<|al fun _ Bf=>WS fun _ AB=>?_
 have C:dw l=0:=h
 obtain ⟨BJ,d⟩:=gL C
 have Bh:=d.head
 unfold gk at Bh
 refine rP 2 [] (mc 0 U I) ?_
 refine cU (xs:=[.tmp 24]) (cs:=[(vI r.Start)]) U cy jd U U U U (by simp [Value.cells]) U U fun BP=>?_
 refine rS (CL (ej.eq (iP 0 86400000 ([r.Start]) (some ⟨BP,0,none⟩) 1 (by (simp; done))) cT) (ay (aY 0 U U (by simp [bJ]) U)<|aL) U) ?_
 refine rP 2 [] I ?_
 refine db (t:=28) U (bx fun BT=>?_) (bw fun BT=>?_)
 ·refine bg 14 U<|RK AB<|aP U<|WS fun _ AM=>rP 2 [] I ?_
  refine RK AM<|ar<|LX hQ (false,51,0,none,0,none,0,[],[],[],none,0,[],[],none,0) [] [] I U (by rfl) U U ?_
  exact rf<|pL (je (me:=me) C (fun q:fh l r=>by have q1:=q.time; have q2:=q.len; omega))
 refine rP 4 [] (mc 1 U I) ?_
 refine cU (xs:=[.tmp 32]) (cs:=[(vI r.gh)]) U cy jd U U U U (by simp [Value.cells]) U U fun BQ=>?_
 refine rS (CL (ej.eq (iP r.Start 86400000 ([r.gh]) (some ⟨BQ,0,none⟩) 1 (by (simp; done))) cT) (ay (aY 0 U U (by simp [bJ]) U)<|aL) U) ?_
 refine rP 3 [] I ?_
 refine db (t:=37) U (bx fun BW=>?_) (bw fun BW=>?_)
 ·refine bg 5 U<|RK AB<|aP U<|WS fun _ AN=>rP 2 [] I ?_
  refine RK AN<|ar<|LX hQ (false,51,0,none,0,none,0,[],[],[],none,0,[],[],none,0) [] [] I U (by rfl) U U ?_
  exact rf<|pL (je (me:=me) C (fun q:fh l r=>by have q1:=q.time; have q2:=q.len; omega))
 refine rP 5 [] (mc 2 U I) ?_
 refine RK AB<|cM U (aS fun BX=>?_) (aR fun BX=>?_)
 ·refine WS fun _ AO=>rP 2 [] I ?_
  refine RK AO<|ar<|LX hQ (false,51,0,none,0,none,0,[],[],[],none,0,[],[],none,0) [] [] I U (by rfl) U U ?_
  exact rf<|pL (je (me:=me) C (fun q:fh l r=>by have q1:=q.time; have q2:=q.len; omega))
 refine WK Bf<|WS fun _ AP=>rS (SX (bj (xs:=[(0,.const (vI (-1)))]) (cs:=(aN.cells (aN.mk (-1) 0))) U U (bh Ft U)) U U)<|AL U Fx fun V=>fR U we U<|RK AP<|al fun _ AQ=>dR cD [5,6,7,8] [] [] [0,1,2,3,4,5,6,7,8,9,10,11] [] U U U U U<|eS U (LW 4 U cq U U)<|eS U (LW 3 U cq U U)<|eS U (FA 3 U fD U)<|eS U (L1 (vS bA l.ag.length bC) 4 U cq U U)<|eS U (LN U PJ)<|e8 U<|cp U fun T18 Ax=>?_
 refine x5 (n:=l.ag.length) (es:=(List.map oC (List.replicate l.ag.length (none:Option Nat)))) U U U S4 om om (by simp only [maxLen]; omega) (by rw [List.map_replicate]; rfl) U fun B=>?_
 try dsimp only
 refine aH (Ax _ _ (aK [1,2,3,4,5,6,7,8,9,10,11,12]) ?_)
 refine cp U fun T20 Ay=>rS (SX (bj (xs:=[(0,.tmp 44),(1,.tmp 45),(3,.tmp 49)]) (cs:=(ck.cells (ck.mk (lp l kA kC cA cC bA bC) (mB r sgA sgC) (aM.mk none 0 0) (aM.mk (some ⟨B,0,none⟩) l.ag.length l.ag.length) (aM.mk none 0 0) (aM.mk none 0 0)))) U U (bh S8 U)) U U)<|aH (Ay _ _ (aK [1,2,3,4,5,6,7,8,9,10,11,12]) ?_)
 refine cp U fun T21 Az=>fV U fun Bt=>aH (Az _ _ (aK [2,3,4,5,6,7,8,9,10,11,12,13]) ?_)
 refine cp U fun T23 A0=>rS (AG U)<|aH (A0 _ _ (aK [2,3,4,5,6,7,8,9,10,11,12,13]) ?_)
 refine fM U<|KK AQ<|al fun _ AR=>WS fun _ AS=>rP 4 [] (mc 6 U I) ?_
 refine RK AS<|aw ?_
 rw [za]
 refine fX 3 1<|ox ?_
 have E:(0≤l.ag.length)∧(([]:List Nat).length=0):=by exact ⟨Nat.zero_le _,rfl⟩
 refine bO (ι:={z:Nat×(OA)×Nat×(List Nat) // (z.1≤l.ag.length)∧(z.2.2.2.length=z.1)}) [2,3,4,6,7,9,10,54] [4,7,8,9,10,11,12,13,14,15] U U (fun z=>[(55,(vI (z.1.1:Int)))]) (fun z=>[(bo (aU rh (List.replicate z.1.1 ([]:TM)) z.1.2.2.2)),(own z.1.2.1 z.1.2.2.1 3 1 ((cL l z.1.1).map iC)),(bZ Bt 270 (ck.cells (ck.mk (lp l kA kC cA cC bA bC) (mB r sgA sgC) (aM.mk z.1.2.1 ((cL l z.1.1).length) z.1.2.2.1) (aM.mk (some ⟨B,0,none⟩) l.ag.length l.ag.length) (aM.mk none 0 0) (aM.mk none 0 0)))),(own (some ⟨B,0,none⟩) l.ag.length 58 1 (List.map oC (eB z.1.2.2.2 l.ag.length)))]) (fun _=>rfl) (fun _=>rfl) (fun z=>l.ag.length-z.1.1) ⟨(0,none,0,([]:List Nat)),E⟩ (aQ U) (aK [4,7,8,9,10,11,12,13,14,15,0,1,2,3]) ?_
 clear E
 rintro ⟨⟨b,a,c,fb⟩,⟨AC,Y⟩⟩ J26 AK
 try dsimp only at AC Y
 try dsimp only
 have Bi:(eB fb l.ag.length).length=l.ag.length:=qU om
 refine WS fun _ AT=>rP 1 [] I ?_
 refine RK AT<|al fun _ AU=>cM U (aS fun BU=>?_) (aR fun BU=>?_)
 ·refine WK AU<|al fun _ AV=>aw<|WS fun _ AW=>rP 2 [] I ?_
  refine RK AW<|al fun _ AX=>dR cD [12,13,16] [4] [0] [0,1,2,3,4,5,6,7,8,9,10,13] [0,1,2,3,4,5,6,7,8,9,10,11,12,13] U U U U U<|eS U (MV U)<|eS U (MV U)<|eS U (SX (bQ U U) U U)<|eS U (FA 10 U fD U)<|fS U (L1 (vS a ((cL l b).length) c) 12 U cq U U)<|eS U (LW 2 U cq U U)<|eS U (MV U)<|eS U (CL (Ox l kA kC az cA cC bA bC (b:Int) hin asm (by exact d.vw) om) (bp [3,4,5,6]) U) ?_
  have B4:=F4 BJ d.vw b
  have B5:=d.QM b om
  simp only [Int.toNat_natCast]
  refine eS U (BI U (F1 ⟨om,om⟩))<|eS U (FA 1 U fD U)<|eS U (L1 (vI l.dM) 2 U cq U U) ?_
  refine eS U (CL (Ol (1000*(lV l (b:Int).toNat)) l.dM om (by (simp; omega))) (aL) U) ?_
  refine eS U (SX (bQ U U) U U)<|eS U (FA 10 U fD U)<|e8 U<|iz U fun T33 A1=>cU (xs:=[.tmp 69]) (cs:=[(vI (o5 (1000*(lV l (b:Int).toNat)) l.dM))]) U cy jd U U U U (by simp [Value.cells]) U U fun Bv=>aH (A1 _ _ (aK [1,2,3,4,5,6,7,8,9,10,11,14]) (aK [1,2,3,4,5,6,7,8,9,10,11,12,13,14]) ?_)
  refine cp U fun T35 A2=>?_
  refine c_ (es2:=(List.map iC (cL l (b+1)))) (m':=(cL l (b+1)).length) 12 U U U pE U U (by simp [eo]) (aY (es:=List.map iC [(o5 (1000*(lV l (b:Int).toNat)) l.dM)]) 0 U U (by simp [bJ]) U) (jT _) (by have:=eo (l:=l) (n:=b); first|omega|(simp; omega)) (by simp only [maxLen,eo]; omega) (by rw [uW]; simp [eh]) (by simp [eo]) U fun e g=>?_
  try dsimp only
  refine aH (A2 _ _ (aK [1,2,3,4,5,6,7,8,9,10,11,14]) ?_)
  refine cp U fun T38 A3=>jh (vs:=[(vS e ((cL l (b+1)).length) g)]) (cs':=(ck.cells (ck.mk (lp l kA kC cA cC bA bC) (mB r sgA sgC) (aM.mk e ((cL l (b+1)).length) g) (aM.mk (some ⟨B,0,none⟩) l.ag.length l.ag.length) (aM.mk none 0 0) (aM.mk none 0 0)))) (C':=[_,_,_,_,_,_,_,_,_,_,_,_,_,(bZ Bt 270 (ck.cells (ck.mk (lp l kA kC cA cC bA bC) (mB r sgA sgC) (aM.mk e ((cL l (b+1)).length) g) (aM.mk (some ⟨B,0,none⟩) l.ag.length l.ag.length) (aM.mk none 0 0) (aM.mk none 0 0)))),_]) 13 U U U z7 U U U U U U U<|aH (A3 _ _ (aK [1,2,3,4,5,6,7,8,9,10,11,14]) ?_)
  refine fM U<|KK AX<|an<|bg 1 U<|rS (SX (bQ U U) U U)<|rP 3 [] (mc 13 U I) ?_
  refine mz (kV:=iV) U U fun J=>?_
  try dsimp only
  obtain ⟨Bm,BL⟩:=aO (eB fb l.ag.length) b om
  have hx41m:(List.map oC (eB fb l.ag.length))[b]? =some (oC Bm):=by rw [fB,BL]; rfl
  refine rS (IA b U (ak (n:=l.ag.length) 15 U sq) FC dc om om) ?_
  have A4:((eB fb l.ag.length).set b (some J))=(eB (fb++[J]) l.ag.length):=by exact tQ om om
  refine eG (k:=b) (o:=0) (vs:=[(Value.map (some J))]) (es':=(List.map oC (eB (fb++[J]) l.ag.length))) (C':=[_,_,_,_,_,_,_,_,_,_,_,_,_,_,_,(own (some ⟨B,0,none⟩) l.ag.length 58 1 (List.map oC (eB (fb++[J]) l.ag.length)))]) 15 U U U Nm U U U U hx41m U dc (by exact (List.map_set (f:=oC) (l:=(eB fb l.ag.length)) (i:=b) (a:=(some J))).symm.trans (congrArg _ A4)) U<|aH<|aD<|KK AV<|an<|rP 2 [] I ?_
  refine aH<|BV (X':=aU rh (List.replicate (b+1) ([]:TM)) (fb++[J])) 12 0 U U (M3 Y) ?_
  try dsimp only
  have A5:(vI (((b+1):Nat):Int))=(vI ((b:Int)+1)):=by exact cI om
  refine aT (AK ⟨((b+1),e,g,(fb++[J])),⟨om,by simp; omega⟩⟩ _ _ _ U os (cN 8<|bk U A5<|dx.nil _) (aK [2,3,4,5,6,7,8,9,10,11,0,12,13,14]))
 refine bB<|ae<|ae<|ax<|KK AR<|al fun _ AY=>WS fun _ AZ=>rP 4 [] (mc 1 U I) ?_
 refine RK AZ<|aw ?_
 rw [show (List.replicate b ([]:TM))=ei l r.aj 0 from by rw [EE,show b=l.ag.length by omega]]
 rw [show cL l b=cL l l.ag.length from by rw [show b=l.ag.length by omega]]
 have E:(0≤r.aj.length)∧(qj l r.aj 0):=by exact ⟨Nat.zero_le _,zj⟩
 refine bO (ι:={z:Nat // (z≤r.aj.length)∧(qj l r.aj z)}) [2,3,4,6,7,9,10,83,84] [1,2,3,4,5,6,7,8,9,11,12,13] U U (fun z=>[(85,(vI (z.1:Int)))]) (fun z=>[(bZ V 131 (aN.cells (mG r.aj z.1))),(bo (aU rh (ei l r.aj z.1) fb))]) (fun _=>rfl) (fun _=>rfl) (fun z=>r.aj.length-z.1) ⟨0,E⟩ (aQ U) (aK [1,2,3,4,5,6,7,8,9,11,12,13,0,10]) ?_
 clear E
 rintro ⟨i,⟨BO,A⟩⟩ J46 T
 try dsimp only
 have Bj:(ei l r.aj i).length=l.ag.length:=jo
 have Bi:(eB fb l.ag.length).length=l.ag.length:=qU om
 refine WS fun _ Aa=>rP 1 [] I ?_
 refine RK Aa<|al fun _ Ab=>bR U (aR fun BY=>?_) (aS fun BY=>?_)
 ·refine bB<|ae<|ae<|ax<|KK AY<|al fun _ Al=>al fun _ Am=>?_
  have j:fh l r:=CN om om A om
  refine an<|bg 3 U<|RK Am<|aw<|jY 2<|eu fun R81 Aw=>WS fun _ An=>rS (SX (b_ (r:= .bool true) U U U gS) U U)<|RK An<|al fun _ Ao=>aP U<|WK Ao<|al fun _ Ap=>aw<|WS fun _ Aq=>rS (Tw 0 0 U Ot U dc U)<|fE 2 [] (mr 8 U I) U<|RK Aq<|WS fun _ Ar=>bg 1 U<|rS (SX (sh U U U (hf) (bp [7])) U U)<|bg 1 U<|RK Ar<|WS fun _ As=>rP 2 [] I ?_
  refine RK As<|cM U (bx fun K=>?_) (bw fun K=>?_)
  ·refine WS fun _ At=>rP 3 [] I ?_
   refine RK At<|ar<|LX hQ (false,me,0,none,0,none,0,[],[],[],none,0,[],[],none,0) [] [] I U (by rfl) U U ?_
   exact rf<|JV (qv C j K) K
  refine bY<|aD<|KK Ap<|an<|rS (SX (b_ (r:= .int .i64 1) U U U (ik ⟨dc,dc⟩)) U U)<|rP 1 [] I ?_
  refine RK Aw<|eu fun R89 Bq=>WS fun _ Au=>rS (SX (b_ (r:= .bool false) U U U gS) U U)<|RK Au<|al fun _ Bp=>aV U<|bB<|ae<|ae<|ax<|KK Al<|al fun _ Av=>?_
  rw [show ei l r.aj i=ei l r.aj r.aj.length from by rw [show i=r.aj.length by omega]]
  have AE:(ei l r.aj r.aj.length).length=l.ag.length:=jo
  rw [show (List.map oC (eB fb l.ag.length))=(List.zipWith gJ (ei l r.aj r.aj.length) fb) from TE om AE]
  rw [show (bZ Bt 270 (ck.cells (ck.mk (lp l kA kC cA cC bA bC) (mB r sgA sgC) (aM.mk a ((cL l l.ag.length).length) c) (aM.mk (some ⟨B,0,none⟩) l.ag.length l.ag.length) (aM.mk none 0 0) (aM.mk none 0 0))))=(bZ Bt 270 (ck.cells (ck.mk (lp l kA kC cA cC bA bC) (mB r sgA sgC) (aM.mk a ((cL l l.ag.length).length) c) (aM.mk (some ⟨B,0,none⟩) ((ei l r.aj r.aj.length).length) l.ag.length) (aM.mk none 0 0) (aM.mk none 0 0)))) from by rw [AE]]
  have BK:=oD BJ d j
  have Br:(cL l l.ag.length).length=l.ag.length:=eo
  refine an<|rP 1 [] I ?_
  refine iQ 10 U U U U (JC (lp l kA kC cA cC bA bC) (mB r sgA sgC) (cL l l.ag.length) (ei l r.aj r.aj.length) a c fb (some ⟨B,0,none⟩) l.ag.length Bt (by exact BK) (by exact eo.symm) (by rw [AE]; omega)) U (eg 9 U U (j_ sm) (eg 11 U U (j_ (by rw [List.length_zipWith]; omega)) (eg 13 U U tM ki))) U (fun BM Bg=>?_)
  obtain ⟨G,S,P,R,F,O,N,H⟩:=BM
  refine MJ (X:=[(bZ Bt 270 (ck.cells (ck.mk (lp l kA kC cA cC bA bC) (mB r sgA sgC) (aM.mk a ((cL l l.ag.length).length) c) (aM.mk (some ⟨B,0,none⟩) ((ei l r.aj r.aj.length).length) l.ag.length) (aM.mk P G.length R) (aM.mk N F.length H)))),(own P R 274 1 (List.zipWith gJ G S)),(bo (aU nM G S)),(own N H 274 1 (List.zipWith gJ F O)),(bo (aU nM F O))]) 10 U U ?_
  try dsimp only
  obtain ⟨AD,BF,BG,BH⟩:=Bg
  dsimp only at AD BF BG BH
  refine RK Av<|al fun _ v=>WS fun _ w=>rP 1 [] I ?_
  refine cX (Gv (lp l kA kC cA cC bA bC) (mB r sgA sgC) (cL l l.ag.length) (ei l r.aj r.aj.length) a c fb (some ⟨B,0,none⟩) l.ag.length G F S P R O N H Bt (by exact BK) (by (simp; omega)) (by exact eo.symm) (by exact AD) asm) (ay (ak (n:=(cL l l.ag.length).length) 14 U sm)<|ay (ak (n:=(ei l r.aj r.aj.length).length) 15 U (by rw [List.length_zipWith]; omega))<|ay (dW 17 U xW)<|ay (ak (n:=G.length) 1 U (by rw [List.length_zipWith]; omega))<|ay (dW 2 U xW)<|ay (ak (n:=F.length) 3 U (by rw [List.length_zipWith]; omega))<|ay (dW 4 U xW)<|fH 0 U U<|aL) U fun BN Bl=>?_
  obtain ⟨Bn,Bo⟩:=BN
  try dsimp only
  refine rP 2 [] I ?_
  refine RK w<|bR U (aR fun W=>?_) (aS fun W=>?_)
  ·refine WK v<|WS fun _ AA=>rP 3 [] I ?_
   refine RK AA<|ar ?_
   refine LX hQ (true,0,Bt,a,c,(some ⟨B,0,none⟩),l.ag.length,fb,G,S,P,R,F,O,N,H) [1,15,16,18,2,3,4,5] [] I U (by (show List.all _ _=true; simp only [cond_true,fI,List.all_nil,LC,Rk,Bool.and_true]; rfl)) U U ?_
   exact ⟨fun _=>⟨lO C j (by first|rfl|exact K) (fun q=>W (congrArg (fun z:List Int=>(z.length:Int)) q)),AD,BF,BG,BH,dso⟩,N_⟩
  refine WS fun _ y=>rP 2 [] I ?_
  refine RK y<|ar<|LX hQ (false,8,0,none,0,none,0,[],[],[],none,0,[],[],none,0) [] [] I U (by rfl) U U ?_
  exact rf<|pL (pj (me:=me) C j (by first|rfl|exact K) (show jD (ct l r)=[] from jB (Int.natCast_eq_zero.1 W)))
 refine WK Ab<|al fun _ Bs=>aw<|WS fun _ Ac=>rP 1 [] I ?_
 obtain ⟨x,hx⟩:=aO r.aj i om
 have Bk:=bP aN.cells hx
 refine rS (IA i U (aG 6 U) zQ dc om om)<|rS (oB i 0 (aN.cells x) U cq (aG 6 U) Bk U dc U U)<|AL U Fx fun Bw=>bg 1 U<|fR U we U<|RK Ac<|al fun _ p=>WS fun _ L=>rP 6 [0,1] (mc 2 U (mc 0 U I)) ?_
 refine cU (xs:=[.tmp 95]) (cs:=[(vI x.gj)]) U cy jd U U U U (by simp [Value.cells]) U U fun BR=>?_
 refine rS (CL (ej.eq (iP 0 ((l.ag.length:Int)-1) ([x.gj]) (some ⟨BR,0,none⟩) 1 (by (simp; done))) cT) (ay (aY 0 U U (by simp [bJ]) U)<|aL) U) ?_
 refine rP 2 [] I ?_
 refine db (t:=99) U (bx fun BZ=>?_) (bw fun BZ=>?_)
 ·refine bg 27 U<|RK L<|aP U<|WS fun _ Ad=>rP 2 [] I ?_
  refine RK Ad<|ar<|LX hQ (false,51,0,none,0,none,0,[],[],[],none,0,[],[],none,0) [] [] I U (by rfl) U U ?_
  exact rf<|pL (je (me:=me) C (vM hx (by unfold kb k9; omega)))
 refine rP 2 [] (mc 1 U I) ?_
 refine cU (xs:=[.tmp 101]) (cs:=[(vI x.Read)]) U cy jd U U U U (by simp [Value.cells]) U U fun BS=>?_
 refine rS (CL (ej.eq (iP 0 86400000 ([x.Read]) (some ⟨BS,0,none⟩) 1 (by (simp; done))) cT) (ay (aY 0 U U (by simp [bJ]) U)<|aL) U) ?_
 refine rP 3 [] I ?_
 refine db (t:=106) U (bx fun AF=>?_) (bw fun AF=>?_)
 ·refine bg 20 U<|RK L<|aP U<|WS fun _ Ae=>rP 2 [] I ?_
  refine RK Ae<|ar<|LX hQ (false,51,0,none,0,none,0,[],[],[],none,0,[],[],none,0) [] [] I U (by rfl) U U ?_
  exact rf<|pL (je (me:=me) C (vM hx (by unfold kb k9; omega)))
 refine rP 7 [0,1] (mc 2 U (mc 15 U I)) ?_
 refine db (t:=113) U (aS fun AH=>?_) (aR fun AH=>?_)
 ·refine bg 13 U<|RK L<|aP U<|WS fun _ Af=>rP 2 [] I ?_
  refine RK Af<|ar<|LX hQ (false,51,0,none,0,none,0,[],[],[],none,0,[],[],none,0) [] [] I U (by rfl) U U ?_
  exact rf<|pL (je (me:=me) C (vM hx (by unfold kb k9; omega)))
 refine rP 6 [0,1] (mc 2 U (mc 15 U I)) ?_
 refine cb (t:=119) U (aR fun AI=>?_) (aS fun AI=>?_)
 ·refine bg 7 U<|RK L<|aV U<|WK p<|al fun _ u=>WS fun _ Aj=>fE 2 [0,1] (mc 4 U (mc 2 U I)) U<|rS (CL (JE l kA kC az cA cC bA bC x hin asm om) (bp [5,6,7,8]) U)<|AL U dg fun By=>fR U cu U<|RK Aj<|WS fun _ Ak=>rP 5 [] (mc 0 U I) ?_
  refine RK Ak<|bR U (aR fun D=>?_) (aS fun D=>?_)
  ·refine WK u<|an<|rP 1 [] (mc 3 U I) ?_
   refine jh (vs:=(aN.cells x)) (cs':=(aN.cells x)) (C':=[_,_,_,_,_,_,_,_,_,_,_,_,_,_,_,_,(bZ V 131 (aN.cells x)),_]) 16 U U U we U U U U U U U<|aH<|aD<|KK Bs ?_
   have BB:(aN.cells x)=(aN.cells (mG r.aj (i+1))):=by rw [pG hx]
   rw [BB]
   refine an<|rP 2 [] I ?_
   refine aH ?_
   rw [show (ei l r.aj i)=(ei l r.aj (i+1)) from (xT hx D).symm]
   have BC:(vI (((i+1):Nat):Int))=(vI ((i:Int)+1)):=by exact cI om
   refine aT (T ⟨(i+1),⟨om,lL A hx (by unfold kb k9; omega)⟩⟩ _ _ _ U os (cN 9<|bk U BC<|dx.nil _) (aK [4,5,6,7,8,9,10,11,12,13,14,15,16,17]))
  obtain ⟨mb,Z⟩:=aO (ei l r.aj i) ((x.gj).toNat) om
  obtain ⟨ga,M⟩:=aO fb ((x.gj).toNat) om
  refine Ff 17 Z M U U U ?_
  try dsimp only
  refine dF cD 10 kr<|lz 1 U<|dS (SX (bQ U U) U U)<|dP 4 [0,1] (mc 16 U (mc 5 U I)) ?_
  have BE:(List.map oC (eB fb l.ag.length))[(x.gj).toNat]? =some (oC (some ga)):=rr (oO M)
  refine dS (IA ((x.gj).toNat) U (ak (n:=l.ag.length) 17 U sq) FC dc om om) ?_
  refine dS (gF ((x.gj).toNat) 0 (Value.map (some ga)) U cq (ak (n:=(eB fb l.ag.length).length) 17 U sm) BE U dc U)<|mI 2 [] (mc 2 U I) U<|cO<|iu (kV:=iV) (x:=(i:Int)) (C':=[(gZ iV ga (bM df (dK mb (i:Int) (cH l x)))),_,_,_,_,_,_,_,_,_,_,_,_,_,_,_,_,_,_]) 0 U U U U lF (dB od) U (gE _ _ _ _).symm U<|RK u<|an<|rP 1 [] (mc 5 U I) ?_
  refine jh (vs:=(aN.cells x)) (cs':=(aN.cells x)) (C':=[_,_,_,_,_,_,_,_,_,_,_,_,_,_,_,_,_,_,(bZ V 131 (aN.cells x))]) 18 U U U we U U U U U U U<|aH<|aD<|KK Bs ?_
  have A_:(aN.cells x)=(aN.cells (mG r.aj (i+1))):=by rw [pG hx]
  rw [A_]
  refine an<|rP 2 [] I ?_
  refine aH ?_
  refine Jx (f:=rh) (ms:=(ei l r.aj i)) (m:=(dK mb (i:Int) (cH l x))) 1 0 (by rw [jo]; omega) M U U U ?_
  rw [yp hx om D Z]
  have BA:(vI (((i+1):Nat):Int))=(vI ((i:Int)+1)):=by exact cI om
  refine aT (T ⟨(i+1),⟨om,lL A hx (by unfold kb k9; omega)⟩⟩ _ _ _ U os (cN 9<|bk U BA<|dx.nil _) (aK [5,6,7,8,9,10,11,12,13,14,15,16,17,0]))
 refine rP 7 [0,1] (mc 2 U (mc 15 U I)) ?_
 refine RK L<|cM U (aS fun AJ=>?_) (aR fun AJ=>?_)
 ·refine WS fun _ Ag=>rP 2 [] I ?_
  refine RK Ag<|ar<|LX hQ (false,51,0,none,0,none,0,[],[],[],none,0,[],[],none,0) [] [] I U (by rfl) U U ?_
  exact rf<|pL (je (me:=me) C (vM hx (by unfold kb k9; omega)))
 refine WK p<|al fun _ s=>WS fun _ Ah=>fE 2 [0,1] (mc 4 U (mc 2 U I)) U<|rS (CL (JE l kA kC az cA cC bA bC x hin asm om) (bp [5,6,7,8]) U)<|AL U dg fun Bx=>fR U cu U<|RK Ah<|WS fun _ Ai=>rP 5 [] (mc 0 U I) ?_
 refine RK Ai<|bR U (aR fun D=>?_) (aS fun D=>?_)
 ·refine WK s<|an<|rP 1 [] (mc 3 U I) ?_
  refine jh (vs:=(aN.cells x)) (cs':=(aN.cells x)) (C':=[_,_,_,_,_,_,_,_,_,_,_,_,_,_,_,_,(bZ V 131 (aN.cells x)),_]) 16 U U U we U U U U U U U<|aH<|aD<|KK Bs ?_
  have A8:(aN.cells x)=(aN.cells (mG r.aj (i+1))):=by rw [pG hx]
  rw [A8]
  refine an<|rP 2 [] I ?_
  refine aH ?_
  rw [show (ei l r.aj i)=(ei l r.aj (i+1)) from (xT hx D).symm]
  have A9:(vI (((i+1):Nat):Int))=(vI ((i:Int)+1)):=by exact cI om
  refine aT (T ⟨(i+1),⟨om,lL A hx (by unfold kb k9; omega)⟩⟩ _ _ _ U os (cN 9<|bk U A9<|dx.nil _) (aK [4,5,6,7,8,9,10,11,12,13,14,15,16,17]))
 obtain ⟨mb,Z⟩:=aO (ei l r.aj i) ((x.gj).toNat) om
 obtain ⟨ga,M⟩:=aO fb ((x.gj).toNat) om
 refine Ff 17 Z M U U U ?_
 try dsimp only
 refine dF cD 10 kr<|lz 1 U<|dS (SX (bQ U U) U U)<|dP 4 [0,1] (mc 16 U (mc 5 U I)) ?_
 have BD:(List.map oC (eB fb l.ag.length))[(x.gj).toNat]? =some (oC (some ga)):=rr (oO M)
 refine dS (IA ((x.gj).toNat) U (ak (n:=l.ag.length) 17 U sq) FC dc om om) ?_
 refine dS (gF ((x.gj).toNat) 0 (Value.map (some ga)) U cq (ak (n:=(eB fb l.ag.length).length) 17 U sm) BD U dc U)<|mI 2 [] (mc 2 U I) U<|cO<|iu (kV:=iV) (x:=(i:Int)) (C':=[(gZ iV ga (bM df (dK mb (i:Int) (cH l x)))),_,_,_,_,_,_,_,_,_,_,_,_,_,_,_,_,_,_]) 0 U U U U lF (dB od) U (gE _ _ _ _).symm U<|RK s<|an<|rP 1 [] (mc 5 U I) ?_
 refine jh (vs:=(aN.cells x)) (cs':=(aN.cells x)) (C':=[_,_,_,_,_,_,_,_,_,_,_,_,_,_,_,_,_,_,(bZ V 131 (aN.cells x))]) 18 U U U we U U U U U U U<|aH<|aD<|KK Bs ?_
 have A6:(aN.cells x)=(aN.cells (mG r.aj (i+1))):=by rw [pG hx]
 rw [A6]
 refine an<|rP 2 [] I ?_
 refine aH ?_
 refine Jx (f:=rh) (ms:=(ei l r.aj i)) (m:=(dK mb (i:Int) (cH l x))) 1 0 (by rw [jo]; omega) M U U U ?_
 rw [yp hx om D Z]
 have A7:(vI (((i+1):Nat):Int))=(vI ((i:Int)+1)):=by exact cI om
 refine aT (T ⟨(i+1),⟨om,lL A hx (by unfold kb k9; omega)⟩⟩ _ _ _ U os (cN 9<|bk U A7<|dx.nil _) (aK [5,6,7,8,9,10,11,12,13,14,15,16,17,0]))
end
section
open Go.RowKit
theorem KN (l:bf) (kA:OA) (kC:Nat) (az:List RA) (cA:OA) (cC:Nat) (bA:OA) (bC:Nat) (r:cE) (sgA:OA) (sgC:Nat) (bq_:Int) (hin:eE l az) (hsl:r.aj.length≤1000000):
 ej Tryz.prog 196 [(vA (bK.cells (lp l kA kC cA cC bA bC))),(vA (eK.cells (mB r sgA sgC))),(vI bq_)] [(rd kA l.aJ.length 9 (l.aJ.map ao.cells)),(rd cA l.ai.length 2 (List.zipWith au.cells l.ai az)),(e7 (aU au.gY l.ai az)),(rd bA l.ag.length 4 (l.ag.map bE.cells)),(rd sgA r.aj.length 2 (r.aj.map aN.cells))] (vT [(vA (aa.cells (eZ l r bq_))),(vI (eQ l r bq_))]):=by
 have A2:=hin.sE
 have Av:=hin.sD
 have Aq:=hin.og
 have At:=hin.sB
 have A0:=hin.side
 refine bI kr Tryz.func196 U U fun w0 Q hQ hN=>?_
 try dsimp only
 refine WS fun _ AF=>fV U fun b2=>fV U fun b3=>uy U U fun b4=>AL U dg fun b5=>bg 1 U<|RK AF<|WS fun _ p=>rP 2 [0,1] (mc 3 U (mc 2 U I)) ?_
 refine rS (FU U)<|cU (xs:=[.tmp 17]) (cs:=[(Value.func (.func 198) [].toArray [(vP b2),(vP b4)].toArray)]) U Ot SN U U U U (by simp [Value.cells]) U U fun b7=>cX (N0 l kA kC az cA cC bA bC r sgA sgC (Value.func (.func 198) [].toArray [(vP b2),(vP b4)].toArray) (e7 [(rd kA l.aJ.length 9 (l.aJ.map ao.cells)),(rd cA l.ai.length 2 (List.zipWith au.cells l.ai az)),(e7 (aU au.gY l.ai az)),(rd bA l.ag.length 4 (l.ag.map bE.cells)),(bZ b2 28 (bK.cells (lp l kA kC cA cC bA bC))),(bZ b4 3 [(vI bq_)])]) (jC l bq_) b7 (by exact nq (fi:=[]) (ca:=[(vP b2),(vP b4)]) (lW (Eb l kA kC az cA cC bA bC b2 bq_ b4 (by first|assumption|omega)) (bp [0,1,2,3,4,5]))) hin hsl) (lR [5,6,7,8,9]<|ay (l3 (bp [5,6,7,8,4,2]))<|fH 0 U U<|aL) U fun y8 AW=>?_
 obtain ⟨AX,Al,E,H,AD,g,j,m,B,L,J,K,A,G,d,f⟩:=y8
 cases AX
 ·obtain ⟨AS,he⟩:=AW.2 rfl
  try dsimp only at AS he
  subst AS
  try dsimp only [cond_true,cond_false,List.cons_append,List.nil_append]
  refine bg 5 U<|RK p<|al fun _ Am=>WS fun _ AO=>rP 2 [] I ?_
  refine RK AO<|bR U (bw fun AN=>?_) (bx fun AN=>?_)
  ·exact absurd AN he
  refine WS fun _ AP=>rS (SX (bj (xs:=[]) (cs:=(aa.cells (aa.mk 0 0))) U U (bh gl U)) U U)<|bg 1 U<|tP U cu U<|rP 1 [] I ?_
  refine RK AP<|ar<|lk hQ [0] (mc 1 U I) U ?_
  (have e:=nF (b:=bq_) he; rw [e.1,e.2]<;>rfl)
 obtain ⟨he,D,C,Ab,Aa,Ae⟩:=AW.1 rfl
 try dsimp only [cond_true,cond_false,List.cons_append,List.nil_append]
 dsimp only at D C Ab Aa Ae
 obtain ⟨AZ,AJ,Ad,Ax⟩:=j1 he
 obtain ⟨Af,AU⟩:=gL AZ
 have Ac:=AU.head
 unfold gk at Ac
 have Ag:=oD Af AU AJ
 have Az:=AJ.time
 have Ay:=AJ.len
 have AT:(cL l l.ag.length).length=l.ag.length:=eo
 have AV:(ei l r.aj r.aj.length).length=l.ag.length:=jo
 have Aw:B.length=l.ag.length+1:=by have:=D.len; rw [show (ct l r).n=l.ag.length from eo] at this; exact this
 have Au:A.length=l.ag.length+1:=by have:=C.len; rw [show (ct l r).n=l.ag.length from eo] at this; exact this
 obtain ⟨Ar,As⟩:=EK Ad
 obtain ⟨b,AG⟩: ∃ b:Nat,bq_=(b:Int):=⟨bq_.toNat,om⟩
 rw [AG]
 refine bg 5 U<|RK p<|al fun _ N=>WS fun _ O=>bg 1 U<|rS (SX (b_ (r:= .bool false) U U U ng) U U)<|RK O<|aV U<|WK N<|WS fun _ P=>rS (SX (bj (xs:=[(0,.const (vI 1))]) (cs:=(aa.cells (aa.mk 1 0))) U U (bh gl U)) U U)<|AL U dg fun AK=>fR U cu U<|RK P<|WS fun _ R=>fE 1 [] (mc 0 U I) U<|AL U dg fun AM=>fR U cu U<|RK R<|al fun _ T=>WS fun _ AC=>rP 2 [] (mc 12 U I) ?_
 obtain ⟨mf,Y⟩:=aO B b om
 obtain ⟨mb,Z⟩:=aO A (b+1) om
 refine cX (H8 E b) (aL) U fun Ai An=>?_
 obtain ⟨AA,AB⟩:=Ai
 try dsimp only
 refine RK AC<|aw ?_
 refine nz (L0:=[(3,(vP b2)),(4,(vP b3)),(5,(vP b4)),(6,(vP b5)),(7,(vI 0)),(10,(vP AK)),(11,(vP AM))]) (F:=[(own H AD 3 1 ((cL l l.ag.length).map iC)),(own g j 58 1 (List.zipWith gJ (ei l r.aj r.aj.length) m)),(bo (aU rh (ei l r.aj r.aj.length) m)),(own J K 274 1 (List.zipWith gJ B L)),(bo (aU nM B L)),(own d f 274 1 (List.zipWith gJ A G)),(bo (aU nM A G)),(bZ E 270 (ck.cells (ck.mk (lp l kA kC cA cC bA bC) (mB r sgA sgC) (aM.mk H ((cL l l.ag.length).length) AD) (aM.mk g ((ei l r.aj r.aj.length).length) j) (aM.mk J B.length K) (aM.mk d A.length f)))),(bZ AA 259 [(vP E)]),(bZ AB 3 [(vI (b:Int))])]) (fun k (y:aa)=>(kd k y)∧(∀ q∈k,q∈pK (ct l r) b mf mb)) (fun k y=>[(bZ AM 38 (aa.cells y)),(bZ AK 38 (aa.cells (aa.mk 1 0))),(bZ b5 38 (aa.cells (aa.mk 0 0))),(bZ b4 3 [(vI (b:Int))]),(bZ b3 44 (eK.cells (mB r sgA sgC))),(bZ b2 28 (bK.cells (lp l kA kC cA cC bA bC))),(rd kA l.aJ.length 9 (l.aJ.map ao.cells)).ro,(rd cA l.ai.length 2 (List.zipWith au.cells l.ai az)).ro,(e7 (aU au.gY l.ai az)).ro,(rd bA l.ag.length 4 (l.ag.map bE.cells)).ro,(rd sgA r.aj.length 2 (r.aj.map aN.cells)).ro]) (fun _ (_:Unit)=>False) (fun _ _=>[]) [2,3,13,14,15,16,17,18,19,20,21] [5,6,7,8,9,10,11,4,0,1] mx rfl rfl (HT (lp l kA kC cA cC bA bC) (mB r sgA sgC) (cL l l.ag.length) (ei l r.aj r.aj.length) H AD m g j B A L J K G d f E b AA AB mf mb (by rw [AT]; omega) (by exact Ag) (by rw [AV]; omega) (by exact D) om (by exact C) om (by show r.aj.length≤1000; omega) (by exact Y) (by exact Z)) rfl rfl rfl (by exact ⟨A_,fun q hq=>by cases hq⟩) (by simp only [List.forall_mem_cons,List.not_mem_nil,false_imp_iff,implies_true,and_true]; exact ⟨⟨_,aX (i:=0) rfl,(j_ sm)⟩,⟨_,aX (i:=1) rfl,(j_ (by rw [List.length_zipWith]; omega))⟩,⟨_,aX (i:=2) rfl,tM⟩,⟨_,aX (i:=3) rfl,(j_ (by rw [List.length_zipWith]; omega))⟩,⟨_,aX (i:=4) rfl,tM⟩,⟨_,aX (i:=5) rfl,(j_ (by rw [List.length_zipWith]; omega))⟩,⟨_,aX (i:=6) rfl,tM⟩,⟨_,aX (i:=7) rfl,(bU _)⟩,⟨_,aX (i:=8) rfl,(bU _)⟩,⟨_,aX (i:=9) rfl,(bU _)⟩⟩) (by rintro k x k2 ⟨o,_,rfl,_⟩; rfl) rfl (aQ rfl) ?_ ?_ (fun _ _ _ h=>h.elim) (fun _ _ h=>h.elim)
 ·rintro k x k2 h lr ra rb S w1 K41 Qr42 A1 hx AH AQ X Ah Aj
  obtain ⟨q,hq,rfl,rfl⟩:=hx
  obtain ⟨a,c⟩:=AH
  try dsimp only
  refine an<|AL U dg fun Ao=>fR U cu U<|aH<|jg (fun _ _ h=>h) (aK [1,0,2,3,4,5,6,7,8,9,10,11,12])<|aT (AQ _ _ ?_)
  refine aw<|al fun _ s=>WS fun _ AR=>rP 2 [0,1] (mc 2 U (mc 3 U I)) ?_
  refine rS (BI U (SA _ _ h (aa.mk 1 0)))<|RK AR<|bR U (bw fun M=>?_) (bx fun M=>?_)
  ·refine WK s<|an<|rP 1 [] (mc 1 U I) ?_
   refine Ht U cu U<|aH<|aD ?_
   exact X q.2 _ _ (by refine ⟨zC a (mP hq) ?_,fun z hz=>?_⟩; (first|exact if_neg M|exact if_pos M); (rcases List.mem_append.1 hz with hz|hz; exact c z hz; (rw [List.mem_singleton.1 hz]; exact hq))) (aK [0,2,3,4,5,6,7,8,9,10,11,12])
  refine an<|fE 4 [0,1] (mc 1 U (mc 2 U I)) U<|rS (MN U)<|fE 4 [0,1] (mc 1 U (mc 2 U I)) U<|rS (MX U)<|rS (SX (bj (xs:=[(0,.tmp 40),(1,.tmp 45)]) (cs:=(aa.cells (aa.mk (min q.2.Lo h.Lo) (max q.2.Hi h.Hi)))) U U (bh gl U)) U U)<|tP U cu U<|RK s<|an<|rP 1 [] (mc 1 U I) ?_
  refine Ht U cu U<|aH<|aD ?_
  exact X (aa.mk (min q.2.Lo h.Lo) (max q.2.Hi h.Hi)) _ _ (by refine ⟨zC a (mP hq) ?_,fun z hz=>?_⟩; (first|exact if_neg M|exact if_pos M); (rcases List.mem_append.1 hz with hz|hz; exact c z hz; (rw [List.mem_singleton.1 hz]; exact hq))) (aK [0,2,3,4,5,6,7,8,9,10,11,12])
 rintro A4 k h v AI
 obtain ⟨a,c⟩:=AI
 try dsimp only
 refine aD<|KK T<|al fun _ V=>WS fun _ W=>rP 2 [0,1] (mc 11 U (mc 12 U I)) ?_
 refine rS (BI U (tp _ _ h (aa.mk 1 0)))<|RK W<|bR U (aR fun AE=>?_) (aS fun AE=>?_)
 ·refine WK V<|WS fun _ u=>fE 1 [] (mc 11 U I) U<|jh (vs:=(aa.cells h)) (cs':=(aa.cells h)) (C':=[_,_,_,_,_,_,_,_,_,_,_,_,_,(bZ b5 38 (aa.cells h)),_,_,_,_,_,_,_,_]) 13 U U U cu U U U U U U U<|rP 1 [] I ?_
  refine RK u<|ar<|hQ _ _ _ (ou 0 U U<|gW (vs:=[(vA (aa.cells h)),(vI 0)]) ⟨⟨_,U,.inl ⟨_,_,cq,pH (vs:=(aa.cells h)) 13 U U,U,U⟩⟩,U,trivial⟩ fun w hs=>Du ?_ hs)
  show (vT [(vA (aa.cells h)),(vI 0)])=(vT [(vA (aa.cells (eZ l r bq_))),(vI (eQ l r bq_))])
  clear hs w hQ hN u W V AC T R P O N p AF
  (rw [AG] at he ⊢; have hh:h=mu l r b:=zg (D.min _ _ Y) (C.max _ _ Z) (D.keys _ _ Y) (C.keys _ _ Z) c v a; (have e:=oe he (fun q=>AE (hh.trans q)); rw [e.1,e.2,hh]<;>rfl))
 refine WS fun _ t=>rS (SX (bj (xs:=[]) (cs:=(aa.cells (aa.mk 0 0))) U U (bh gl U)) U U)<|jh (vs:=(aa.cells (aa.mk 0 0))) (cs':=(aa.cells (aa.mk 0 0))) (C':=[_,_,_,_,_,_,_,_,_,_,_,_,_,(bZ b5 38 (aa.cells (aa.mk 0 0))),_,_,_,_,_,_,_,_]) 13 U U U cu U U U U U U U<|rP 1 [] I ?_
 refine RK t<|ar<|hQ _ _ _ (ou 0 U U<|gW (vs:=[(vA (aa.cells (aa.mk 0 0))),(vI 6)]) ⟨⟨_,U,.inl ⟨_,_,cq,pH (vs:=(aa.cells (aa.mk 0 0))) 13 U U,U,U⟩⟩,U,trivial⟩ fun w hs=>Du ?_ hs)
 show (vT [(vA (aa.cells (aa.mk 0 0))),(vI 6)])=(vT [(vA (aa.cells (eZ l r bq_))),(vI (eQ l r bq_))])
 clear hs w hQ hN t W V AC T R P O N p AF
 (rw [AG] at he ⊢; have hh:h=mu l r b:=zg (D.min _ _ Y) (C.max _ _ Z) (D.keys _ _ Y) (C.keys _ _ Z) c v a; (have e:=pZ he (hh.symm.trans AE); rw [e.1,e.2]<;>rfl))
theorem Ry (l:bf) (kA:OA) (kC:Nat) (az:List RA) (cA:OA) (cC:Nat) (bA:OA) (bC:Nat) (r:cE) (sgA:OA) (sgC:Nat) (hin:eE l az) (hsl:r.aj.length≤1000000):
 ej Tryz.prog 195 [(vA (bK.cells (lp l kA kC cA cC bA bC))),(vA (eK.cells (mB r sgA sgC)))] [(rd kA l.aJ.length 9 (l.aJ.map ao.cells)),(rd cA l.ai.length 2 (List.zipWith au.cells l.ai az)),(e7 (aU au.gY l.ai az)),(rd bA l.ag.length 4 (l.ag.map bE.cells)),(rd sgA r.aj.length 2 (r.aj.map aN.cells))] (vT [(vA (aa.cells (Au l r))),(vI (eQ l r l.bH))]):=by
 have N:=hin.sE
 have J:=hin.sD
 have H:=hin.og
 have AA:=hin.sB
 have M:=hin.side
 refine bI kr Tryz.func195 U U fun T Q hQ hN=>?_
 try dsimp only
 refine WS fun _ C=>fV U fun O=>fV U fun P=>AL U dg fun R=>bg 1 U<|RK C<|WS fun _ D=>fE 4 [0,1] (mc 2 U (mc 1 U I)) U<|rS (CL (KN l kA kC az cA cC bA bC r sgA sgC l.bH hin hsl) (bp [3,4,5,6,7]) U)<|bg 3 U<|AL U dg fun S=>fR U cu U<|bg 1 U<|RK D<|al fun _ E=>WS fun _ F=>rP 2 [] I ?_
 refine RK F<|cM U (bx fun A=>?_) (bw fun A=>?_)
 ·refine WS fun _ G=>rS (SX (bj (xs:=[]) (cs:=(aa.cells (aa.mk 0 0))) U U (bh gl U)) U U)<|bg 1 U<|tP U cu U<|rP 1 [] I ?_
  refine RK G<|ar<|lk hQ [0] (mc 1 U I) U ?_
  (rw [EC A]<;>rfl)
 refine WK E<|WS fun _ B=>rP 4 [0,1] (mc 0 U (mc 2 U I)) ?_
 have K:=w9 A
 have L:=(u0 A).time
 refine fE 6 [0,1] (mc 0 U (mc 2 U I)) U<|rS (SX (bj (xs:=[(0,.tmp 24),(1,.tmp 29)]) (cs:=(aa.cells (aa.mk (((eZ l r l.bH).Lo)-r.Start) (((eZ l r l.bH).Hi)-r.Start)))) U U (bh gl U)) U U)<|tP U cu U<|rP 1 [] I ?_
 refine RK B<|ar<|lk hQ [0] (mc 1 U I) U ?_
 (rw [As A,A]<;>rfl)
end
section
open Go.RowKit
theorem Mm (l:bf) (kA:OA) (kC:Nat) (az:List RA) (cA:OA) (cC:Nat) (bA:OA) (bC:Nat) (d:aA) (sgA:OA) (sgC:Nat) (hin:eE l az):
 ej Tryz.prog 189 [(vA (bK.cells (lp l kA kC cA cC bA bC))),(vA (br.cells (br.mk d.Out d.eO d.Time (mB d.cx sgA sgC))))] [(rd kA l.aJ.length 9 (l.aJ.map ao.cells)),(rd cA l.ai.length 2 (List.zipWith au.cells l.ai az)),(e7 (aU au.gY l.ai az)),(rd bA l.ag.length 4 (l.ag.map bE.cells)),(rd sgA d.cx.aj.length 2 (d.cx.aj.map aN.cells))] (vT [(vA (aa.cells d.Time)),(vB (decide (d.eO=false∧d.Time=dD∧l6 d.cx)))]):=by
 refine bI kr Tryz.func189 U U fun K Q hQ hN=>?_
 try dsimp only
 refine WS fun _ B=>fV U fun H=>fV U fun AA=>AL U dg fun J=>rP 1 [] I ?_
 refine RK B<|al fun _ A=>dR cD [15] [] [] [1,2,3,4,5,6,7] [] U U U U U<|eS U (FA 2 U fD U)<|eS U (LP (aa.cells d.Time) 0 U cq U U U)<|eS U (FA 1 U fD U)<|eS U (L1 (vB d.eO) 0 U cq U U)<|eS U (NT U)<|eS U (MV U)<|q6 (t:=11) U (fun G=>?_) (fun G=>?_)
 rotate_left 1
 ·rw [Bool.not_eq_false'] at G
  refine eS U (OX U)<|eS U (OX U)<|eS U (OX U)<|eS U (OX U)<|eS U (PK U)<|eS U (MV U)<|eS U (OX U)<|eS U (OX U)<|eS U (PK U)<|eS U (AG U)<|e8 U<|cp U fun T10 C=>fR U cu U<|aH (C _ _ (aK [1,2,3,4,5,6,7]) ?_)
  refine fM U<|KK A<|ar<|lk hQ [0] (mc 0 U I) U ?_
  clear hQ hN C T10 A B
  refine congrArg (fun z=>Value.tuple #[_,vB z]) ?_
  first|rfl|(simp_all [dD]; done)
 rw [Bool.not_eq_true'] at G
 refine eS U (FA 2 U fD U)<|eS U (LP (aa.cells d.Time) 0 U cq U U U)<|eS U (SX (bj (xs:=[]) (cs:=(aa.cells (aa.mk 0 0))) U U (bh gl U)) U U)<|eS U (BI U (tp _ _ d.Time (aa.mk 0 0)))<|eS U (PK U)<|eS U (MV U)<|q6 (t:=17) U (fun D=>?_) (fun D=>?_)
 rotate_left 1
 ·replace D:=DF D
  refine eS U (OX U)<|eS U (OX U)<|eS U (PK U)<|eS U (AG U)<|e8 U<|cp U fun T9 F=>fR U cu U<|aH (F _ _ (aK [1,2,3,4,5,6,7]) ?_)
  refine fM U<|KK A<|ar<|lk hQ [0] (mc 0 U I) U ?_
  clear hQ hN F T9 A B
  refine congrArg (fun z=>Value.tuple #[_,vB z]) ?_
  first|rfl|(simp_all [dD]; done)
 replace D:=DT D
 refine eS U (LW 0 U cq U U)<|eS U (CL (JO d sgA sgC) (bp [6]) U)<|eS U (PK U)<|eS U (AG U)<|e8 U<|cp U fun T8 E=>fR U cu U<|aH (E _ _ (aK [1,2,3,4,5,6,7]) ?_)
 refine fM U<|KK A<|ar<|lk hQ [0] (mc 0 U I) U ?_
 clear hQ hN E T8 A B
 refine congrArg (fun z=>Value.tuple #[_,vB z]) ?_
 first|rfl|(simp_all [dD]; done)
theorem Mw (l:bf) (kA:OA) (kC:Nat) (az:List RA) (cA:OA) (cC:Nat) (bA:OA) (bC:Nat) (d:aA) (sgA:OA) (sgC:Nat) (hin:eE l az):
 ej Tryz.prog 192 [(vA (bK.cells (lp l kA kC cA cC bA bC))),(vA (br.cells (br.mk d.Out d.eO d.Time (mB d.cx sgA sgC))))] [(rd kA l.aJ.length 9 (l.aJ.map ao.cells)),(rd cA l.ai.length 2 (List.zipWith au.cells l.ai az)),(e7 (aU au.gY l.ai az)),(rd bA l.ag.length 4 (l.ag.map bE.cells)),(rd sgA d.cx.aj.length 2 (d.cx.aj.map aN.cells))] (vT [(vA (aa.cells d.Time)),(vB (decide (iJ d.Time∧l6 d.cx)))]):=by
 refine bI kr Tryz.func192 U U fun AA Q hQ hN=>?_
 try dsimp only
 refine WS fun _ B=>fV U fun F=>fV U fun G=>AL U dg fun H=>rP 1 [] I ?_
 refine RK B<|al fun _ A=>dR cD [9] [] [] [1,2,3,4,5,6,7] [] U U U U U<|eS U (FA 2 U fD U)<|eS U (LP (aa.cells d.Time) 0 U cq U U U)<|eS U (FA 2 U fD U)<|eS U (LP (aa.cells d.Time) 0 U cq U U U)<|eS U (CL (Fv d.Time) (aL) U)<|eS U (MV U)<|q6 (t:=11) U (fun C=>?_) (fun C=>?_)
 rotate_left 1
 ·replace C:=DF C
  refine eS U (OX U)<|eS U (OX U)<|eS U (PK U)<|eS U (AG U)<|e8 U<|cp U fun T8 E=>fR U cu U<|aH (E _ _ (aK [1,2,3,4,5,6,7]) ?_)
  refine fM U<|KK A<|ar<|lk hQ [0] (mc 0 U I) U ?_
  clear hQ hN E T8 A B
  refine congrArg (fun z=>Value.tuple #[_,vB z]) ?_
  first|rfl|(simp_all; done)
 replace C:=DT C
 refine eS U (LW 0 U cq U U)<|eS U (CL (JO d sgA sgC) (bp [6]) U)<|eS U (PK U)<|eS U (AG U)<|e8 U<|cp U fun T7 D=>fR U cu U<|aH (D _ _ (aK [1,2,3,4,5,6,7]) ?_)
 refine fM U<|KK A<|ar<|lk hQ [0] (mc 0 U I) U ?_
 clear hQ hN D T7 A B
 refine congrArg (fun z=>Value.tuple #[_,vB z]) ?_
 first|rfl|(simp_all; done)
theorem Nl (l:bf) (kA:OA) (kC:Nat) (az:List RA) (cA:OA) (cC:Nat) (bA:OA) (bC:Nat) (d:aA) (sgA:OA) (sgC:Nat) (hin:eE l az) (hsl:d.cx.aj.length≤1000000):
 ej Tryz.prog 194 [(vA (bK.cells (lp l kA kC cA cC bA bC))),(vA (br.cells (br.mk d.Out d.eO d.Time (mB d.cx sgA sgC))))] [(rd kA l.aJ.length 9 (l.aJ.map ao.cells)),(rd cA l.ai.length 2 (List.zipWith au.cells l.ai az)),(e7 (aU au.gY l.ai az)),(rd bA l.ag.length 4 (l.ag.map bE.cells)),(rd sgA d.cx.aj.length 2 (d.cx.aj.map aN.cells))] (vT [(vA (aa.cells (Au l d.cx))),(vB (decide (eQ l d.cx l.bH=0∧d.Time=dD)))]):=by
 have K:=hin.sE
 have AA:=hin.sD
 have G:=hin.og
 have H:=hin.sB
 have J:=hin.side
 refine bI kr Tryz.func194 U U fun P Q hQ hN=>?_
 try dsimp only
 refine WS fun _ C=>fV U fun L=>fV U fun M=>AL U dg fun N=>bg 1 U<|RK C<|WS fun _ D=>fE 2 [] (mc 2 U I) U<|rS (LP (eK.cells (mB d.cx sgA sgC)) 1 U cq U U U)<|rS (CL (Ry l kA kC az cA cC bA bC d.cx sgA sgC hin hsl) (bp [3,4,5,6,7]) U)<|bg 3 U<|AL U dg fun O=>fR U cu U<|rP 1 [] I ?_
 refine RK D<|al fun _ A=>dR cD [9] [] [] [0,2,3,4,5,6,7,8] [] U U U U U<|eS U (LW 0 U cq U U)<|eS U (MV U)<|eS U (BI U mq)<|eS U (MV U)<|q6 (t:=18) U (fun E=>?_) (fun E=>?_)
 rotate_left 1
 ·replace E:=DF E
  refine eS U (OX U)<|eS U (OX U)<|eS U (OX U)<|eS U (OX U)<|eS U (PK U)<|eS U (AG U)<|e8 U<|cp U fun T10 B=>tP U cu U<|aH (B _ _ (aK [0,2,3,4,5,6,7,8]) ?_)
  refine fM U<|KK A<|ar<|lk hQ [0] (mc 1 U I) U ?_
  clear hQ hN B T10 A D C
  refine congrArg (fun z=>Value.tuple #[_,vB z]) ?_
  first|rfl|(simp_all [dD]; done)
 replace E:=DT E
 refine eS U (FA 2 U fD U)<|eS U (LP (aa.cells d.Time) 1 U cq U U U)<|eS U (SX (bj (xs:=[]) (cs:=(aa.cells (aa.mk 0 0))) U U (bh gl U)) U U)<|eS U (BI U (tp _ _ d.Time (aa.mk 0 0)))<|eS U (PK U)<|eS U (AG U)<|e8 U<|cp U fun T9 F=>tP U cu U<|aH (F _ _ (aK [0,2,3,4,5,6,7,8]) ?_)
 refine fM U<|KK A<|ar<|lk hQ [0] (mc 1 U I) U ?_
 clear hQ hN F T9 A D C
 refine congrArg (fun z=>Value.tuple #[_,vB z]) ?_
 first|rfl|(simp_all [dD]; done)
theorem Gj (d:aA) (sgA:OA) (sgC g1:Nat):
 ej Tryz.prog 78 [(vA (mH.cells (mH.mk (Value.func (.func 188) [].toArray [].toArray) (Value.func (.func 189) [].toArray [].toArray)))),(vP g1)] [(rd sgA d.cx.aj.length 2 (d.cx.aj.map aN.cells)),(bZ g1 46 (br.cells (br.mk d.Out d.eO d.Time (mB d.cx sgA sgC))))] (vB d.Out):=by
 refine bI kr Tryz.func78 U U fun D Q hQ hN=>?_
 try dsimp only
 refine WS fun _ A=>fV U fun C=>bg 1 U<|RK A<|WS fun _ B=>fE 3 [0,1] (mc 0 U (mr 2 U I)) U<|rS (CL (SG d sgA sgC) (bp [1]) U)<|rP 1 [] I ?_
 refine RK B<|ar<|Q1 hQ U U U ?_
 rfl
theorem HX (d:aA) (sgA:OA) (sgC g1:Nat):
 ej Tryz.prog 78 [(vA (mH.cells (mH.mk (Value.func (.func 191) [].toArray [].toArray) (Value.func (.func 192) [].toArray [].toArray)))),(vP g1)] [(rd sgA d.cx.aj.length 2 (d.cx.aj.map aN.cells)),(bZ g1 46 (br.cells (br.mk d.Out d.eO d.Time (mB d.cx sgA sgC))))] (vB d.eO):=by
 refine bI kr Tryz.func78 U U fun D Q hQ hN=>?_
 try dsimp only
 refine WS fun _ A=>fV U fun C=>bg 1 U<|RK A<|WS fun _ B=>fE 3 [0,1] (mc 0 U (mr 2 U I)) U<|rS (CL (Ri d sgA sgC) (bp [1]) U)<|rP 1 [] I ?_
 refine RK B<|ar<|Q1 hQ U U U ?_
 rfl
theorem Hc (d:aA) (sgA:OA) (sgC g1:Nat):
 ej Tryz.prog 78 [(vA (mH.cells (mH.mk (Value.func (.func 193) [].toArray [].toArray) (Value.func (.func 194) [].toArray [].toArray)))),(vP g1)] [(rd sgA d.cx.aj.length 2 (d.cx.aj.map aN.cells)),(bZ g1 46 (br.cells (br.mk d.Out d.eO d.Time (mB d.cx sgA sgC))))] (vB true):=by
 refine bI kr Tryz.func78 U U fun D Q hQ hN=>?_
 try dsimp only
 refine WS fun _ A=>fV U fun C=>bg 1 U<|RK A<|WS fun _ B=>fE 3 [0,1] (mc 0 U (mr 2 U I)) U<|rS (CL (QX d sgA sgC) (bp [1]) U)<|rP 1 [] I ?_
 refine RK B<|ar<|Q1 hQ U U U ?_
 rfl
end
section
open Go.RowKit
theorem wR (d:aA) (sgA:OA) (sgC g1:Nat):
 ej Tryz.prog 77 [(vS dG 3 3),(Value.func (.func 78) [].toArray [(vP g1)].toArray)] [(rd dG 3 2 dh),(rd sgA d.cx.aj.length 2 (d.cx.aj.map aN.cells)),(bZ g1 46 (br.cells (br.mk d.Out d.eO d.Time (mB d.cx sgA sgC))))] (vI (oz d)):=by
 refine bI kr Tryz.func77 U U fun b Q hQ hN=>?_
 try dsimp only
 refine WS fun _ F=>bg 1 U<|RK F<|al fun _ AA=>WS fun _ G=>bg 3 U<|RK G<|aw<|jY 4<|eu fun R4 Z=>WS fun _ H=>rS (SX (b_ (r:= .bool true) U U U gS) U U)<|RK H<|al fun _ AB=>aP U<|WK AB<|al fun _ J=>aw<|WS fun _ K=>bg 2 U<|RK K<|WS fun _ L=>rP 3 [] I ?_
 refine rS (IA 0 U (aG 0 U) Iv dc U om)<|rS (oB 0 0 (mH.cells (mH.mk (Value.func (.func 188) [].toArray [].toArray) (Value.func (.func 189) [].toArray [].toArray))) U cq (aG 0 U) (show dh[0]? =some [(Value.func (.func 188) [].toArray [].toArray),(Value.func (.func 189) [].toArray [].toArray)] from U) U dc U U)<|rS (CL (Gj d sgA sgC g1) (bp [1,2]) U)<|RK L<|cM U (fun X=>?_) (fun X=>?_)
 ·refine WS fun _ M=>rP 2 [] I ?_
  refine RK M<|ar<|Q1 hQ U U U ?_
  clear hQ hN M L K J AB H G AA F
  refine cI ?_
  simp [oz, *]
 refine bY<|aD<|KK J<|an<|rS (SX (b_ (r:= .int .i64 1) U U U (ik ⟨dc,dc⟩)) U U)<|bg 1 U<|RK Z<|eu fun R12 W=>WS fun _ A=>rS (SX (b_ (r:= .bool true) U U U gS) U U)<|RK A<|al fun _ B=>aP U<|WK B<|al fun _ C=>aw<|WS fun _ D=>bg 2 U<|RK D<|WS fun _ E=>rP 3 [] I ?_
 refine rS (IA 1 U (aG 0 U) Iv dc U om)<|rS (oB 1 0 (mH.cells (mH.mk (Value.func (.func 191) [].toArray [].toArray) (Value.func (.func 192) [].toArray [].toArray))) U cq (aG 0 U) (show dh[1]? =some [(Value.func (.func 191) [].toArray [].toArray),(Value.func (.func 192) [].toArray [].toArray)] from U) U dc U U)<|rS (CL (HX d sgA sgC g1) (bp [1,2]) U)<|RK E<|cM U (fun Y=>?_) (fun Y=>?_)
 ·refine WS fun _ N=>rP 2 [] I ?_
  refine RK N<|ar<|Q1 hQ U U U ?_
  clear hQ hN N E D C B A L K J AB H G AA F
  refine cI ?_
  simp [oz, *]
 refine bY<|aD<|KK C<|an<|rS (SX (b_ (r:= .int .i64 2) U U U (ik ⟨dc,dc⟩)) U U)<|bg 1 U<|RK W<|eu fun R20 a=>WS fun _ O=>rS (SX (b_ (r:= .bool true) U U U gS) U U)<|RK O<|al fun _ P=>aP U<|WK P<|al fun _ V=>aw<|WS fun _ R=>bg 2 U<|RK R<|WS fun _ S=>bg 3 U<|rS (IA 2 U (aG 0 U) Iv dc U om)<|rS (oB 2 0 (mH.cells (mH.mk (Value.func (.func 193) [].toArray [].toArray) (Value.func (.func 194) [].toArray [].toArray))) U cq (aG 0 U) (show dh[2]? =some [(Value.func (.func 193) [].toArray [].toArray),(Value.func (.func 194) [].toArray [].toArray)] from U) U dc U U)<|rS (CL (Hc d sgA sgC g1) (bp [1,2]) U)<|RK S<|aP U<|WS fun _ T=>rP 2 [] I ?_
 refine RK T<|ar<|Q1 hQ U U U ?_
 clear hQ hN T S R V P O E D C B A L K J AB H G AA F
 refine cI ?_
 simp [oz, *]
end
section
open Go.RowKit
theorem S0 (d:aA) (sgA:OA) (sgC g1:Nat) (hk:d.Out=true):
 ej Tryz.prog 77 [(vS dG 3 3),(Value.func (.func 78) [].toArray [(vP g1)].toArray)] [(rd dG 3 2 dh),(rd sgA d.cx.aj.length 2 (d.cx.aj.map aN.cells)),(bZ g1 46 (br.cells (br.mk d.Out d.eO d.Time (mB d.cx sgA sgC))))] (vI 0):=by
 have h:=wR d sgA sgC g1
 have e:oz d=0:=by simp [oz,hk]
 rw [e] at h
 exact h
theorem SR (d:aA) (sgA:OA) (sgC g1:Nat) (hk:d.Out=false∧d.eO=true):
 ej Tryz.prog 77 [(vS dG 3 3),(Value.func (.func 78) [].toArray [(vP g1)].toArray)] [(rd dG 3 2 dh),(rd sgA d.cx.aj.length 2 (d.cx.aj.map aN.cells)),(bZ g1 46 (br.cells (br.mk d.Out d.eO d.Time (mB d.cx sgA sgC))))] (vI 1):=by
 have h:=wR d sgA sgC g1
 have e:oz d=1:=by simp [oz,hk]
 rw [e] at h
 exact h
theorem Tb (d:aA) (sgA:OA) (sgC g1:Nat) (hk:d.Out=false∧d.eO=false):
 ej Tryz.prog 77 [(vS dG 3 3),(Value.func (.func 78) [].toArray [(vP g1)].toArray)] [(rd dG 3 2 dh),(rd sgA d.cx.aj.length 2 (d.cx.aj.map aN.cells)),(bZ g1 46 (br.cells (br.mk d.Out d.eO d.Time (mB d.cx sgA sgC))))] (vI 2):=by
 have h:=wR d sgA sgC g1
 have e:oz d=2:=by simp [oz,hk]
 rw [e] at h
 exact h
theorem Bp (l:bf) (kA:OA) (kC:Nat) (az:List RA) (cA:OA) (cC:Nat) (bA:OA) (bC:Nat) (d:aA) (sgA:OA) (sgC:Nat) (hin:eE l az) (hsl:d.cx.aj.length≤1000000) (hk:d.Out=true):
 ej Tryz.prog 52 [(vA (bK.cells (lp l kA kC cA cC bA bC))),(vA (br.cells (br.mk d.Out d.eO d.Time (mB d.cx sgA sgC))))] [(rd dG 3 2 dh),(rd kA l.aJ.length 9 (l.aJ.map ao.cells)),(rd cA l.ai.length 2 (List.zipWith au.cells l.ai az)),(e7 (aU au.gY l.ai az)),(rd bA l.ag.length 4 (l.ag.map bE.cells)),(rd sgA d.cx.aj.length 2 (d.cx.aj.map aN.cells))] (vT [(vA (aa.cells (dE l d))),(vB (decide (hZ l d)))]):=by
 refine bI kr Tryz.func52 U U fun AA Q hQ hN=>?_
 try dsimp only
 refine WS fun _ A=>fV U fun G=>fV U fun D=>AL U dg fun H=>bg 1 U<|RK A<|WS fun _ B=>rS (SX (ER U U yC) U U)<|rS (FU U)<|rS (CL (S0 d sgA sgC D hk) (Nb 3 8 1 U U U U U U) U)<|bg 1 U<|RK B<|al fun _ C=>dF cD 9 kr<|lz 1 U<|dS (SX (Dw (k:=0) U U U yC U om) U U)<|dS (nK ((0*2)+1) U (aG 3 U) (Nat.mul_pos om dc) fD U)<|dS (gF 0 1 (Value.func (.func 189) [].toArray [].toArray) U cq (aG 3 U) (show dh[0]? =some [(Value.func (.func 188) [].toArray [].toArray),(Value.func (.func 189) [].toArray [].toArray)] from U) U dc U)<|mI 2 [0,1] (mc 2 U (mc 1 U I)) U<|dS (CL (Mm l kA kC az cA cC bA bC d sgA sgC hin) (bp [4,5,6,7,8]) U)<|lz 2 U<|cO<|fR U cu U<|rP 1 [] I ?_
 refine RK C<|ar<|lk hQ [0] (mc 0 U I) U ?_
 have E:=FW (l:=l) hk
 have F:=qw (l:=l) hk
 simp only [E,F]
theorem Bg (l:bf) (kA:OA) (kC:Nat) (az:List RA) (cA:OA) (cC:Nat) (bA:OA) (bC:Nat) (d:aA) (sgA:OA) (sgC:Nat) (hin:eE l az) (hsl:d.cx.aj.length≤1000000) (hk:d.Out=false∧d.eO=true):
 ej Tryz.prog 52 [(vA (bK.cells (lp l kA kC cA cC bA bC))),(vA (br.cells (br.mk d.Out d.eO d.Time (mB d.cx sgA sgC))))] [(rd dG 3 2 dh),(rd kA l.aJ.length 9 (l.aJ.map ao.cells)),(rd cA l.ai.length 2 (List.zipWith au.cells l.ai az)),(e7 (aU au.gY l.ai az)),(rd bA l.ag.length 4 (l.ag.map bE.cells)),(rd sgA d.cx.aj.length 2 (d.cx.aj.map aN.cells))] (vT [(vA (aa.cells (dE l d))),(vB (decide (hZ l d)))]):=by
 refine bI kr Tryz.func52 U U fun AA Q hQ hN=>?_
 try dsimp only
 refine WS fun _ A=>fV U fun G=>fV U fun D=>AL U dg fun H=>bg 1 U<|RK A<|WS fun _ B=>rS (SX (ER U U yC) U U)<|rS (FU U)<|rS (CL (SR d sgA sgC D hk) (Nb 3 8 1 U U U U U U) U)<|bg 1 U<|RK B<|al fun _ C=>dF cD 9 kr<|lz 1 U<|dS (SX (Dw (k:=1) U U U yC U om) U U)<|dS (nK ((1*2)+1) U (aG 3 U) (Nat.mul_pos om dc) fD U)<|dS (gF 1 1 (Value.func (.func 192) [].toArray [].toArray) U cq (aG 3 U) (show dh[1]? =some [(Value.func (.func 191) [].toArray [].toArray),(Value.func (.func 192) [].toArray [].toArray)] from U) U dc U)<|mI 2 [0,1] (mc 2 U (mc 1 U I)) U<|dS (CL (Mw l kA kC az cA cC bA bC d sgA sgC hin) (bp [4,5,6,7,8]) U)<|lz 2 U<|cO<|fR U cu U<|rP 1 [] I ?_
 refine RK C<|ar<|lk hQ [0] (mc 0 U I) U ?_
 have E:=zN (l:=l) hk
 have F:=sS (l:=l) hk
 simp only [E,F]
theorem BK (l:bf) (kA:OA) (kC:Nat) (az:List RA) (cA:OA) (cC:Nat) (bA:OA) (bC:Nat) (d:aA) (sgA:OA) (sgC:Nat) (hin:eE l az) (hsl:d.cx.aj.length≤1000000) (hk:d.Out=false∧d.eO=false):
 ej Tryz.prog 52 [(vA (bK.cells (lp l kA kC cA cC bA bC))),(vA (br.cells (br.mk d.Out d.eO d.Time (mB d.cx sgA sgC))))] [(rd dG 3 2 dh),(rd kA l.aJ.length 9 (l.aJ.map ao.cells)),(rd cA l.ai.length 2 (List.zipWith au.cells l.ai az)),(e7 (aU au.gY l.ai az)),(rd bA l.ag.length 4 (l.ag.map bE.cells)),(rd sgA d.cx.aj.length 2 (d.cx.aj.map aN.cells))] (vT [(vA (aa.cells (dE l d))),(vB (decide (hZ l d)))]):=by
 refine bI kr Tryz.func52 U U fun AA Q hQ hN=>?_
 try dsimp only
 refine WS fun _ A=>fV U fun G=>fV U fun D=>AL U dg fun H=>bg 1 U<|RK A<|WS fun _ B=>rS (SX (ER U U yC) U U)<|rS (FU U)<|rS (CL (Tb d sgA sgC D hk) (Nb 3 8 1 U U U U U U) U)<|bg 1 U<|RK B<|al fun _ C=>dF cD 9 kr<|lz 1 U<|dS (SX (Dw (k:=2) U U U yC U om) U U)<|dS (nK ((2*2)+1) U (aG 3 U) (Nat.mul_pos om dc) fD U)<|dS (gF 2 1 (Value.func (.func 194) [].toArray [].toArray) U cq (aG 3 U) (show dh[2]? =some [(Value.func (.func 193) [].toArray [].toArray),(Value.func (.func 194) [].toArray [].toArray)] from U) U dc U)<|mI 2 [0,1] (mc 2 U (mc 1 U I)) U<|dS (CL (Nl l kA kC az cA cC bA bC d sgA sgC hin hsl) (bp [4,5,6,7,8]) U)<|lz 2 U<|cO<|fR U cu U<|rP 1 [] I ?_
 refine RK C<|ar<|lk hQ [0] (mc 0 U I) U ?_
 have E:=vV (l:=l) hk
 have F:=tn (l:=l) hk
 simp only [E,F]
theorem Ep (l:bf) (kA:OA) (kC:Nat) (az:List RA) (cA:OA) (cC:Nat) (bA:OA) (bC:Nat) (d:aA) (sgA:OA) (sgC:Nat) (hin:eE l az) (hsl:d.cx.aj.length≤1000000):
 ej Tryz.prog 52 [(vA (bK.cells (lp l kA kC cA cC bA bC))),(vA (br.cells (br.mk d.Out d.eO d.Time (mB d.cx sgA sgC))))] [(rd dG 3 2 dh),(rd kA l.aJ.length 9 (l.aJ.map ao.cells)),(rd cA l.ai.length 2 (List.zipWith au.cells l.ai az)),(e7 (aU au.gY l.ai az)),(rd bA l.ag.length 4 (l.ag.map bE.cells)),(rd sgA d.cx.aj.length 2 (d.cx.aj.map aN.cells))] (vT [(vA (aa.cells (dE l d))),(vB (decide (hZ l d)))]):=by
 by_cases ho:d.Out=true
 ·exact Bp l kA kC az cA cC bA bC d sgA sgC hin hsl ho
 by_cases hf:d.eO=true
 ·exact Bg l kA kC az cA cC bA bC d sgA sgC hin hsl ⟨by simpa using ho,hf⟩
 ·exact BK l kA kC az cA cC bA bC d sgA sgC hin hsl ⟨by simpa using ho,by simpa using hf⟩
end
section
open Go.RowKit
theorem Ks (r:cf) (kA:OA) (kC:Nat) (az:List RA) (cA:OA) (cC:Nat) (bA:OA) (bC:Nat) (slA:OA) (slC:Nat) (drA:OA) (drC:Nat) (ha:List cQ) (heA:OA) (heC:Nat) (tz:List RA) (tA:OA) (tC:Nat) (ms:Value) (gw h:Nat) (gm g1 g2:Nat) (hin:fg r az ha) (htz:tz.length=r.aq.length) (hh:h<r.aq.length) (hok:j5 r (h+1)):
 De Tryz.prog 79 [(vI (h:Int)),(vP g1),(vP g2)] [(rd kA r.ah.aJ.length 9 (r.ah.aJ.map ao.cells)),(rd cA r.ah.ai.length 2 (List.zipWith au.cells r.ah.ai az)),(e7 (aU au.gY r.ah.ai az)),(rd bA r.ah.ag.length 4 (r.ah.ag.map bE.cells)),(rd slA r.aI.length 1 (r.aI.map iC)),(rd drA r.bD.length 1 (r.bD.map iC)),(rd heA r.aq.length 1 (List.zipWith cz r.aq ha)),(e7 (aU hU r.aq ha)),(rd tA ((cP r).length) 1 (List.zipWith Ei (cP r) tz)),(e7 (aU L9 (cP r) tz)),(bZ gw 88 (fQ.cells (fQ.mk (ot r kA kC cA cC bA bC slA slC drA drC heA heC) (aM.mk tA ((cP r).length) tC) ms))),(bZ g1 80 [(vP gw)]),(bZ g2 58 [(Value.map (some gm))])] (gZ iV gm (bM df (er r.ah r.aq r.aI.length h 0))) (fun (x:Unit)=>(vT [])) (fun (x:Unit)=>True) (fun (x:Unit)=>(gZ iV gm (bM df (er r.ah r.aq r.aI.length (h+1) 0)))):=by
 have v:=hin.line
 have AI:=hin.iM
 have AJ:=hin.has
 have AC:=hin.iN
 have AA:=hin.draw
 have AD:=dH (r:=r)
 refine mE kr Tryz.func79 U U fun w0 Q hQ hN=>?_
 try dsimp only
 refine WS fun _ g=>fE 1 [] (mr 12 U I) U<|rS (SX (bQ U U) U U)<|rP 3 [] (mr 11 U I) ?_
 obtain ⟨ht,B⟩:=aO r.aq h om
 obtain ⟨A,C⟩:=aO ha h om
 have Z:(List.zipWith cz r.aq ha)[h]? =some (cz ht A):=dZ B C
 have s:=hin.oI _ _ _ B C
 have AB:=s.og
 have N:=hok h ht om B
 obtain ⟨tr,G⟩:=aO (cP r) h om
 obtain ⟨tra,F⟩:=aO tz h om
 have c:(List.zipWith Ei (cP r) tz)[h]? =some (Ei tr tra):=dZ G F
 refine rS (IA h U (aG 9 U) Mi dc om om)<|rS (gF h 0 (vS tra.1 tr.length tra.2) U cq (aG 9 U) c U dc U) ?_
 have AM:=yT B G
 have AF:tr.length=r.aI.length:=by rw [AM,List.length_map]; exact N.1
 have AE:=N.1
 refine rP 2 [] I ?_
 refine RK g<|aw ?_
 have E:(0≤r.aI.length):=by exact Nat.zero_le _
 refine bO (ι:={z:Nat // (z≤r.aI.length)}) [0,1,2,14,15] [1,2,3,4,5,6,7,8,9,10,11,12,13] U U (fun z=>[(16,(vI (z.1:Int)))]) (fun z=>[(gZ iV gm (bM df (er r.ah r.aq r.aI.length h z.1)))]) (fun _=>rfl) (fun _=>rfl) (fun z=>r.aI.length-z.1) ⟨0,E⟩ (aQ U) (aK [1,2,3,4,5,6,7,8,9,10,11,12,13,0]) ?_
 clear E
 rintro ⟨i,u⟩ J2 K
 try dsimp only
 have a:i<r.aI.length→(er r.ah r.aq r.aI.length h i).lookup (i:Int)=fT r.ah r.aq i h:=IW
 refine WS fun _ k=>rP 1 [] I ?_
 refine RK k<|al fun _ m=>bR U (aR fun h5=>?_) (aS fun h5=>?_)
 ·refine bB<|ae<|ae<|ax ?_
  rw [show (er r.ah r.aq r.aI.length h i)=(er r.ah r.aq r.aI.length (h+1) 0) from by rw [show i=r.aI.length by omega]; exact No]
  refine LM hN () 13 [] I U U U U ?_
  trivial
 refine WK m<|al fun _ L=>aw<|WS fun _ n=>rP 1 [] I ?_
 obtain ⟨x,hx⟩:=aO tr i om
 have y:=bP aa.cells hx
 refine rS (IA i U (show jc _ (rd tra.1 tr.length 2 (tr.map aa.cells)).holds from (dy 9 U (cj G F (by simp [L9])))) jK dc om om)<|rS (oB i 0 (aa.cells x) U cq (show jc _ (rd tra.1 tr.length 2 (tr.map aa.cells)).holds from (dy 9 U (cj G F (by simp [L9])))) y U dc U U)<|AL U dg fun b8=>bg 1 U<|fR U cu U<|RK n<|WS fun _ o=>fE 2 [] (mr 13 U I) U<|rS (SX (jZ (kV:=iV) (x:=(i:Int)) (l:=(er r.ah r.aq r.aI.length h i)) (f:=df) (z:=(aa.mk 0 0)) U U U lF (dB od) vD (by exact aG 14 U)) U U)<|bg 3 U<|AL U dg fun AG=>fR U cu U<|bg 1 U<|RK o<|al fun _ P=>WS fun _ H=>fE 1 [] (mr 13 U I) U<|rS (SX (bQ U U) U U)<|fE 4 [] (mr 12 U I) U<|rS (IA h U (aG 8 U) rm dc om om)<|rS (gF h 0 (vS A.1.1 ht.length A.1.2) U cq (aG 8 U) Z U dc U)<|rP 1 [] I ?_
 obtain ⟨d,hd⟩:=aO ht i om
 obtain ⟨da,p⟩:=aO A.2 i om
 have q:(List.zipWith aA.cells ht A.2)[i]? =some (aA.cells d da):=dZ hd p
 refine rS (IA i U (show jc _ (rd A.1.1 ht.length 7 (List.zipWith aA.cells ht A.2)).holds from (dy 9 U (cj B C cm))) wT dc om om)<|rS (nK (i*7) U (show jc _ (rd A.1.1 ht.length 7 (List.zipWith aA.cells ht A.2)).holds from (dy 9 U (cj B C cm))) (Nat.mul_pos om dc) fD U)<|rS (gF i 0 (vB d.Out) U cq (show jc _ (rd A.1.1 ht.length 7 (List.zipWith aA.cells ht A.2)).holds from (dy 9 U (cj B C cm))) q U dc U)<|rP 1 [] I ?_
 refine db (t:=39) U (fun J=>?_) (fun J=>?_)
 ·refine bg 3 U<|RK H<|aP U<|WS fun _ R=>rP 2 [] (mr 14 U I) ?_
  have T:(cd (er r.ah r.aq r.aI.length h i) (i:Int))=(er r.ah r.aq r.aI.length h (i+1)):=by exact EY (by exact G8 B hd J)
  refine pD (kV:=iV) (x:=(i:Int)) (C':=[_,_,_,_,_,_,_,_,_,_,_,_,_,_,_,(gZ iV gm (bM df (er r.ah r.aq r.aI.length h (i+1))))]) 15 U U U U lF (dB od) U ((lJ _ _ _).symm.trans (congrArg _ T)) U<|RK R<|bB<|ae<|ax<|KK L<|an<|rP 2 [] I ?_
  refine aH ?_
  have AH:(vI (((i+1):Nat):Int))=(vI ((i:Int)+1)):=by exact cI om
  refine aT (K ⟨(i+1),(by first|omega|(simp only []; omega))⟩ _ _ _ U os (cN 5<|bk U AH<|dx.nil _) (aK [2,3,4,5,6,7,8,9,10,11,12,13,14,15]))
 refine rP 3 [] I ?_
 refine RK H<|cM U (fun D=>?_) (fun D=>?_)
 ·rw [Bool.not_eq_true'] at D
  refine WS fun _ S=>rP 2 [] (mr 14 U I) ?_
  have V:(cd (er r.ah r.aq r.aI.length h i) (i:Int))=(er r.ah r.aq r.aI.length h (i+1)):=by exact EY (by exact DO ((a om).symm.trans (Option.not_isSome_iff_eq_none.1 (by rw [D]; decide))))
  refine pD (kV:=iV) (x:=(i:Int)) (C':=[_,_,_,_,_,_,_,_,_,_,_,_,_,_,_,(gZ iV gm (bM df (er r.ah r.aq r.aI.length h (i+1))))]) 15 U U U U lF (dB od) U ((lJ _ _ _).symm.trans (congrArg _ V)) U<|RK S<|bB<|ae<|ax<|KK L<|an<|rP 2 [] I ?_
  refine aH ?_
  have W:(vI (((i+1):Nat):Int))=(vI ((i:Int)+1)):=by exact cI om
  refine aT (K ⟨(i+1),(by first|omega|(simp only []; omega))⟩ _ _ _ U os (cN 5<|bk U W<|dx.nil _) (aK [2,3,4,5,6,7,8,9,10,11,12,13,14,15]))
 rw [Bool.not_eq_false'] at D
 refine WK P<|an ?_
 obtain ⟨O,b⟩:=Option.isSome_iff_exists.1 D
 have M:fT r.ah r.aq i h=some O:=(a om).symm.trans b
 have e:=Js AM hx hd
 have AK:=Ax (fun j x hj hx=>hok j x om hx) om M
 have w:=Fy (N.2 d (aX hd))
 rw [← e] at w
 rw [show ((List.lookup (i:Int) (er r.ah r.aq r.aI.length h i)).getD (aa.mk 0 0))=O from by rw [b]; rfl]
 refine fE 6 [0,1,2] (mr 14 U (mc 0 U (mc 1 U I))) U<|rS (BI U (tm om om om))<|fE 5 [0,1] (mc 0 U (mc 1 U I)) U<|rS (BI U (tm om om om))<|rP 1 [] I ?_
 refine rS (SX (bj (xs:=[(0,.tmp 52),(1,.tmp 58)]) (cs:=(aa.cells (aa.mk (O.Lo+(x.Lo/10)) (O.Hi+(x.Hi/10))))) U U (bh gl U)) U U) ?_
 have X:(dK (er r.ah r.aq r.aI.length h i) (i:Int) (aa.mk (O.Lo+(x.Lo/10)) (O.Hi+(x.Hi/10))))=(er r.ah r.aq r.aI.length h (i+1)):=by exact Mg om (by rw [M]; rfl) (by rw [e]; exact Ey B hd (by rw [J]; decide) M)
 refine iu (kV:=iV) (x:=(i:Int)) (C':=[_,_,_,_,_,_,_,_,_,_,_,_,_,_,_,(gZ iV gm (bM df (er r.ah r.aq r.aI.length h (i+1))))]) 15 U U U U lF (dB od) U ((gE _ _ _ _).symm.trans (congrArg _ X)) U<|aH<|aD<|KK L<|an<|rP 2 [] I ?_
 refine aH ?_
 have Y:(vI (((i+1):Nat):Int))=(vI ((i:Int)+1)):=by exact cI om
 refine aT (K ⟨(i+1),(by first|omega|(simp only []; omega))⟩ _ _ _ U os (cN 5<|bk U Y<|dx.nil _) (aK [2,3,4,5,6,7,8,9,10,11,12,13,14,15]))
theorem O0 (r:cf) (kA:OA) (kC:Nat) (az:List RA) (cA:OA) (cC:Nat) (bA:OA) (bC:Nat) (slA:OA) (slC:Nat) (drA:OA) (drC:Nat) (ha:List cQ) (heA:OA) (heC:Nat) (tz:List RA) (tA:OA) (tC:Nat) (ms:Value) (gw n:Nat) (hin:fg r az ha) (htz:tz.length=r.aq.length) (hn:n≤r.aq.length) (hok:j5 r n):
 lv Tryz.prog 53 [(vP gw),(vI (n:Int))] [(rd kA r.ah.aJ.length 9 (r.ah.aJ.map ao.cells)),(rd cA r.ah.ai.length 2 (List.zipWith au.cells r.ah.ai az)),(e7 (aU au.gY r.ah.ai az)),(rd bA r.ah.ag.length 4 (r.ah.ag.map bE.cells)),(rd slA r.aI.length 1 (r.aI.map iC)),(rd drA r.bD.length 1 (r.bD.map iC)),(rd heA r.aq.length 1 (List.zipWith cz r.aq ha)),(e7 (aU hU r.aq ha)),(rd tA ((cP r).length) 1 (List.zipWith Ei (cP r) tz)),(e7 (aU L9 (cP r) tz)),(bZ gw 88 (fQ.cells (fQ.mk (ot r kA kC cA cC bA bC slA slC drA drC heA heC) (aM.mk tA ((cP r).length) tC) ms)))] (fun (x:Nat)=>(Value.map (some x))) (fun (x:Nat)=>True) (fun (x:Nat)=>[(gZ iV x (bM df (eM r n)))]):=by
 have c:=hin.line
 have m:=hin.iM
 have o:=hin.has
 have e:=hin.iN
 have d:=hin.draw
 have f:=dH (r:=r)
 refine dp kr Tryz.func53 U U fun q Q hQ hN=>?_
 try dsimp only
 refine WS fun _ V=>uy U U fun k=>rP 1 [] I ?_
 refine RK V<|WS fun _ W=>mz (kV:=iV) U U fun B=>?_
 try dsimp only
 refine AL U Q9 fun l=>Hz U Nm U U<|RK W<|al fun _ X=>WS fun _ Y=>fE 1 [] (mc 2 U I) U<|rS (SX (bQ U U) U U)<|rP 5 [] (mr 13 U I) ?_
 refine RK Y<|aw ?_
 skip
 have A:(0≤r.aI.length):=by exact Nat.zero_le _
 refine bO (ι:={z:Nat // (z≤r.aI.length)}) [1,2,5,15] [0,2,3,4,5,6,7,8,9,10,11,12,13] U U (fun z=>[(16,(vI (z.1:Int)))]) (fun z=>[(gZ iV B (bM df (er r.ah r.aq z.1 0 0)))]) (fun _=>rfl) (fun _=>rfl) (fun z=>r.aI.length-z.1) ⟨0,A⟩ (aQ U) (aK [0,2,3,4,5,6,7,8,9,10,11,12,13,1]) ?_
 clear A
 rintro ⟨i,a⟩ J8 AA
 try dsimp only
 refine WS fun _ Z=>rP 1 [] I ?_
 refine RK Z<|al fun _ D=>cM U (aS fun S=>?_) (aR fun S=>?_)
 ·refine WK D<|al fun _ E=>aw<|WS fun _ F=>bg 2 U<|RK F<|an<|rP 2 [] (mc 0 U I) ?_
  refine rS (SX (bj (xs:=[]) (cs:=(aa.cells (aa.mk 0 0))) U U (bh gl U)) U U) ?_
  have O:(dK (er r.ah r.aq i 0 0) (i:Int) (aa.mk 0 0))=(er r.ah r.aq (i+1) 0 0):=by exact M9
  refine iu (kV:=iV) (x:=(i:Int)) (C':=[_,_,_,_,_,_,_,_,_,_,_,_,_,(gZ iV B (bM df (er r.ah r.aq (i+1) 0 0)))]) 13 U U U U lF (dB od) U ((gE _ _ _ _).symm.trans (congrArg _ O)) U<|aH<|aD<|KK E<|an<|rP 2 [] I ?_
  refine aH ?_
  have P:(vI (((i+1):Nat):Int))=(vI ((i:Int)+1)):=by exact cI om
  refine aT (AA ⟨(i+1),(by first|omega|(simp only []; omega))⟩ _ _ _ U os (cN 4<|bk U P<|dx.nil _) (aK [0,1,2,3,4,5,6,7,8,9,10,11,12,13]))
 refine bB<|ae<|ae<|ax<|KK X<|WS fun _ G=>rS (FU U)<|bg 1 U<|RK G<|al fun _ H=>WS fun _ AB=>rP 2 [] I ?_
 refine RK AB<|aw ?_
 rw [show (er r.ah r.aq i 0 0)=(er r.ah r.aq r.aI.length 0 0) from by rw [show i=r.aI.length by omega]]
 have A:(0≤n):=by exact Nat.zero_le _
 refine bO (ι:={z:Nat // (z≤n)}) [2,5,7,24] [0,1,2,3,4,5,6,7,8,9,10,11,12] U U (fun z=>[(25,(vI (z.1:Int)))]) (fun z=>[(gZ iV B (bM df (er r.ah r.aq r.aI.length z.1 0)))]) (fun _=>rfl) (fun _=>rfl) (fun z=>n-z.1) ⟨0,A⟩ (aQ U) (aK [0,1,2,3,4,5,6,7,8,9,10,11,12,13]) ?_
 clear A
 rintro ⟨h,b⟩ J19 C
 try dsimp only
 refine WS fun _ J=>rP 1 [] I ?_
 refine RK J<|al fun _ K=>bR U (aR fun T=>?_) (aS fun T=>?_)
 ·refine bB<|ae<|ae<|ax<|KK H<|al fun _ N=>?_
  rw [show (er r.ah r.aq r.aI.length h 0)=(eM r n) from by rw [show h=n by omega]; exact MW]
  refine an<|rP 2 [] (mc 0 U I) ?_
  refine RK N<|ar<|LX hQ B [13] [] I U U U U ?_
  trivial
 refine WK K<|al fun _ L=>aw<|WS fun _ M=>bg 2 U<|RK M<|an<|rP 2 [] I ?_
 refine iQ 13 U U U U (Ks r kA kC az cA cC bA bC slA slC drA drC ha heA heC tz tA tC ms gw h B k l hin htz om (by exact fun j x hj hx=>hok j x om hx)) U (eg 2 U U (dI (bU _)) (eg 3 U U (dI (bU _)) (eg 4 U U (dI (bU _)) (eg 5 U U (dI (bU _)) (eg 6 U U (dI (bU _)) (eg 7 U U (dI (bU _)) (eg 8 U U (dI (bU _)) (eg 9 U U (dI (bU _)) (eg 10 U U (dI (bU _)) (eg 11 U U (dI (bU _)) (eg 12 U U (dI (bU _)) (eg 1 U U (bU _) (eg 0 U U (bU _) ki))))))))))))) U (fun p g=>?_)
 try dsimp only
 refine aH<|aD<|KK L<|an<|rP 2 [] I ?_
 refine aH ?_
 have R:(vI (((h+1):Nat):Int))=(vI ((h:Int)+1)):=by exact cI om
 refine aT (C ⟨(h+1),(by first|omega|(simp only []; omega))⟩ _ _ _ U os (cN 4<|bk U R<|dx.nil _) (aK [0,1,2,3,4,5,6,7,8,9,10,11,12,13]))
end
section
open Go.RowKit
theorem oa (r:cf) (kA:OA) (kC:Nat) (az:List RA) (cA:OA) (cC:Nat) (bA:OA) (bC:Nat) (slA:OA) (slC:Nat) (drA:OA) (drC:Nat) (ha:List cQ) (heA:OA) (heC:Nat) (hin:fg r az ha):
 lv Tryz.prog 31 [(vA (bq.cells (ot r kA kC cA cC bA bC slA slC drA drC heA heC)))] [(rd dG 3 2 dh),(rd kA r.ah.aJ.length 9 (r.ah.aJ.map ao.cells)),(rd cA r.ah.ai.length 2 (List.zipWith au.cells r.ah.ai az)),(e7 (aU au.gY r.ah.ai az)),(rd bA r.ah.ag.length 4 (r.ah.ag.map bE.cells)),(rd slA r.aI.length 1 (r.aI.map iC)),(rd drA r.bD.length 1 (r.bD.map iC)),(rd heA r.aq.length 1 (List.zipWith cz r.aq ha)),(e7 (aU hU r.aq ha))] (fun (x:Bool×Int×Nat×Nat×(OA)×Nat×(List RA))=>bif x.1 then (vT [(Value.pointer (some ⟨x.2.2.1,0,none⟩)),(vI 0)]) else (vT [(Value.pointer none),(vI x.2.1)])) (fun (x:Bool×Int×Nat×Nat×(OA)×Nat×(List RA))=>(x.1=true→(bX r=0∧x.2.2.2.2.2.2.length=r.aq.length))∧(x.1=false→(x.2.1=bX r∧ ¬ bX r=0))) (fun (x:Bool×Int×Nat×Nat×(OA)×Nat×(List RA))=>bif x.1 then [(bZ x.2.2.1 88 (fQ.cells (fQ.mk (ot r kA kC cA cC bA bC slA slC drA drC heA heC) (aM.mk x.2.2.2.2.1 ((cP r).length) x.2.2.2.2.2.1) (Value.map (some x.2.2.2.1))))),(own x.2.2.2.2.1 x.2.2.2.2.2.1 85 1 (List.zipWith Ei (cP r) x.2.2.2.2.2.2)),(bo (aU Dd (cP r) x.2.2.2.2.2.2)),(gZ iV x.2.2.2.1 (bM df (aB r)))] else []):=by
 have BA:=hin.line
 have BW:=hin.iM
 have BX:=hin.has
 have BL:=hin.iN
 have BJ:=hin.draw
 have Aj:=dH (r:=r)
 refine dp kr Tryz.func31 U U fun w0 Q hQ hN=>?_
 try dsimp only
 refine WS fun _ A1=>fV U fun b2=>bg 2 U<|RK A1<|al fun _ A2=>WS fun _ A3=>bg 1 U<|rS (LP (bK.cells (lp r.ah kA kC cA cC bA bC)) 0 U cq U U U)<|rS (CL (Bu r.ah kA kC az cA cC bA bC asm) (bp [2,3,4,5]) U)<|bg 1 U<|RK A3<|WS fun _ A4=>rP 2 [] I ?_
 refine RK A4<|cM U (bx fun B=>?_) (bw fun B=>?_)
 ·refine WS fun _ A5=>rP 3 [] I ?_
  refine RK A5<|ar<|LX hQ (false,(dw r.ah),0,0,none,0,[]) [] [] I U (by rfl) U U ?_
  exact rf<|JV (zw B) B
 refine WK A2<|WS fun _ A6=>fE 4 [] (mc 0 U I) U<|RK A6<|WS fun _ A7=>rP 2 [] (mc 0 U I) ?_
 refine cX (wF drA r.bD.length drC) (aL) U fun An BM=>?_
 try dsimp only
 refine cX (w7 r.bD drA drC An asm) (bp [8,0]) U fun BI BN=>?_
 obtain ⟨BP,BU⟩:=BI
 try dsimp only
 refine bg 1 U<|RK A7<|al fun _ e=>WS fun _ H=>rP 1 [] I ?_
 refine cU (xs:=[.tmp 29]) (cs:=[(vI (r.aI.length:Int))]) U cy jd U U U U (by simp [Value.cells]) U U fun Ao=>?_
 refine rS (CL (ej.eq (j6 1 5 ([(r.aI.length:Int)]) (some ⟨Ao,0,none⟩) 1 (by (simp; done))) cT) (ay (aY 0 U U (by simp [bJ]) U)<|aL) U) ?_
 refine rP 2 [] I ?_
 refine db (t:=33) U (bx fun As=>?_) (bw fun As=>?_)
 ·refine bg 26 U<|RK H<|aP U<|WS fun _ f=>rP 2 [] I ?_
  refine RK f<|ar<|LX hQ (false,60,0,0,none,0,[]) [] [] I U (by rfl) U U ?_
  exact rf<|pL (kx B (fun q:eX r=>by have q1:=q.num; have q2:=q.xH; have q3:=q.nh; have q4:=q.yk; omega))
 refine rP 6 [] I ?_
 refine db (t:=39) U (bx fun At=>?_) (bw fun At=>?_)
 ·refine bg 20 U<|RK H<|aP U<|WS fun _ g=>rP 2 [] I ?_
  refine RK g<|ar<|LX hQ (false,60,0,0,none,0,[]) [] [] I U (by rfl) U U ?_
  exact rf<|pL (kx B (fun q:eX r=>by have q1:=q.num; have q2:=q.xH; have q3:=q.nh; have q4:=q.yk; omega))
 refine rP 2 [] (mc 3 U I) ?_
 refine cU (xs:=[.tmp 41]) (cs:=[(vI r.ed)]) U cy jd U U U U (by simp [Value.cells]) U U fun Ap=>?_
 refine rS (CL (ej.eq (j6 0 5 ([r.ed]) (some ⟨Ap,0,none⟩) 1 (by (simp; done))) cT) (ay (aY 0 U U (by simp [bJ]) U)<|aL) U) ?_
 refine rP 3 [] I ?_
 refine db (t:=46) U (bx fun Au=>?_) (bw fun Au=>?_)
 ·refine bg 13 U<|RK H<|aP U<|WS fun _ k=>rP 2 [] I ?_
  refine RK k<|ar<|LX hQ (false,60,0,0,none,0,[]) [] [] I U (by rfl) U U ?_
  exact rf<|pL (kx B (fun q:eX r=>by have q1:=q.num; have q2:=q.xH; have q3:=q.nh; have q4:=q.yk; omega))
 refine rP 3 [] (mc 4 U I) ?_
 refine cU (xs:=[.tmp 49]) (cs:=[(vI (r.aq.length:Int))]) U cy jd U U U U (by simp [Value.cells]) U U fun Aq=>?_
 refine rS (CL (ej.eq (j6 1 3 ([(r.aq.length:Int)]) (some ⟨Aq,0,none⟩) 1 (by (simp; done))) cT) (ay (aY 0 U U (by simp [bJ]) U)<|aL) U) ?_
 refine rP 3 [] I ?_
 refine db (t:=54) U (bx fun Av=>?_) (bw fun Av=>?_)
 ·refine bg 5 U<|RK H<|aP U<|WS fun _ l=>rP 2 [] I ?_
  refine RK l<|ar<|LX hQ (false,60,0,0,none,0,[]) [] [] I U (by rfl) U U ?_
  exact rf<|pL (kx B (fun q:eX r=>by have q1:=q.num; have q2:=q.xH; have q3:=q.nh; have q4:=q.yk; omega))
 refine fE 2 [] (mc 5 U I) U<|rS (CL (j6 0 9999 r.aI slA slC asm) (bp [11]) U)<|rP 2 [] I ?_
 refine RK H<|cM U (fun N=>?_) (fun N=>?_)
 ·rw [Bool.not_eq_true'] at N
  refine WS fun _ m=>rP 2 [] I ?_
  refine RK m<|ar<|LX hQ (false,60,0,0,none,0,[]) [] [] I U (by rfl) U U ?_
  exact rf<|pL (kx B (fun q:eX r=>by exact absurd (q.ins.symm.trans N) dc))
 rw [Bool.not_eq_false'] at N
 refine WK e<|al fun _ o=>WS fun _ p=>?_
 have BY:(dk r.bD).length=r.aI.length:=by rw [gn]; omega
 refine rP 2 [] I ?_
 refine RK p<|aw ?_
 have A:(0≤r.aI.length)∧(qV r 0):=by exact ⟨Nat.zero_le _,Eo⟩
 refine bO (ι:={z:Nat // (z≤r.aI.length)∧(qV r z)}) [1,5,6,60] [3,5,6,7,8,9,10,11,12,13,14] U U (fun z=>[(61,(vI (z.1:Int)))]) (fun z=>[]) (fun _=>rfl) (fun _=>rfl) (fun z=>r.aI.length-z.1) ⟨0,A⟩ (aQ U) (aK [3,5,6,7,8,9,10,11,12,13,14]) ?_
 clear A
 rintro ⟨i,⟨A_,J⟩⟩ J28 V
 try dsimp only
 refine WS fun _ s=>rP 1 [] I ?_
 refine RK s<|al fun _ w=>cM U (aS fun Ax=>?_) (aR fun Ax=>?_)
 ·refine WK w<|al fun _ W=>aw<|WS fun _ AA=>bg 2 U<|RK AA<|al fun _ O=>dF cD 24 kr<|dP 2 [] I ?_
  obtain ⟨x,hx⟩:=aO (dk r.bD) i om
  have BB:=bP iC hx
  refine dS (IA i U (ak (n:=r.bD.length) 0 U sq) cy dc om om) ?_
  refine dS (gF i 0 (vI x) U cq (ak (n:=(dk r.bD).length) 0 U sm) BB U dc U)<|dP 3 [] I ?_
  refine iS (t:=70) U (bx fun S=>?_) (bw fun S=>?_)
  ·refine lz 17 U<|cO<|RK O<|aP U<|WS fun _ AB=>rP 2 [] I ?_
   refine RK AB<|ar<|LX hQ (false,60,0,0,none,0,[]) [] [] I U (by rfl) U U ?_
   exact rf<|pL (kx B (fun q:eX r=>by exact absurd (q.drawn hx) S))
  refine dP 3 [] I ?_
  refine jk (t:=73) U (aR fun Ay=>?_) (aS fun Ay=>?_)
  ·refine lz 14 U<|cO<|RK O<|aV U<|bY<|aD<|KK W<|an<|rP 2 [] I ?_
   refine aH ?_
   have Ad:(vI (((i+1):Nat):Int))=(vI ((i:Int)+1)):=by exact cI om
   refine aT (V ⟨(i+1),⟨om,wP J hx S (fun u v hu hv hw=>by omega)⟩⟩ _ _ _ U os (cN 4<|bk U Ad<|dx.nil _) (aK [0,1,2,3,4,5,6,7,8,9,10]))
  refine dP 3 [] (mc 1 U I) ?_
  obtain ⟨y,hy⟩:=aO r.aI i om
  have BC:=bP iC hy
  refine dS (IA i U (aG 7 U) cy dc om om)<|dS (gF i 0 (vI y) U cq (aG 7 U) BC U dc U)<|dP 4 [] (mc 1 U I) ?_
  obtain ⟨z,hz⟩:=aO r.aI (i-1) om
  have BD:=bP iC hz
  refine dS (IA (i-1) U (aG 7 U) cy dc om om)<|dS (gF (i-1) 0 (vI z) U cq (aG 7 U) BD U dc U)<|dP 3 [] I ?_
  refine cO<|RK O<|bR U (aR fun Az=>?_) (aS fun Az=>?_)
  ·refine bY<|aD<|KK W<|an<|rP 2 [] I ?_
   refine aH ?_
   have Ac:(vI (((i+1):Nat):Int))=(vI ((i:Int)+1)):=by exact cI om
   refine aT (V ⟨(i+1),⟨om,wP J hx S (fun u v hu hv hw=>by (rw [hy] at hu; cases hu; rw [hz] at hw; cases hw; omega))⟩⟩ _ _ _ rfl os (cN 4<|bk rfl Ac<|dx.nil _) (aK [0,1,2,3,4,5,6,7,8,9,10]))
  refine WS fun _ AC=>rP 2 [] I ?_
  refine RK AC<|ar<|LX hQ (false,60,0,0,none,0,[]) [] [] I U (by rfl) U U ?_
  exact rf<|pL (kx B (fun q:eX r=>by have q1:=(q.ids i y hy).2 z om hz; omega))
 refine bB<|ae<|ae<|ax<|KK o<|WS fun _ AD=>fE 1 [] (mc 1 U I) U<|rS (SX (bj (xs:=[(0,.tmp 89)]) (cs:=(fQ.cells (fQ.mk (ot r kA kC cA cC bA bC slA slC drA drC heA heC) (aM.mk none 0 0) (Value.map none)))) U U (bh UR U)) U U)<|fV U fun L=>bg 1 U<|RK AD<|al fun _ AE=>WS fun _ AG=>rP 4 [] (mc 2 U I) ?_
 refine RK AG<|aw<|fX 85 1<|ox ?_
 have A:(0≤r.aq.length)∧(([]:List RA).length=0)∧(j5 r 0):=by exact ⟨Nat.zero_le _,rfl,xU⟩
 refine bO (ι:={z:Nat×(List RA)×(OA)×Nat // (z.1≤r.aq.length)∧(z.2.1.length=z.1)∧(j5 r z.1)}) [1,5,8,93,94] [3,4,5,6,7,8,9,10,11,12,13] U U (fun z=>[(95,(vI (z.1.1:Int)))]) (fun z=>[(bo (aU Dd (gH r z.1.1) z.1.2.1)),(own z.1.2.2.1 z.1.2.2.2 85 1 (List.map sC (List.zipWith CD (gH r z.1.1) z.1.2.1))),(bZ L 88 (fQ.cells (fQ.mk (ot r kA kC cA cC bA bC slA slC drA drC heA heC) (aM.mk z.1.2.2.1 ((List.zipWith CD (gH r z.1.1) z.1.2.1).length) z.1.2.2.2) (Value.map none))))]) (fun _=>rfl) (fun _=>rfl) (fun z=>r.aq.length-z.1.1) ⟨(0,([]:List RA),none,0),A⟩ (aQ U) (aK [3,4,5,6,7,8,9,10,11,12,13,0,1,2]) ?_
 clear A
 rintro ⟨⟨h,tz,a,c⟩,⟨T,C,E⟩⟩ J42 Z
 try dsimp only at T C E
 try dsimp only
 refine WS fun _ AH=>rP 1 [] I ?_
 refine RK AH<|al fun _ AI=>bR U (aR fun A0=>?_) (aS fun A0=>?_)
 ·refine bB<|ae<|ae<|ax<|KK AE<|al fun _ Aa=>?_
  have A9:gH r h=cP r:=by unfold cP; rw [show h=r.aq.length by omega]
  have Ak:tz.length=r.aq.length:=by omega
  rw [A9,yr,show (List.zipWith CD (cP r) tz).length=(cP r).length from by rw [List.length_zipWith]; omega]
  have X:eX r:=Kp (n:=i) om om om om om N J E om
  refine an<|rP 5 [] (mc 1 U I) ?_
  refine cX (O0 r kA kC az cA cC bA bC slA slC drA drC ha heA heC tz a c (Value.map none) L r.aq.length hin asm om (by exact X.AF)) (lR [3,4,5,6,7,8,9,10]<|ay (ak (n:=(cP r).length) 12 U (mO (by rw [Aj]; exact Ak)))<|ay (dW 11 U sT)<|fH 13 U U<|aL) U fun K BO=>?_
  try dsimp only
  refine rS (SX (bQ U U) U U)<|rP 1 [] I ?_
  refine jh (vs:=[(Value.map (some K))]) (cs':=(fQ.cells (fQ.mk (ot r kA kC cA cC bA bC slA slC drA drC heA heC) (aM.mk a ((cP r).length) c) (Value.map (some K))))) (C':=[_,_,_,_,_,_,_,_,_,_,_,_,_,_,(bZ L 88 (fQ.cells (fQ.mk (ot r kA kC cA cC bA bC slA slC drA drC heA heC) (aM.mk a ((cP r).length) c) (Value.map (some K)))))]) 14 U U U Nm U U U U U U U<|RK Aa<|al fun _ Ab=>?_
  rw [show eM r r.aq.length=aB r from rfl]
  refine an<|rP 3 [] I ?_
  refine RK Ab<|ar ?_
  refine LX hQ (true,0,L,K,a,c,tz) [14,13,12,0] [] I U (by (show List.all _ _=true; simp only [cond_true,fI,List.all_nil,wG,Bool.and_true]; rfl)) U U ?_
  exact ⟨fun _=>⟨CC B X,Ak⟩,N_⟩
 refine WK AI<|al fun _ AJ=>aw<|WS fun _ AK=>?_
 obtain ⟨ht,D⟩:=aO r.aq h om
 obtain ⟨G,BE⟩:=aO ha h om
 have Ai:(List.zipWith cz r.aq ha)[h]? =some (cz ht G):=dZ D BE
 refine rS (IA h U (aG 9 U) rm dc om om)<|rS (gF h 0 (vS G.1.1 ht.length G.1.2) U cq (aG 9 U) Ai U dc U)<|rP 1 [] I ?_
 refine RK AK<|al fun _ AM=>WS fun _ AN=>?_
 have Ah:=hin.oI _ _ _ D BE
 have BK:=Ah.og
 refine rP 4 [] I ?_
 refine RK AN<|cM U (bx fun Y=>?_) (bw fun Y=>?_)
 ·refine WS fun _ AO=>rP 2 [] I ?_
  refine RK AO<|ar<|LX hQ (false,60,0,0,none,0,[]) [] [] I U (by rfl) U U ?_
  exact rf<|pL (kx B (fun q:eX r=>by have q1:=(q.oI ht (aX D)).1; omega))
 refine WK AM<|WS fun _ AP=>bg 1 U<|RK AP<|al fun _ AQ=>WS fun _ AR=>rP 3 [] I ?_
 refine RK AR<|aw<|fX 38 2 ?_
 have A:(0≤ht.length)∧(nZ r.ah ht 0):=by exact ⟨Nat.zero_le _,uS⟩
 refine bO (ι:={z:Nat×(OA)×Nat // (z.1≤ht.length)∧(nZ r.ah ht z.1)}) [1,5,8,10,93,94,95,103,104] [1,2,3,4,5,6,7,8,9,10,11,12,13,14] U U (fun z=>[(11,(vS z.1.2.1 (((ht.take z.1.1).map (dE r.ah)).length) z.1.2.2)),(105,(vI (z.1.1:Int)))]) (fun z=>[(own z.1.2.1 z.1.2.2 38 2 (((ht.take z.1.1).map (dE r.ah)).map aa.cells))]) (fun _=>rfl) (fun _=>rfl) (fun z=>ht.length-z.1.1) ⟨(0,none,0),A⟩ (aQ U) (aK [1,2,3,4,5,6,7,8,9,10,11,12,13,14,0]) ?_
 clear A
 rintro ⟨⟨j,la,lc⟩,⟨Al,F⟩⟩ J53 b
 try dsimp only at Al F
 try dsimp only
 refine WS fun _ AS=>rP 1 [] I ?_
 refine RK AS<|al fun _ AT=>bR U (aR fun Aw=>?_) (aS fun Aw=>?_)
 ·refine bB<|ae<|ae<|ax<|KK AQ<|an<|bg 2 U<|rS (SX (bQ U U) U U)<|rP 2 [] (mc 13 U I) ?_
  rw [show ((ht.take j).map (dE r.ah))=ht.map (dE r.ah) from by rw [List.take_of_length_le om]]
  refine rP 1 [] I ?_
  refine cU (xs:=[.tmp 128]) (cs:=[(vS la ((ht.map (dE r.ah)).length) lc)]) U Mi QV U U U U (by simp [Value.cells]) U U fun BT=>?_
  refine c_ (es2:=(List.map sC (List.zipWith CD (gH r (h+1)) (tz++[(la,lc)])))) (m':=(List.zipWith CD (gH r (h+1)) (tz++[(la,lc)])).length) 13 U U U Q_ U U sm (aY (es:=List.map sC [(aM.mk la ((ht.map (dE r.ah)).length) lc)]) 0 U U (by simp [zb]) U) (LK _) (by rw [List.length_zipWith,kI om]; omega) (by rw [List.length_zipWith,kI om]; simp only [maxLen]; omega) (by rw [sP D C,List.map_append]; rfl) (by rw [sP D C]; simp) U fun P R=>?_
  try dsimp only
  refine rS (SX (bQ U U) U U)<|bg 1 U<|jh (vs:=[(vS P ((List.zipWith CD (gH r (h+1)) (tz++[(la,lc)])).length) R)]) (cs':=(fQ.cells (fQ.mk (ot r kA kC cA cC bA bC slA slC drA drC heA heC) (aM.mk P ((List.zipWith CD (gH r (h+1)) (tz++[(la,lc)])).length) R) (Value.map none)))) (C':=[_,_,_,_,_,_,_,_,_,_,_,_,_,_,(bZ L 88 (fQ.cells (fQ.mk (ot r kA kC cA cC bA bC slA slC drA drC heA heC) (aM.mk P ((List.zipWith CD (gH r (h+1)) (tz++[(la,lc)])).length) R) (Value.map none)))),_]) 14 U U U UD U U U U U U U<|aH<|aD<|KK AJ<|an<|rP 2 [] I ?_
  refine aH<|BV (X':=aU Dd (gH r (h+1)) (tz++[(la,lc)])) 12 15 U U (BG (a:=(la,lc)) D C) ?_
  have Af:(vI (((h+1):Nat):Int))=(vI ((h:Int)+1)):=by exact cI om
  refine aT (Z ⟨((h+1),(tz++[(la,lc)]),P,R),⟨om,by simp; omega,wY E D (FQ om F om)⟩⟩ _ _ _ U os (cN 5<|bk U Af<|dx.nil _) (aK [2,3,4,5,6,7,8,9,10,11,12,0,13,14]))
 refine WK AT<|al fun _ AU=>aw<|WS fun _ AV=>?_
 obtain ⟨d,hd⟩:=aO ht j om
 obtain ⟨da,Ag⟩:=aO G.2 j om
 have A8:(List.zipWith aA.cells ht G.2)[j]? =some (aA.cells d da):=dZ hd Ag
 refine rS (IA j U (show jc _ (rd G.1.1 ht.length 7 (List.zipWith aA.cells ht G.2)).holds from (dy 10 U (cj D BE cm))) wT dc om om)<|rS (oB j 0 (br.cells (br.mk d.Out d.eO d.Time (eK.mk d.cx.Start d.cx.gh (aM.mk da.1 d.cx.aj.length da.2)))) U cq (show jc _ (rd G.1.1 ht.length 7 (List.zipWith aA.cells ht G.2)).holds from (dy 10 U (cj D BE cm))) A8 U dc U U)<|AL U Mh fun BQ=>fR U QE U<|RK AV<|WS fun _ AW=>bg 1 U<|rS (LP (bK.cells (lp r.ah kA kC cA cC bA bC)) 2 U cq U U U)<|rP 1 [] (mc 0 U I) ?_
 have BZ:=Ah.sig d (aX hd)
 refine rS (CL (Ep r.ah kA kC az cA cC bA bC d da.1 da.2 asm asm) (lR [3,4,5,6,7]<|ay (show jc _ (rd da.1 d.cx.aj.length 2 (d.cx.aj.map aN.cells)).holds from (dy 11 U (cj D BE (cS _ (cj hd Ag (by simp [aA.gY]))))))<|aL) U)<|bg 3 U<|AL U dg fun BR=>fR U cu U<|bg 1 U<|RK AW<|al fun _ AX=>WS fun _ AY=>rP 2 [] I ?_
 refine RK AY<|bR U (bw fun M=>?_) (bx fun M=>?_)
 ·refine WK AX<|an<|rP 2 [] (mc 0 U I) ?_
  refine cU (xs:=[.tmp 119]) (cs:=(aa.cells (dE r.ah d))) U jK dg U U U U (by simp [Value.cells,aa.aW]) U U fun BS=>?_
  refine c_ (es2:=(List.map aa.cells ((ht.take (j+1)).map (dE r.ah)))) (m':=((ht.take (j+1)).map (dE r.ah)).length) 17 U U U Ek U U sm (aY (es:=List.map aa.cells [(dE r.ah d)]) 0 U U (by simp [aa.aW]) U) (gV _) (by simp only [List.length_map,List.length_take]; omega) (by simp only [maxLen,List.length_map,List.length_take]; omega) (by rw [List.take_add_one,hd]; simp) sq U fun Am Ar=>?_
  try dsimp only
  refine bg 1 U<|aH<|aD<|KK AU<|an<|rP 2 [] I ?_
  refine aH ?_
  have Ae:(vI (((j+1):Nat):Int))=(vI ((j:Int)+1)):=by exact cI om
  refine aT (b ⟨((j+1),Am,Ar),⟨om,u3 F hd M⟩⟩ _ _ _ U os (cN 10<|bk U Ae<|dx.nil _) (aK [3,4,5,6,7,8,9,10,11,12,13,14,15,16,17]))
 refine WS fun _ AZ=>rP 2 [] I ?_
 refine RK AZ<|ar<|LX hQ (false,60,0,0,none,0,[]) [] [] I U (by rfl) U U ?_
 exact rf<|pL (kx B (fun q:eX r=>by exact M ((q.oI ht (aX D)).2 d (aX hd))))
end
section
open Go.RowKit
theorem EF (l:List Int) (lA:OA) (lC:Nat) (hlen:l.length=1):
 De Tryz.prog 56 [(vS lA 1 lC)] [] (own lA lC 3 1 (l.map iC)) (fun (x:Unit)=>(vS lA 1 lC)) (fun (x:Unit)=>True) (fun (x:Unit)=>(own lA lC 3 1 (l.map iC))):=by
 refine mE kr Tryz.func56 U U fun E Q hQ hN=>?_
 try dsimp only
 refine WS fun _ A=>bg 1 U<|RK A<|al fun _ D=>WS fun _ B=>bg 2 U<|rS (SX (b_ (r:= .bool true) U U U gS) U U)<|RK B<|aP U<|WS fun _ C=>rP 2 [] I ?_
 refine RK C<|ar<|LM hQ () 0 [] I U U U U ?_
 trivial
theorem Dt (l:List Int) (lA:OA) (lC:Nat) (hlen:l.length=2):
 De Tryz.prog 56 [(vS lA 2 lC)] [] (own lA lC 3 1 (l.map iC)) (fun (x:(List Int))=>(vS lA (K3 l) lC)) (fun (x:(List Int))=>True) (fun (x:(List Int))=>(own lA lC 3 1 (x.map iC))):=by
 refine mE kr Tryz.func56 U U fun c Q hQ hN=>?_
 try dsimp only
 refine WS fun _ M=>bg 1 U<|RK M<|al fun _ N=>WS fun _ O=>bg 2 U<|rS (SX (b_ (r:= .bool false) U U U gS) U U)<|RK O<|aV U<|WK N<|al fun _ P=>WS fun _ R=>bg 1 U<|RK R<|aw<|jY 3<|eu fun R6 V=>al fun _ S=>WS fun _ T=>bg 3 U<|rS (SX (b_ (r:= .bool true) U U U gS) U U)<|RK T<|aP U<|WK S<|al fun _ AA=>aw<|al fun _ B=>dF cD 10 kr<|dP 2 [] I ?_
 obtain ⟨x,hx⟩:=aO l 1 om
 have W:=bP iC hx
 refine dS (IA 1 U (ak (n:=2) 0 U sq) cy dc U om) ?_
 refine dS (gF 1 0 (vI x) U cq (ak (n:=l.length) 0 U sm) W U dc U)<|dP 2 [] I ?_
 refine dS (SX (b_ (r:= .int .i64 0) U U U (rJ ⟨dc,dc⟩)) U U) ?_
 obtain ⟨y,hy⟩:=aO l 0 om
 have X:=bP iC hy
 refine dS (IA 0 U (ak (n:=2) 0 U sq) cy dc U om) ?_
 refine dS (gF 0 0 (vI y) U cq (ak (n:=l.length) 0 U sm) X U dc U)<|dP 1 [] I ?_
 refine cO<|RK B<|bR U (aR fun A=>?_) (aS fun A=>?_)
 ·refine bY<|aD<|KK AA<|an<|bg 1 U<|rS (SX (b_ (r:= .int .i64 2) U U U (ik ⟨dc,dc⟩)) U U)<|bg 1 U<|RK V<|eu fun R19 b=>al fun _ Z=>WS fun _ AB=>bg 3 U<|rS (SX (b_ (r:= .bool false) U U U gS) U U)<|RK AB<|aV U<|bB<|ae<|ae<|ax<|KK P<|WS fun _ J=>rP 2 [] I ?_
  refine RK J<|ar ?_
  refine LM hQ l 0 [] I U U U ?_ ?_
  ·(rw [Bi hlen hy hx A,hlen]; rfl)
  ·trivial
 refine WS fun _ C=>rP 2 [] I ?_
 refine rS (Vg 1 U cy U os) ?_
 refine bg 1 U<|RK C<|al fun _ D=>WS fun _ E=>bg 1 U<|RK E<|aw<|jY 2<|eu fun R14 a=>al fun _ Y=>WS fun _ F=>rP 4 [] I ?_
 refine RK F<|cM U (aS fun L=>?_) (aR fun L=>?_)
 ·exfalso; omega
 refine bB<|ae<|ae<|ax<|KK D<|WS fun _ G=>rP 2 [] I ?_
 refine rS (Vg 1 U cy U os) ?_
 refine NW (k:=1) 0 rfl rfl pE (by intro v hv; simp [Value.cells] at hv; subst hv; rfl) rfl os om ?_
 try dsimp only
 rw [show (own lA lC 3 1 ((l.map iC).take 1))=(own lA lC 3 1 ((l.take 1).map iC)) from by rw [List.map_take]]
 refine RK G<|WS fun _ H=>KO 0 U fun K=>?_
 simp only [List.length_map,List.length_take] at K
 refine bg 2 U<|rS (TQ 1 U cy U om)<|rP 1 [] I ?_
 refine RK H<|ar ?_
 refine LM hQ (l.take 1) 0 [] I U U U ?_ ?_
 ·(rw [yW hlen hy hx A]; rfl)
 ·trivial
end
section
open Go.RowKit
theorem yR (r:cf) (kA:OA) (kC:Nat) (az:List RA) (cA:OA) (cC:Nat) (bA:OA) (bC:Nat) (slA:OA) (slC:Nat) (drA:OA) (drC:Nat) (ha:List cQ) (heA:OA) (heC:Nat) (a:Int) (gq:Nat) (hin:fg r az ha):
 lv Tryz.prog 34 [(vA (bq.cells (ot r kA kC cA cC bA bC slA slC drA drC heA heC))),(vS (some ⟨gq,0,none⟩) 1 1)] [(rd dG 3 2 dh),(rd kA r.ah.aJ.length 9 (r.ah.aJ.map ao.cells)),(rd cA r.ah.ai.length 2 (List.zipWith au.cells r.ah.ai az)),(e7 (aU au.gY r.ah.ai az)),(rd bA r.ah.ag.length 4 (r.ah.ag.map bE.cells)),(rd slA r.aI.length 1 (r.aI.map iC)),(rd drA r.bD.length 1 (r.bD.map iC)),(rd heA r.aq.length 1 (List.zipWith cz r.aq ha)),(e7 (aU hU r.aq ha)),(bZ gq 3 [(vI a)])] (fun (x:Bool×Int×Nat×Nat×(OA)×Nat×(List RA)×(OA)×Nat)=>bif x.1 then (vT [(Value.pointer (some ⟨x.2.2.1,0,none⟩)),(vS x.2.2.2.2.2.2.2.1 1 x.2.2.2.2.2.2.2.2),(vI 0)]) else (vT [(Value.pointer none),(vS none 0 0),(vI x.2.1)])) (fun (x:Bool×Int×Nat×Nat×(OA)×Nat×(List RA)×(OA)×Nat)=>(x.1=true→(jy r a=0∧x.2.2.2.2.2.2.1.length=r.aq.length))∧(x.1=false→(x.2.1=jy r a∧ ¬ jy r a=0))) (fun (x:Bool×Int×Nat×Nat×(OA)×Nat×(List RA)×(OA)×Nat)=>bif x.1 then [(bZ x.2.2.1 88 (fQ.cells (fQ.mk (ot r kA kC cA cC bA bC slA slC drA drC heA heC) (aM.mk x.2.2.2.2.1 ((cP r).length) x.2.2.2.2.2.1) (Value.map (some x.2.2.2.1))))),(own x.2.2.2.2.1 x.2.2.2.2.2.1 85 1 (List.zipWith Ei (cP r) x.2.2.2.2.2.2.1)),(bo (aU Dd (cP r) x.2.2.2.2.2.2.1)),(gZ iV x.2.2.2.1 (bM df (aB r))),(own x.2.2.2.2.2.2.2.1 x.2.2.2.2.2.2.2.2 38 2 ([(aF (aB r) a)].map aa.cells))] else []):=by
 have y:=hin.line
 have AN:=hin.iM
 have AO:=hin.has
 have AF:=hin.iN
 have AE:=hin.draw
 have g:=dH (r:=r)
 refine dp kr Tryz.func34 U U fun w0 Q hQ hN=>?_
 try dsimp only
 refine WS fun _ w=>fV U fun b2=>bg 3 U<|RK w<|WS fun _ N=>rP 1 [] (mc 0 U I) ?_
 refine cX (oa r kA kC az cA cC bA bC slA slC drA drC ha heA heC hin) (bp [1,2,3,4,5,6,7,8,9]) U fun y4 j=>?_
 obtain ⟨k,AM,F,E,m,B,C⟩:=y4
 cases k
 ·obtain ⟨e,he⟩:=j.2 rfl
  try dsimp only at e he
  subst e
  try dsimp only [cond_true,cond_false,List.cons_append,List.nil_append]
  refine bg 5 U<|RK N<|al fun _ AB=>WS fun _ H=>rP 2 [] I ?_
  refine RK H<|bR U (bw fun G=>?_) (bx fun G=>?_)
  ·exact absurd G he
  refine WS fun _ AR=>rP 4 [] I ?_
  refine RK AR<|ar<|LX hQ (false,(bX r),0,0,none,0,[],none,0) [] [] I U (by rfl) U U ?_
  exact rf<|JV (Kw (i:=a) he) he
 obtain ⟨he,h⟩:=j.1 rfl
 try dsimp only [cond_true,cond_false,List.cons_append,List.nil_append]
 refine bg 5 U<|RK N<|al fun _ J=>WS fun _ K=>bg 1 U<|rS (SX (b_ (r:= .bool false) U U U ng) U U)<|RK K<|aV U<|WK J<|al fun _ L=>WS fun _ A=>rP 2 [] I ?_
 refine rS (CL (ej.eq (zU r kA kC az cA cC bA bC slA slC drA drC ha heA heC C m B (Value.map (some E)) F ([a]) (some ⟨gq,0,none⟩) 1 hin (by (simp; done))) cT) (lR [6,7,8,9,10,11,12,13]<|ay (ak (n:=(cP r).length) 1 U (mO (by rw [g]; exact h)))<|ay (dW 2 U sT)<|fH 0 U U<|ay (n7 14 U U (by simp [bJ]) U)<|aL) U) ?_
 refine rP 2 [] I ?_
 refine db (t:=26) U (bx fun v=>?_) (bw fun v=>?_)
 ·refine bg 3 U<|bg 4 U<|bg 2 U<|RK A<|aP U<|WS fun _ M=>rP 3 [] I ?_
  refine RK M<|ar<|LX hQ (false,2,0,0,none,0,[],none,0) [] [] I U (by rfl) U U ?_
  exact rf<|pL (Kc (i:=a) he om)
 refine rP 1 [] I ?_
 refine cX (wF (some ⟨gq,0,none⟩) 1 1) (aL) U fun q AG=>?_
 try dsimp only
 refine cX (w7 ([a]) (some ⟨gq,0,none⟩) 1 q (by (simp; done))) (ay (n7 15 U U (by simp [bJ]) U)<|fH 0 U U<|aL) U fun AA AH=>?_
 obtain ⟨o,s⟩:=AA
 try dsimp only
 try dsimp only
 refine iQ 0 U U U U (EF (dk ([a])) o s (by (simp; done))) U ki U (fun AP AI=>?_)
 try dsimp only
 refine bg 3 U<|rS (SX (b_ (r:= .bool false) U U U gS) U U)<|bg 1 U<|RK A<|aV U<|WK L<|WS fun _ O=>bg 1 U<|RK O<|al fun _ P=>WS fun _ R=>bg 3 U<|RK R<|aw<|jY 2<|eu fun R33 d=>WS fun _ S=>rS (SX (b_ (r:= .bool true) U U U gS) U U)<|RK S<|al fun _ T=>aP U<|WK T<|al fun _ AQ=>aw<|WS fun _ V=>rS (Tw 0 0 U cy U dc U)<|fE 2 [] (mr 16 U I) U<|RK V<|WS fun _ W=>bg 1 U<|rS (SX (bQ U U) U U)<|fE 3 [] (mc 2 U I) U<|rS (SX (jZ (kV:=iV) (x:=a) (l:=(aB r)) (f:=df) (z:=(aa.mk 0 0)) U U U lF (dB od) vD (by exact aG 5 U)) U U)<|bg 3 U<|AL U dg fun AJ=>fR U cu U<|rP 1 [] I ?_
 refine RK W<|al fun _ X=>WS fun _ Y=>?_
 rw [show ((List.lookup a (aB r)).getD (aa.mk 0 0))=(aF (aB r) a) from rfl]
 refine rP 2 [] I ?_
 refine RK Y<|cM U (fun D=>?_) (fun D=>?_)
 ·rw [Bool.not_eq_true'] at D
  refine WS fun _ Z=>rP 3 [] I ?_
  refine RK Z<|ar<|LX hQ (false,6,0,0,none,0,[],none,0) [] [] I U (by rfl) U U ?_
  exact rf<|pL (ug (i:=a) he om asm)
 rw [Bool.not_eq_false'] at D
 refine WK X<|an<|rP 2 [] (mc 0 U I) ?_
 refine cU (xs:=[.tmp 54]) (cs:=(aa.cells (aF (aB r) a))) U jK dg U U U U (by simp [Value.cells,aa.aW]) U U fun AK=>dU 38 2<|c_ (es2:=(List.map aa.cells ([(aF (aB r) a)]))) (m':=([(aF (aB r) a)]).length) 0 U U U Ek U U sm (aY (es:=List.map aa.cells [(aF (aB r) a)]) 1 U U (by simp [aa.aW]) U) (gV _) sm (by simp [maxLen]) sm sm U fun p u=>?_
 try dsimp only
 refine bg 1 U<|aH<|aD<|KK AQ<|an<|rS (SX (b_ (r:= .int .i64 1) U U U (ik ⟨dc,dc⟩)) U U)<|bg 1 U<|RK d<|eu fun R46 AD=>WS fun _ b=>rS (SX (b_ (r:= .bool false) U U U gS) U U)<|RK b<|al fun _ AC=>aV U<|bB<|ae<|ae<|ax<|KK P<|WS fun _ c=>rP 5 [] I ?_
 refine RK c<|ar ?_
 refine LX hQ (true,0,F,E,m,B,C,p,u) [5,6,7,8,0] [] I U (by (show List.all _ _=true; simp only [cond_true,fI,List.all_nil,wG,Bool.and_true]; rfl)) U U ?_
 exact ⟨fun _=>⟨FV he om asm,h⟩,N_⟩
end
section
open Go.RowKit
theorem zq (r:cf) (kA:OA) (kC:Nat) (az:List RA) (cA:OA) (cC:Nat) (bA:OA) (bC:Nat) (slA:OA) (slC:Nat) (drA:OA) (drC:Nat) (ha:List cQ) (heA:OA) (heC:Nat) (a b:Int) (gq:Nat) (hin:fg r az ha):
 lv Tryz.prog 34 [(vA (bq.cells (ot r kA kC cA cC bA bC slA slC drA drC heA heC))),(vS (some ⟨gq,0,none⟩) 2 2)] [(rd dG 3 2 dh),(rd kA r.ah.aJ.length 9 (r.ah.aJ.map ao.cells)),(rd cA r.ah.ai.length 2 (List.zipWith au.cells r.ah.ai az)),(e7 (aU au.gY r.ah.ai az)),(rd bA r.ah.ag.length 4 (r.ah.ag.map bE.cells)),(rd slA r.aI.length 1 (r.aI.map iC)),(rd drA r.bD.length 1 (r.bD.map iC)),(rd heA r.aq.length 1 (List.zipWith cz r.aq ha)),(e7 (aU hU r.aq ha)),(bZ gq 3 [(vI a),(vI b)])] (fun (x:Bool×Int×Nat×Nat×(OA)×Nat×(List RA)×(OA)×Nat)=>bif x.1 then (vT [(Value.pointer (some ⟨x.2.2.1,0,none⟩)),(vS x.2.2.2.2.2.2.2.1 2 x.2.2.2.2.2.2.2.2),(vI 0)]) else (vT [(Value.pointer none),(vS none 0 0),(vI x.2.1)])) (fun (x:Bool×Int×Nat×Nat×(OA)×Nat×(List RA)×(OA)×Nat)=>(x.1=true→(m_ r a b=0∧x.2.2.2.2.2.2.1.length=r.aq.length))∧(x.1=false→(x.2.1=m_ r a b∧ ¬ m_ r a b=0))) (fun (x:Bool×Int×Nat×Nat×(OA)×Nat×(List RA)×(OA)×Nat)=>bif x.1 then [(bZ x.2.2.1 88 (fQ.cells (fQ.mk (ot r kA kC cA cC bA bC slA slC drA drC heA heC) (aM.mk x.2.2.2.2.1 ((cP r).length) x.2.2.2.2.2.1) (Value.map (some x.2.2.2.1))))),(own x.2.2.2.2.1 x.2.2.2.2.2.1 85 1 (List.zipWith Ei (cP r) x.2.2.2.2.2.2.1)),(bo (aU Dd (cP r) x.2.2.2.2.2.2.1)),(gZ iV x.2.2.2.1 (bM df (aB r))),(own x.2.2.2.2.2.2.2.1 x.2.2.2.2.2.2.2.2 38 2 ([(aF (aB r) a),(aF (aB r) b)].map aa.cells))] else []):=by
 have AK:=hin.line
 have Ad:=hin.iM
 have Ae:=hin.has
 have AR:=hin.iN
 have AQ:=hin.draw
 have v:=dH (r:=r)
 refine dp kr Tryz.func34 U U fun w0 Q hQ hN=>?_
 try dsimp only
 refine WS fun _ AJ=>fV U fun b2=>bg 3 U<|RK AJ<|WS fun _ N=>rP 1 [] (mc 0 U I) ?_
 refine cX (oa r kA kC az cA cC bA bC slA slC drA drC ha heA heC hin) (bp [1,2,3,4,5,6,7,8,9]) U fun y4 y=>?_
 obtain ⟨AA,Ab,F,E,AB,C,D⟩:=y4
 cases AA
 ·obtain ⟨u,he⟩:=y.2 rfl
  try dsimp only at u he
  subst u
  try dsimp only [cond_true,cond_false,List.cons_append,List.nil_append]
  refine bg 5 U<|RK N<|al fun _ AN=>WS fun _ H=>rP 2 [] I ?_
  refine RK H<|bR U (bw fun G=>?_) (bx fun G=>?_)
  ·exact absurd G he
  refine WS fun _ Ah=>rP 4 [] I ?_
  refine RK Ah<|ar<|LX hQ (false,(bX r),0,0,none,0,[],none,0) [] [] I U (by rfl) U U ?_
  exact rf<|JV (KH (a:=a) (b:=b) he) he
 obtain ⟨he,w⟩:=y.1 rfl
 try dsimp only [cond_true,cond_false,List.cons_append,List.nil_append]
 refine bg 5 U<|RK N<|al fun _ J=>WS fun _ K=>bg 1 U<|rS (SX (b_ (r:= .bool false) U U U ng) U U)<|RK K<|aV U<|WK J<|al fun _ L=>WS fun _ B=>rP 2 [] I ?_
 refine rS (CL (ej.eq (zU r kA kC az cA cC bA bC slA slC drA drC ha heA heC D AB C (Value.map (some E)) F ([a,b]) (some ⟨gq,0,none⟩) 2 hin (by (simp; done))) q7) (lR [6,7,8,9,10,11,12,13]<|ay (ak (n:=(cP r).length) 1 U (mO (by rw [v]; exact w)))<|ay (dW 2 U sT)<|fH 0 U U<|ay (n7 14 U U (by simp [bJ]) U)<|aL) U) ?_
 refine rP 2 [] I ?_
 refine db (t:=26) U (bx fun AH=>?_) (bw fun AH=>?_)
 ·refine bg 3 U<|bg 4 U<|bg 2 U<|RK B<|aP U<|WS fun _ M=>rP 3 [] I ?_
  refine RK M<|ar<|LX hQ (false,2,0,0,none,0,[],none,0) [] [] I U (by rfl) U U ?_
  exact rf<|pL (BN (a:=a) (b:=b) he om)
 refine rP 1 [] I ?_
 refine cX (wF (some ⟨gq,0,none⟩) 2 2) (aL) U fun AE AS=>?_
 try dsimp only
 refine cX (w7 ([a,b]) (some ⟨gq,0,none⟩) 2 AE (by (simp; done))) (ay (n7 15 U U (by simp [bJ]) U)<|fH 0 U U<|aL) U fun AM AT=>?_
 obtain ⟨AC,AF⟩:=AM
 try dsimp only
 try dsimp only
 refine iQ 0 U U U U (Dt (dk ([a,b])) AC AF (by (simp; done))) U ki U (fun Af AU=>?_)
 try dsimp only
 refine rP 3 [] I ?_
 have Ac:=JK a b
 refine rP 2 [] I ?_
 refine RK B<|cM U (aS fun AI=>?_) (aR fun AI=>?_)
 ·refine WS fun _ O=>rP 3 [] I ?_
  refine RK O<|ar<|LX hQ (false,2,0,0,none,0,[],none,0) [] [] I U (by rfl) U U ?_
  exact rf<|pL (BN (a:=a) (b:=b) he om)
 refine WK L<|WS fun _ P=>bg 1 U<|RK P<|al fun _ R=>WS fun _ S=>bg 3 U<|RK S<|aw<|jY 3<|eu fun R35 q=>WS fun _ T=>rS (SX (b_ (r:= .bool true) U U U gS) U U)<|RK T<|al fun _ Ag=>aP U<|WK Ag<|al fun _ V=>aw<|WS fun _ W=>rS (Tw 0 0 U cy U dc U)<|fE 2 [] (mr 16 U I) U<|RK W<|WS fun _ X=>bg 1 U<|rS (SX (bQ U U) U U)<|fE 3 [] (mc 2 U I) U<|rS (SX (jZ (kV:=iV) (x:=a) (l:=(aB r)) (f:=df) (z:=(aa.mk 0 0)) U U U lF (dB od) vD (by exact aG 5 U)) U U)<|bg 3 U<|AL U dg fun AW=>fR U cu U<|rP 1 [] I ?_
 refine RK X<|al fun _ Y=>WS fun _ Z=>?_
 rw [show ((List.lookup a (aB r)).getD (aa.mk 0 0))=(aF (aB r) a) from rfl]
 refine rP 2 [] I ?_
 refine RK Z<|cM U (fun A=>?_) (fun A=>?_)
 ·rw [Bool.not_eq_true'] at A
  refine WS fun _ c=>rP 3 [] I ?_
  refine RK c<|ar<|LX hQ (false,6,0,0,none,0,[],none,0) [] [] I U (by rfl) U U ?_
  exact rf<|pL (zx (a:=a) (b:=b) he om (by exact .inl asm))
 rw [Bool.not_eq_false'] at A
 refine WK Y<|an<|rP 2 [] (mc 0 U I) ?_
 refine cU (xs:=[.tmp 54]) (cs:=(aa.cells (aF (aB r) a))) U jK dg U U U U (by simp [Value.cells,aa.aW]) U U fun AX=>dU 38 2<|c_ (es2:=(List.map aa.cells ([(aF (aB r) a)]))) (m':=([(aF (aB r) a)]).length) 0 U U U Ek U U sm (aY (es:=List.map aa.cells [(aF (aB r) a)]) 1 U U (by simp [aa.aW]) U) (gV _) sm (by simp [maxLen]) sm sm U fun AV Aa=>?_
 try dsimp only
 refine bg 1 U<|aH<|aD<|KK V<|an<|rS (SX (b_ (r:= .int .i64 1) U U U (ik ⟨dc,dc⟩)) U U)<|bg 1 U<|RK q<|eu fun R48 s=>WS fun _ d=>rS (SX (b_ (r:= .bool true) U U U gS) U U)<|RK d<|al fun _ e=>aP U<|WK e<|al fun _ g=>aw<|WS fun _ h=>rS (Tw 1 1 U cy U dc U)<|fE 2 [] (mr 19 U I) U<|RK h<|WS fun _ i=>bg 1 U<|rS (SX (bQ U U) U U)<|fE 3 [] (mc 5 U I) U<|rS (SX (jZ (kV:=iV) (x:=b) (l:=(aB r)) (f:=df) (z:=(aa.mk 0 0)) U U U lF (dB od) vD (by exact aG 8 U)) U U)<|bg 3 U<|AL U dg fun AY=>fR U cu U<|rP 1 [] I ?_
 refine RK i<|al fun _ j=>WS fun _ k=>?_
 rw [show ((List.lookup b (aB r)).getD (aa.mk 0 0))=(aF (aB r) b) from rfl]
 refine rP 2 [] I ?_
 refine RK k<|cM U (fun A=>?_) (fun A=>?_)
 ·rw [Bool.not_eq_true'] at A
  refine WS fun _ m=>rP 3 [] I ?_
  refine RK m<|ar<|LX hQ (false,6,0,0,none,0,[],none,0) [] [] I U (by rfl) U U ?_
  exact rf<|pL (zx (a:=a) (b:=b) he om (by exact .inr asm))
 rw [Bool.not_eq_false'] at A
 refine WK j<|an<|rP 2 [] (mc 0 U I) ?_
 refine cU (xs:=[.tmp 54]) (cs:=(aa.cells (aF (aB r) b))) U jK dg U U U U (by simp [Value.cells,aa.aW]) U U fun AZ=>c_ (es2:=(List.map aa.cells ([(aF (aB r) a),(aF (aB r) b)]))) (m':=([(aF (aB r) a),(aF (aB r) b)]).length) 2 U U U Ek U U sm (aY (es:=List.map aa.cells [(aF (aB r) b)]) 0 U U (by simp [aa.aW]) U) (gV _) sm (by simp [maxLen]) sm sm U fun AD AG=>?_
 try dsimp only
 refine bg 1 U<|aH<|aD<|KK g<|an<|rS (SX (b_ (r:= .int .i64 2) U U U (ik ⟨dc,dc⟩)) U U)<|bg 1 U<|RK s<|eu fun R61 AP=>WS fun _ o=>rS (SX (b_ (r:= .bool false) U U U gS) U U)<|RK o<|al fun _ AO=>aV U<|bB<|ae<|ae<|ax<|KK R<|WS fun _ p=>rP 5 [] I ?_
 refine RK p<|ar ?_
 refine LX hQ (true,0,F,E,AB,C,D,AD,AG) [7,8,9,10,2] [] I U (by (show List.all _ _=true; simp only [cond_true,fI,List.all_nil,wG,Bool.and_true]; rfl)) U U ?_
 exact ⟨fun _=>⟨MI he om asm asm,w⟩,N_⟩
end
section
open Go.RowKit
theorem Iu (m:ly) (gm g1:Nat):
 Ej Tryz.prog 83 [] [(vP g1)] [(gZ iV gm (bM vB m)),(bZ g1 62 [(Value.map (some gm))])] ([]:List Int) (fun ys x ys'=> ∃ n zs,(ys++[n]++zs).Perm (m.map (·.1))∧x=[vI n]∧ys'=ys++[n]) (fun ys=>ys.Perm (m.map (·.1))):=by
 refine sX kr Tryz.func83 U U fun l J Z A0 S Q hY M L hQ hN=>?_
 try dsimp only
 refine WS fun _ O=>rP 1 [] (mr 2 U I) ?_
 refine iI (kV:=iV) (m:=bM vB m) 1 U U wN U ⟨U,fun h=>h⟩ (by exact jG 1 U) U fun V=>?_
 try dsimp only
 refine RK O<|aw ?_
 have G:(oj m m ([]:List Int))∧(∀ p∈m,p∈m)∧(J ([]:List Int) A0)∧(Fo A0 S A0):=by exact ⟨uY,fun p hp=>hp,M,L⟩
 refine bO (ι:={z:ly×(List Int)×av // (oj m z.1 z.2.1)∧(∀ p∈z.1,p∈m)∧(J z.2.1 z.2.2)∧(Fo A0 S z.2.2)}) [0,1,5] [2,3] U U (fun z=>[]) (fun z=>[(yd iV V gm (bM vB m) (bM vB z.1.1) none),z.1.2.2]) (fun _=>rfl) (fun _=>rfl) (fun z=>z.1.1.length) ⟨(m,([]:List Int),A0),G⟩ (dx.nil _) (aK [2,3,0,1]) ?_
 clear G
 rintro ⟨⟨left,ys,A⟩,⟨B,H,C,D⟩⟩ J3 N
 try dsimp only at B H C D
 try dsimp only
 refine WS fun _ AB=>g8 (dB od).inj (f:=Value.bool) 2 U U U U (fun T=>?_) (fun x y hm hn=>?_)
 ·refine rP 1 [] I ?_
  refine RK AB<|al fun _ AA=>aV U<|bB<|ae<|ae<|ax ?_
  refine hN _ _ _ (gW (vs:=[]) trivial fun w hs=>KS 3 U (by rw [T] at B; exact wq B) C D hs)
 try dsimp only
 refine bg 1 U<|RK AB<|al fun _ P=>aP U<|WK P<|aw<|WS fun _ R=>rS (SX (g7 2 U U U) U U)<|bg 2 U<|RK R<|WS fun _ K=>rP 2 [] I ?_
 refine kB (k:=ys) (k':=(ys++[(x)])) 3 (by first|exact hsz|exact Nat.le_refl _) hY C D U U U (by exact ⟨x,_,nT hn hm B,U,U⟩) U U (fun B9 F E=>?_) (fun B9 F E=>?_)
 rotate_left 1
 ·refine rP 1 [] I ?_
  refine RK K<|aP U<|ar ?_
  refine hQ _ _ _ (gW (vs:=[]) trivial fun w hs=>rI 3 U F E hs)
 refine rP 1 [] I ?_
 refine RK K<|aV U<|bY<|aD<|fm 2 U dA U ?_
 refine aT (N ⟨((cd left x),(ys++[(x)]),B9),⟨nT hn hm B,dC H,F,E⟩⟩ _ _ _ U (cW hm) (aQ U) (aK [0,1,2,3]))
theorem NM (gm:Nat):
 lv Tryz.prog 59 [(Value.map (some gm))] [] (fun (x:Nat)=>(Value.func (.func 83) [].toArray [(vP x)].toArray)) (fun (x:Nat)=>True) (fun (x:Nat)=>[(bZ x 62 [(Value.map (some gm))])]):=by
 refine dp kr Tryz.func59 U U fun D Q hQ hN=>?_
 try dsimp only
 refine WS fun _ A=>uy U U fun C=>bg 1 U<|RK A<|WS fun _ B=>rS (FU U)<|rP 1 [] I ?_
 refine RK B<|ar<|LX hQ C [0] [] I U U U U ?_
 trivial
end
section
open Go.RowKit
theorem G5 (m:ly) (gm g1:Nat) (hlen:m.length≤12):
 lv Tryz.prog 85 [(vS none 0 0),(Value.func (.func 83) [].toArray [(vP g1)].toArray)] [(gZ iV gm (bM vB m)),(bZ g1 62 [(Value.map (some gm))])] (fun (x:(List Int)×(OA)×Nat)=>(vS x.2.1 x.1.length x.2.2)) (fun (x:(List Int)×(OA)×Nat)=>x.1.Perm (m.map (·.1))) (fun (x:(List Int)×(OA)×Nat)=>[(own x.2.1 x.2.2 3 1 (x.1.map iC))]):=by
 refine dp kr Tryz.func85 U U fun X Q hQ hN=>?_
 try dsimp only
 refine WS fun _ AB=>uy U U fun N=>bg 1 U<|RK AB<|al fun _ J=>WS fun _ K=>rP 1 [] I ?_
 refine RK K<|aw<|ky 1 U (by exact fun _ h=>h)<|ky 3 U (by exact fun _ h=>h)<|fX 3 1 ?_
 refine nz (L0:=[(2,(vP N))]) (F:=[(gZ iV gm (bM vB m)).ro,(bZ g1 62 [(Value.map (some gm))]).ro]) (fun k (y:(OA)×Nat)=>(∃ zs,(k++zs).Perm (m.map (·.1)))) (fun k y=>[(own y.1 y.2 3 1 (k.map iC)),(bZ N 29 [(vS y.1 k.length y.2)]),(gZ iV gm (bM vB m)).ro]) (fun _ (_:Unit)=>False) (fun _ _=>[]) [0,3,4] [2,1] (none,0) rfl rfl (Iu m gm g1) rfl rfl rfl (by exact ⟨_,List.Perm.refl _⟩) (by simp only [List.forall_mem_cons,List.not_mem_nil,false_imp_iff,implies_true,and_true]; exact ⟨⟨_,sm,(dI (bU _))⟩,⟨_,sm,(dI (bU _))⟩⟩) (by rintro k x AA ⟨n,zs,_,rfl,_⟩; rfl) rfl (aQ rfl) ?_ ?_ (fun _ _ _ h=>h.elim) (fun _ _ h=>h.elim)
 rotate_left 1
 ·rintro V k ⟨a,c⟩ E A
  have B:=A
  try dsimp only at B
  try dsimp only
  refine aD<|KK J<|WS fun _ C=>rP 2 [] (mc 4 U I) ?_
  refine RK C<|ar<|hQ _ _ _ (ou 0 U U<|gW (vs:=[(vS a k.length c)]) ⟨U,trivial⟩ fun w hs=>I9 (k,a,c) [3] ?_ ?_ U U U hs)
  ·rfl
  ·first|exact E|exact hys
 rintro k x AA ⟨a,c⟩ l ra rb S Y K5 Qr6 T hx G L D O P
 obtain ⟨n,zs,hn,rfl,rfl⟩:=hx; have M:=hn.length_eq; simp only [List.length_append,List.length_map,List.length_singleton] at M
 have B:=G
 try dsimp only at B
 try dsimp only
 refine an<|rP 1 [] I ?_
 refine aH<|aT (L _ _ ?_)
 refine aw<|an<|rP 2 [] (mc 2 U I) ?_
 refine cU (xs:=[.tmp 9]) (cs:=[(vI n)]) U cy jd U U U U (by simp [Value.cells]) U U fun W=>?_
 refine c_ (es2:=(List.map iC (k++[n]))) (m':=(k++[n]).length) 2 U U U pE U U sm (aY (es:=List.map iC [n]) 0 U U (by simp [bJ]) U) (jT _) os (by simp only [maxLen]; omega) sm sm U fun R H=>?_
 try dsimp only
 refine UI U z7 U U<|aH<|aD ?_
 exact D (R,H) _ _ (by exact ⟨_,hn⟩) (aK [1,2,3,4])
end
section
open Go.RowKit
theorem Et (m:ly) (gm g1:Nat) (hlen:m.length≤12):
 lv Tryz.prog 63 [(Value.func (.func 83) [].toArray [(vP g1)].toArray)] [(gZ iV gm (bM vB m)),(bZ g1 62 [(Value.map (some gm))])] (fun (x:(List Int)×(OA)×Nat)=>(vS x.2.1 x.1.length x.2.2)) (fun (x:(List Int)×(OA)×Nat)=>x.1.Perm (m.map (·.1))) (fun (x:(List Int)×(OA)×Nat)=>[(own x.2.1 x.2.2 3 1 (x.1.map iC))]):=by
 refine dp kr Tryz.func63 U U fun AA Q hQ hN=>?_
 try dsimp only
 refine WS fun _ A=>bg 1 U<|RK A<|WS fun _ B=>rP 1 [] I ?_
 refine cX (G5 m gm g1 hlen) (bp [0,1]) U fun H C=>?_
 obtain ⟨E,F,G⟩:=H
 try dsimp only
 have D:=C
 refine rP 1 [] I ?_
 refine RK B<|ar<|LX hQ (E,F,G) [0] [] I U U U U ?_
 first|exact hfin|exact D
theorem HK (m:ly) (gm g1:Nat) (hlen:m.length≤12):
 lv Tryz.prog 41 [(Value.func (.func 83) [].toArray [(vP g1)].toArray)] [(gZ iV gm (bM vB m)),(bZ g1 62 [(Value.map (some gm))])] (fun (x:(OA)×Nat)=>(vS x.1 m.length x.2)) (fun (x:(OA)×Nat)=>True) (fun (x:(OA)×Nat)=>[(own x.1 x.2 3 1 ((dk (m.map (·.1))).map iC))]):=by
 refine dp kr Tryz.func41 U U fun M Q hQ hN=>?_
 try dsimp only
 refine WS fun _ E=>bg 1 U<|RK E<|WS fun _ F=>rP 1 [] I ?_
 refine cX (Et m gm g1 hlen) (bp [0,1]) U fun L H=>?_
 obtain ⟨AA,J,K⟩:=L
 try dsimp only
 have D:=H
 refine bg 1 U<|RK F<|WS fun _ G=>rP 1 [] I ?_
 have B:=D.length_eq
 simp only [List.length_map] at B
 refine iQ 0 U U U U (zX AA J K om) U ki U (fun ms C=>?_)
 try dsimp only
 refine RK G<|WS fun _ A=>?_
 obtain rfl:=qy (C.1.trans D) C.2
 skip
 refine rP 2 [] I ?_
 refine RK A<|ar ?_
 refine LX hQ (J,K) [0] [] I U U U ?_ ?_
 ·first|rfl|(rw [B]; rfl)
 ·trivial
end
section
open Go.RowKit
theorem Kn (m:ly) (gm:Nat):
 lv Tryz.prog 57 [(Value.map (some gm))] [(gZ iV gm (bM vB m))] (fun (x:Nat)=>(Value.map (some x))) (fun (x:Nat)=>True) (fun (x:Nat)=>[(gZ iV x (bM vB m))]):=by
 refine dp TB Tryz.func57 U U fun F Q hQ hN=>?_
 try dsimp only
 refine WS fun _ A=>bg 1 U<|RK A<|al fun _ B=>WS fun _ C=>bg 1 U<|rS (SX (b_ (r:= .bool false) U U U (PB wN)) U U)<|RK C<|aV U<|WK B<|WS fun _ D=>rP 1 [] I ?_
 refine rS (SX (ND U U wN) U U)<|I0 (kV:=iV) (fn:=Tryz.f81) U U Tryz.func81 U U U kr (by exact jG 0 U) U fun E=>?_
 try dsimp only
 refine rS (SX (QZ U U wN) U U)<|rP 1 [] I ?_
 refine RK D<|ar<|LX hQ E [0] [] I U U U U ?_
 trivial
end
section
open Go.RowKit
theorem G6 (r:cf) (kA:OA) (kC:Nat) (cA:OA) (cC:Nat) (bA:OA) (bC:Nat) (slA:OA) (slC:Nat) (drA:OA) (drC:Nat) (heA:OA) (heC:Nat) (tA:OA) (tN tC:Nat) (gs gw:Nat) (m:gp) (i:Int) (g1 g2:Nat) (hb: ∀ p∈m,0≤p.2.Lo∧p.2.Lo≤p.2.Hi∧p.2.Hi≤30000000):
 Ej Tryz.prog 82 [] [(vP g1),(vP g2)] [(bZ gw 88 (fQ.cells (fQ.mk (ot r kA kC cA cC bA bC slA slC drA drC heA heC) (aM.mk tA tN tC) (Value.map (some gs))))),(gZ iV gs (bM df m)),(bZ g1 80 [(vP gw)]),(bZ g2 3 [(vI i)])] ([]:List Int) (fun ys x ys'=> ∃ n,n∈(iO m i (aF m i))∧x=[vI n]∧ys'=ys++[n]) (fun ys=> ∀ n,n∈ys↔n∈(iO m i (aF m i))):=by
 have BF:=gR (i:=i) hb
 refine sX kr Tryz.func82 U U fun l J Z A0 w0 Q hY An Am hQ hN=>?_
 try dsimp only
 refine al fun _ Ao=>dR cD [6,7] [] [] [0,1,2,3,4] [] U U U U U<|eS U (Ts 3 U cq U)<|eS U (SX (bQ U U) U U)<|eS U (FA 12 U fD U)<|eS U (H0 (Value.map (some gs)) 1 U cq U U)<|eS U (Ts 4 U cq U)<|eS U (SX (jR (kV:=iV) (x:=i) (l:=m) (f:=df) (z:=(aa.mk 0 0)) U U U lF (dB od) vD (by exact jG 2 U)) U U)<|e8 U<|cp U fun T2 Aq=>AL U dg fun b3=>aH (Aq _ _ (aK [1,2,3,4,5]) ?_)
 refine cp U fun T4 Ar=>fR U cu U<|aH (Ar _ _ (aK [1,2,3,4,5]) ?_)
 refine fM U<|KK Ao<|al fun _ Ap=>WS fun _ AR=>?_
 rw [show ((List.lookup i m).getD (aa.mk 0 0))=(aF m i) from rfl]
 refine rP 3 [] (mc 0 U I) ?_
 refine kB (k:=([]:List Int)) (k':=(([]:List Int)++[((aF m i).Lo)])) 1 (by first|exact hsz|exact Nat.le_refl _) hY An Am U U U (by exact ⟨_,cm ..,U,U⟩) U U (fun B7 u s=>?_) (fun B7 u s=>?_)
 rotate_left 1
 ·refine rP 1 [] I ?_
  refine RK AR<|aP U<|ar ?_
  refine hQ _ _ _ (gW (vs:=[]) trivial fun w hs=>rI 1 U u s hs)
 refine bg 1 U<|RK AR<|aV U<|WK Ap<|WS fun _ AA=>fE 1 [] (mr 4 U I) U<|rS (SX (bQ U U) U U)<|rP 2 [] (mr 2 U I) ?_
 refine iI (kV:=iV) (m:=bM df m) 3 U U lF U ⟨U,fun h=>h⟩ (by exact jG 3 U) U fun At=>?_
 try dsimp only
 refine RK AA<|aw ?_
 have j:(zt m i (aF m i) m (([]:List Int)++[((aF m i).Lo)]))∧(∀ p∈m,p∈m)∧(J (([]:List Int)++[((aF m i).Lo)]) B7)∧(Fo A0 w0 B7):=by exact ⟨Ll,fun p hp=>hp,asm,asm⟩
 refine bO (ι:={z:gp×(List Int)×av // (zt m i (aF m i) z.1 z.2.1)∧(∀ p∈z.1,p∈m)∧(J z.2.1 z.2.2)∧(Fo A0 w0 z.2.2)}) [0,1,2,4,24] [1,3,4,5,6] U U (fun z=>[]) (fun z=>[(yd iV At gs (bM df m) (bM df z.1.1) none),z.1.2.2]) (fun _=>rfl) (fun _=>rfl) (fun z=>z.1.1.length) ⟨(m,(([]:List Int)++[((aF m i).Lo)]),B7),j⟩ (dx.nil _) (aK [1,3,4,5,6,0,2]) ?_
 clear j
 rintro ⟨⟨left,ys,A⟩,⟨D,B,E,F⟩⟩ J12 G
 try dsimp only at D B E F
 try dsimp only
 refine WS fun _ o=>g8 (dB od).inj (f:=df) 5 U U U U (fun q=>?_) (fun x y hm hn=>?_)
 ·refine rP 1 [] I ?_
  refine RK o<|al fun _ Au=>aV U<|bB<|ae<|ae<|ax ?_
  refine hN _ _ _ (gW (vs:=[]) trivial fun w hs=>KS 6 U (by rw [q] at D; exact Od D) E F hs)
 try dsimp only
 refine bg 1 U<|RK o<|al fun _ AB=>aP U<|WK AB<|aw<|WS fun _ AC=>rS (SX (g7 5 U U U) U U)<|bg 2 U<|AL U dg fun BE=>bg 1 U<|fR U cu U<|RK AC<|WS fun _ AD=>rP 1 [] I ?_
 have As:=hb _ (B _ hm)
 dsimp only at As
 refine fE 5 [] (mc 0 U I) U<|rS (SX (bj (xs:=[(0,.tmp 32),(1,.tmp 35)]) (cs:=[(vI (y.Lo+1)),(vI (y.Hi+1))]) U U (bh Rn U)) U U)<|bg 1 U<|RK AD<|aw<|jY 3<|eu fun R19 c=>WS fun _ AE=>rS (SX (b_ (r:= .bool true) U U U gS) U U)<|RK AE<|al fun _ AF=>aP U<|WK AF<|al fun _ X=>aw<|WS fun _ AG=>rS (SX (qZ (v:=(vI (y.Lo+1))) 0 U U U FG cq U dc U) U U)<|bg 1 U<|RK AG<|WS fun _ M=>rP 4 [] (mr 5 U I) ?_
 refine cb (t:=43) U (bw fun q=>?_) (bx fun q=>?_)
 ·refine bg 14 U<|RK M<|aV U<|bY<|aD<|KK X<|an<|rS (SX (b_ (r:= .int .i64 1) U U U (ik ⟨dc,dc⟩)) U U)<|bg 1 U<|RK c<|eu fun R73 g=>WS fun _ AV=>rS (SX (b_ (r:= .bool true) U U U gS) U U)<|RK AV<|al fun _ AW=>aP U<|WK AW<|al fun _ b=>aw<|WS fun _ AX=>rS (SX (qZ (v:=(vI (y.Hi+1))) 1 U U U FG cq U dc U) U U)<|bg 1 U<|RK AX<|WS fun _ P=>rP 4 [] (mr 5 U I) ?_
  refine cb (t:=43) U (bw fun Ak=>?_) (bx fun Ak=>?_)
  ·refine bg 14 U<|RK P<|aV U<|bY<|aD<|KK b<|an<|rS (SX (b_ (r:= .int .i64 2) U U U (ik ⟨dc,dc⟩)) U U)<|rP 1 [] I ?_
   refine RK g<|eu fun R91 BC=>WS fun _ Aa=>rS (SX (b_ (r:= .bool false) U U U gS) U U)<|RK Aa<|al fun _ A4=>aV U<|bB<|ae<|ae<|ax<|aD<|fm 6 U dA U ?_
   refine aT (G ⟨((cd left x),ys,A),⟨kU hn hm B D (fun n C=>by first|exact C|(simp [C]; done)) (fun n C=>by exact .inl C) (fun L n C K=>by simp only [eA,List.not_mem_nil,or_false] at C; rcases C with rfl|rfl<;>first|(simp; done)|(exfalso; omega)),dC B,E,F⟩⟩ _ _ _ rfl (cW hm) (aQ rfl) (aK [1,2,3,4,5,6,7]))
  refine fE 5 [] (mc 1 U I) U<|cU (xs:=[.tmp 48]) (cs:=[(vI (y.Hi+1))]) U cy jd U U U U (by simp [Value.cells]) U U fun Ae=>rS (CL (ej.eq (j6 ((aF m i).Lo) ((aF m i).Hi) ([(y.Hi+1)]) (some ⟨Ae,0,none⟩) 1 om) cT) (ay (aY 0 U U (by simp [bJ]) U)<|aL) U)<|rP 2 [] I ?_
  refine cb (t:=52) U (aR fun Al=>?_) (aS fun Al=>?_)
  ·refine bg 5 U<|RK P<|aV U<|bY<|aD<|KK b<|an<|rS (SX (b_ (r:= .int .i64 2) U U U (ik ⟨dc,dc⟩)) U U)<|rP 1 [] I ?_
   refine RK g<|eu fun R88 BB=>WS fun _ AZ=>rS (SX (b_ (r:= .bool false) U U U gS) U U)<|RK AZ<|al fun _ A3=>aV U<|bB<|ae<|ae<|ax<|aD<|fm 7 U dA U ?_
   refine aT (G ⟨((cd left x),ys,A),⟨kU hn hm B D (fun n C=>by first|exact C|(simp [C]; done)) (fun n C=>by exact .inl C) (fun L n C K=>by simp only [eA,List.not_mem_nil,or_false] at C; rcases C with rfl|rfl<;>first|(simp; done)|(exfalso; omega)),dC B,E,F⟩⟩ _ _ _ rfl (cW hm) (aQ rfl) (aK [2,3,4,5,6,7,8]))
  refine rP 2 [] I ?_
  refine kB (k:=ys) (k':=(ys++[((y.Hi+1))])) 8 (by first|exact hsz|exact Nat.le_refl _) hY E F U U U (by exact ⟨_,l0 (B _ hm) dso (by first|exact .inl rfl|exact .inr U) om,U,U⟩) U U (fun B82 W T=>?_) (fun B82 W T=>?_)
  rotate_left 1
  ·refine rP 2 [] I ?_
   refine RK P<|aP U<|ar ?_
   refine hQ _ _ _ (gW (vs:=[]) trivial fun w hs=>rI 8 U W T hs)
  refine bg 2 U<|RK P<|aV U<|bY<|aD<|KK b<|an<|rS (SX (b_ (r:= .int .i64 2) U U U (ik ⟨dc,dc⟩)) U U)<|rP 1 [] I ?_
  refine RK g<|eu fun R85 BA=>WS fun _ AY=>rS (SX (b_ (r:= .bool false) U U U gS) U U)<|RK AY<|al fun _ A2=>aV U<|bB<|ae<|ae<|ax<|aD<|fm 7 U dA U ?_
  refine aT (G ⟨((cd left x),(ys++[((y.Hi+1))]),B82),⟨kU hn hm B D (fun n C=>by first|exact C|(simp [C]; done)) (fun n C=>by (simp only [kM,bW] at C; rcases C with C|rfl<;>first|exact .inl C|exact .inr (l0 (B _ hm) dso sm om))) (fun L n C K=>by simp only [eA,List.not_mem_nil,or_false] at C; rcases C with rfl|rfl<;>first|(simp; done)|(exfalso; omega)),dC B,W,T⟩⟩ _ _ _ rfl (cW hm) (aQ rfl) (aK [2,3,4,5,6,7,8]))
 refine rP 5 [] (mc 1 U I) ?_
 refine cU (xs:=[.tmp 48]) (cs:=[(vI (y.Lo+1))]) U cy jd U U U U (by simp [Value.cells]) U U fun Ab=>?_
 refine rS (CL (ej.eq (j6 ((aF m i).Lo) ((aF m i).Hi) ([(y.Lo+1)]) (some ⟨Ab,0,none⟩) 1 (by (simp; done))) cT) (ay (aY 0 U U (by simp [bJ]) U)<|aL) U) ?_
 refine rP 2 [] I ?_
 refine cb (t:=52) U (aR fun Af=>?_) (aS fun Af=>?_)
 ·refine bg 5 U<|RK M<|aV U<|bY<|aD<|KK X<|an<|rS (SX (b_ (r:= .int .i64 1) U U U (ik ⟨dc,dc⟩)) U U)<|bg 1 U<|RK c<|eu fun R52 e=>WS fun _ AO=>rS (SX (b_ (r:= .bool true) U U U gS) U U)<|RK AO<|al fun _ AP=>aP U<|WK AP<|al fun _ a=>aw<|WS fun _ AQ=>rS (SX (qZ (v:=(vI (y.Hi+1))) 1 U U U FG cq U dc U) U U)<|bg 1 U<|RK AQ<|WS fun _ O=>rP 4 [] (mr 6 U I) ?_
  refine cb (t:=43) U (bw fun Ai=>?_) (bx fun Ai=>?_)
  ·refine bg 14 U<|RK O<|aV U<|bY<|aD<|KK a<|an<|rS (SX (b_ (r:= .int .i64 2) U U U (ik ⟨dc,dc⟩)) U U)<|rP 1 [] I ?_
   refine RK e<|eu fun R70 A_=>WS fun _ AU=>rS (SX (b_ (r:= .bool false) U U U gS) U U)<|RK AU<|al fun _ A1=>aV U<|bB<|ae<|ae<|ax<|aD<|fm 7 U dA U ?_
   refine aT (G ⟨((cd left x),ys,A),⟨kU hn hm B D (fun n C=>by first|exact C|(simp [C]; done)) (fun n C=>by exact .inl C) (fun L n C K=>by simp only [eA,List.not_mem_nil,or_false] at C; rcases C with rfl|rfl<;>first|(simp; done)|(exfalso; omega)),dC B,E,F⟩⟩ _ _ _ rfl (cW hm) (aQ rfl) (aK [2,3,4,5,6,7,8]))
  refine rP 5 [] (mc 2 U I) ?_
  refine cU (xs:=[.tmp 48]) (cs:=[(vI (y.Hi+1))]) U cy jd U U U U (by simp [Value.cells]) U U fun Ad=>?_
  refine rS (CL (ej.eq (j6 ((aF m i).Lo) ((aF m i).Hi) ([(y.Hi+1)]) (some ⟨Ad,0,none⟩) 1 (by (simp; done))) cT) (ay (aY 0 U U (by simp [bJ]) U)<|aL) U) ?_
  refine rP 2 [] I ?_
  refine cb (t:=52) U (aR fun Aj=>?_) (aS fun Aj=>?_)
  ·refine bg 5 U<|RK O<|aV U<|bY<|aD<|KK a<|an<|rS (SX (b_ (r:= .int .i64 2) U U U (ik ⟨dc,dc⟩)) U U)<|rP 1 [] I ?_
   refine RK e<|eu fun R67 A9=>WS fun _ AT=>rS (SX (b_ (r:= .bool false) U U U gS) U U)<|RK AT<|al fun _ Az=>aV U<|bB<|ae<|ae<|ax<|aD<|fm 8 U dA U ?_
   refine aT (G ⟨((cd left x),ys,A),⟨kU hn hm B D (fun n C=>by first|exact C|(simp [C]; done)) (fun n C=>by exact .inl C) (fun L n C K=>by simp only [eA,List.not_mem_nil,or_false] at C; rcases C with rfl|rfl<;>first|(simp; done)|(exfalso; omega)),dC B,E,F⟩⟩ _ _ _ rfl (cW hm) (aQ rfl) (aK [3,4,5,6,7,8,9]))
  refine rP 2 [] I ?_
  refine kB (k:=ys) (k':=(ys++[((y.Hi+1))])) 9 (by first|exact hsz|exact Nat.le_refl _) hY E F U U U (by exact ⟨_,l0 (B _ hm) dso (by first|exact .inl rfl|exact .inr U) om,U,U⟩) U U (fun B61 V S=>?_) (fun B61 V S=>?_)
  rotate_left 1
  ·refine rP 2 [] I ?_
   refine RK O<|aP U<|ar ?_
   refine hQ _ _ _ (gW (vs:=[]) trivial fun w hs=>rI 9 U V S hs)
  refine bg 2 U<|RK O<|aV U<|bY<|aD<|KK a<|an<|rS (SX (b_ (r:= .int .i64 2) U U U (ik ⟨dc,dc⟩)) U U)<|rP 1 [] I ?_
  refine RK e<|eu fun R64 A8=>WS fun _ AS=>rS (SX (b_ (r:= .bool false) U U U gS) U U)<|RK AS<|al fun _ Ay=>aV U<|bB<|ae<|ae<|ax<|aD<|fm 8 U dA U ?_
  refine aT (G ⟨((cd left x),(ys++[((y.Hi+1))]),B61),⟨kU hn hm B D (fun n C=>by first|exact C|(simp [C]; done)) (fun n C=>by (simp only [kM,bW] at C; rcases C with C|rfl<;>first|exact .inl C|exact .inr (l0 (B _ hm) dso sm om))) (fun L n C K=>by simp only [eA,List.not_mem_nil,or_false] at C; rcases C with rfl|rfl<;>first|(simp; done)|(exfalso; omega)),dC B,V,S⟩⟩ _ _ _ rfl (cW hm) (aQ rfl) (aK [3,4,5,6,7,8,9]))
 refine rP 2 [] I ?_
 refine kB (k:=ys) (k':=(ys++[((y.Lo+1))])) 8 (by first|exact hsz|exact Nat.le_refl _) hY E F U U U (by exact ⟨_,l0 (B _ hm) dso (by first|exact .inl rfl|exact .inr U) om,U,U⟩) U U (fun B28 BG H=>?_) (fun B28 BG H=>?_)
 rotate_left 1
 ·refine rP 2 [] I ?_
  refine RK M<|aP U<|ar ?_
  refine hQ _ _ _ (gW (vs:=[]) trivial fun w hs=>rI 8 U BG H hs)
 refine bg 2 U<|RK M<|aV U<|bY<|aD<|KK X<|an<|rS (SX (b_ (r:= .int .i64 1) U U U (ik ⟨dc,dc⟩)) U U)<|bg 1 U<|RK c<|eu fun R31 d=>WS fun _ AH=>rS (SX (b_ (r:= .bool true) U U U gS) U U)<|RK AH<|al fun _ AI=>aP U<|WK AI<|al fun _ Y=>aw<|WS fun _ AJ=>rS (SX (qZ (v:=(vI (y.Hi+1))) 1 U U U FG cq U dc U) U U)<|bg 1 U<|RK AJ<|WS fun _ N=>rP 4 [] (mr 6 U I) ?_
 refine cb (t:=43) U (bw fun Ag=>?_) (bx fun Ag=>?_)
 ·refine bg 14 U<|RK N<|aV U<|bY<|aD<|KK Y<|an<|rS (SX (b_ (r:= .int .i64 2) U U U (ik ⟨dc,dc⟩)) U U)<|rP 1 [] I ?_
  refine RK d<|eu fun R49 A7=>WS fun _ AN=>rS (SX (b_ (r:= .bool false) U U U gS) U U)<|RK AN<|al fun _ Ax=>aV U<|bB<|ae<|ae<|ax<|aD<|fm 7 U dA U ?_
  refine aT (G ⟨((cd left x),(ys++[((y.Lo+1))]),B28),⟨kU hn hm B D (fun n C=>by first|exact C|(simp [C]; done)) (fun n C=>by (simp only [kM,bW] at C; rcases C with C|rfl<;>first|exact .inl C|exact .inr (l0 (B _ hm) dso sm om))) (fun L n C K=>by simp only [eA,List.not_mem_nil,or_false] at C; rcases C with rfl|rfl<;>first|(simp; done)|(exfalso; omega)),dC B,BG,H⟩⟩ _ _ _ rfl (cW hm) (aQ rfl) (aK [2,3,4,5,6,7,8]))
 refine rP 5 [] (mc 2 U I) ?_
 refine cU (xs:=[.tmp 48]) (cs:=[(vI (y.Hi+1))]) U cy jd U U U U (by simp [Value.cells]) U U fun Ac=>?_
 refine rS (CL (ej.eq (j6 ((aF m i).Lo) ((aF m i).Hi) ([(y.Hi+1)]) (some ⟨Ac,0,none⟩) 1 (by (simp; done))) cT) (ay (aY 0 U U (by simp [bJ]) U)<|aL) U) ?_
 refine rP 2 [] I ?_
 refine cb (t:=52) U (aR fun Ah=>?_) (aS fun Ah=>?_)
 ·refine bg 5 U<|RK N<|aV U<|bY<|aD<|KK Y<|an<|rS (SX (b_ (r:= .int .i64 2) U U U (ik ⟨dc,dc⟩)) U U)<|rP 1 [] I ?_
  refine RK d<|eu fun R46 A6=>WS fun _ AM=>rS (SX (b_ (r:= .bool false) U U U gS) U U)<|RK AM<|al fun _ Aw=>aV U<|bB<|ae<|ae<|ax<|aD<|fm 8 U dA U ?_
  refine aT (G ⟨((cd left x),(ys++[((y.Lo+1))]),B28),⟨kU hn hm B D (fun n C=>by first|exact C|(simp [C]; done)) (fun n C=>by (simp only [kM,bW] at C; rcases C with C|rfl<;>first|exact .inl C|exact .inr (l0 (B _ hm) dso sm om))) (fun L n C K=>by simp only [eA,List.not_mem_nil,or_false] at C; rcases C with rfl|rfl<;>first|(simp; done)|(exfalso; omega)),dC B,BG,H⟩⟩ _ _ _ rfl (cW hm) (aQ rfl) (aK [3,4,5,6,7,8,9]))
 refine rP 2 [] I ?_
 refine kB (k:=(ys++[((y.Lo+1))])) (k':=((ys++[((y.Lo+1))])++[((y.Hi+1))])) 9 (by first|exact hsz|exact Nat.le_refl _) hY BG H U U U (by exact ⟨_,l0 (B _ hm) dso (by first|exact .inl rfl|exact .inr U) om,U,U⟩) U U (fun B40 BD R=>?_) (fun B40 BD R=>?_)
 rotate_left 1
 ·refine rP 2 [] I ?_
  refine RK N<|aP U<|ar ?_
  refine hQ _ _ _ (gW (vs:=[]) trivial fun w hs=>rI 9 U BD R hs)
 refine bg 2 U<|RK N<|aV U<|bY<|aD<|KK Y<|an<|rS (SX (b_ (r:= .int .i64 2) U U U (ik ⟨dc,dc⟩)) U U)<|rP 1 [] I ?_
 refine RK d<|eu fun R43 A5=>WS fun _ AK=>rS (SX (b_ (r:= .bool false) U U U gS) U U)<|RK AK<|al fun _ Av=>aV U<|bB<|ae<|ae<|ax<|aD<|fm 8 U dA U ?_
 refine aT (G ⟨((cd left x),((ys++[((y.Lo+1))])++[((y.Hi+1))]),B40),⟨kU hn hm B D (fun n C=>by first|exact C|(simp [C]; done)) (fun n C=>by (simp only [kM,bW] at C; rcases C with (C|rfl)|rfl<;>first|exact .inl C|exact .inr (l0 (B _ hm) dso sm om))) (fun L n C K=>by simp only [eA,List.not_mem_nil,or_false] at C; rcases C with rfl|rfl<;>first|(simp; done)|(exfalso; omega)),dC B,BD,R⟩⟩ _ _ _ rfl (cW hm) (aQ rfl) (aK [3,4,5,6,7,8,9]))
theorem Jb (gw:Nat) (i:Int):
 lv Tryz.prog 58 [(vP gw),(vI i)] [] (fun (x:Nat×Nat)=>(Value.func (.func 82) [].toArray [(Value.pointer (some ⟨x.1,0,none⟩)),(Value.pointer (some ⟨x.2,0,none⟩))].toArray)) (fun (x:Nat×Nat)=>True) (fun (x:Nat×Nat)=>[(bZ x.1 80 [(vP gw)]),(bZ x.2 3 [(vI i)])]):=by
 refine dp kr Tryz.func58 U U fun E Q hQ hN=>?_
 try dsimp only
 refine WS fun _ A=>uy U U fun C=>uy U U fun D=>bg 1 U<|RK A<|WS fun _ B=>rS (FU U)<|rP 1 [] I ?_
 refine RK B<|ar<|LX hQ (C,D) [1,0] [] I U U U U ?_
 trivial
end
section
open Go.RowKit
theorem AK (r:cf) (kA:OA) (kC:Nat) (cA:OA) (cC:Nat) (bA:OA) (bC:Nat) (slA:OA) (slC:Nat) (drA:OA) (drC:Nat) (heA:OA) (heC:Nat) (tA:OA) (tN tC:Nat) (gs gw:Nat) (m:gp) (i:Int) (hb: ∀ p∈m,0≤p.2.Lo∧p.2.Lo≤p.2.Hi∧p.2.Hi≤30000000) (hi:m.lookup i≠none) (hm12:m.length≤12):
 lv Tryz.prog 36 [(vP gw),(vI i)] [(bZ gw 88 (fQ.cells (fQ.mk (ot r kA kC cA cC bA bC slA slC drA drC heA heC) (aM.mk tA tN tC) (Value.map (some gs))))),(gZ iV gs (bM df m))] (fun (x:(OA)×Nat)=>(vS x.1 ((di m i (aF m i)).length) x.2)) (fun (x:(OA)×Nat)=>True) (fun (x:(OA)×Nat)=>[(own x.1 x.2 3 1 ((di m i (aF m i)).map iC))]):=by
 refine dp kr Tryz.func36 U U fun w0 Q hQ hN=>?_
 try dsimp only
 refine WS fun _ Aq=>uy U U fun b2=>uy U U fun b3=>rP 1 [] I ?_
 refine RK Aq<|WS fun _ Ar=>mz (kV:=iV) U U fun Ax=>?_
 try dsimp only
 refine AL U Uy fun b6=>Hz U UZ U U<|RK Ar<|al fun _ As=>WS fun _ At=>fE 1 [] (mc 3 U I) U<|rS (SX (bQ U U) U U)<|fE 2 [] (mr 4 U I) U<|rS (SX (xQ U U lF (by exact jG 5 U)) U U)<|rP 1 [] I ?_
 refine RK At<|aw ?_
 have A:(0≤m.length)∧(ib ([]:ly) (fun u=>1≤u∧u≤(0:Int))):=by exact ⟨Nat.zero_le _,Da fun k=>by omega⟩
 refine bO (ι:={z:Nat×ly // (z.1≤m.length)∧(ib z.2 (fun u=>1≤u∧u≤(z.1:Int)))}) [2,3,5,20] [0,2,3,4,5] U U (fun z=>[(21,(vI (z.1.1:Int)))]) (fun z=>[(gZ iV Ax (bM vB z.1.2))]) (fun _=>rfl) (fun _=>rfl) (fun z=>m.length-z.1.1) ⟨(0,([]:ly)),A⟩ (aQ U) (aK [0,2,3,4,5,1]) ?_
 clear A
 rintro ⟨⟨n,nv⟩,⟨j,K⟩⟩ J9 Ao
 try dsimp only at j K
 try dsimp only
 refine WS fun _ AD=>rP 1 [] I ?_
 refine RK AD<|al fun _ AE=>cM U (aS fun Al=>?_) (aR fun Al=>?_)
 ·refine WK AE<|al fun _ AF=>aw<|WS fun _ AG=>bg 2 U<|RK AG<|an<|fE 3 [] (mc 0 U I) U<|iu (kV:=iV) (x:=((n:Int)+1)) (C':=[_,_,_,_,_,(gZ iV Ax (bM vB (dK nv ((n:Int)+1) true)))]) 5 U U U U wN (dB od) U (gE _ _ _ _).symm U<|aH<|aD<|KK AF<|an<|rP 2 [] I ?_
  refine aH ?_
  have Ag:(vI (((n+1):Nat):Int))=(vI ((n:Int)+1)):=by exact cI om
  refine aT (Ao ⟨((n+1),(dK nv ((n:Int)+1) true)),⟨om,(Ct K om).rT fun k=>by omega⟩⟩ _ _ _ U os (cN 4<|bk U Ag<|dx.nil _) (aK [0,1,2,3,4,5]))
 refine bB<|ae<|ae<|ax<|KK As<|WS fun _ AH=>rP 1 [] (mc 0 U I) ?_
 refine cX (Kn nv Ax) (bp [5]) U fun G A9=>?_
 try dsimp only
 refine bg 1 U<|RK AH<|al fun _ AI=>WS fun _ AJ=>rP 2 [0,1] (mc 3 U (mc 2 U I)) ?_
 refine cX (Jb gw i) (aL) U fun A1 A_=>?_
 obtain ⟨Z,c⟩:=A1
 try dsimp only
 refine RK AJ<|aw<|ky 6 U (by exact fun _ h=>h)<|ky 8 U (by exact fun _ h=>h) ?_
 refine nz (L0:=[(2,(vP b2)),(3,(vP b3)),(5,(vP b6)),(7,(Value.map (some G)))]) (F:=[(bZ gw 88 (fQ.cells (fQ.mk (ot r kA kC cA cC bA bC slA slC drA drC heA heC) (aM.mk tA tN tC) (Value.map (some gs))))).ro,(gZ iV gs (bM df m)).ro,(bZ Z 80 [(vP gw)]),(bZ c 3 [(vI i)])]) (fun k (y:ly)=>(ib y (uL m i k))) (fun k y=>[(gZ iV G (bM vB nv)),(bZ b6 62 [(Value.map (some Ax))]),(bZ b3 3 [(vI i)]),(bZ b2 80 [(vP gw)]),(bZ gw 88 (fQ.cells (fQ.mk (ot r kA kC cA cC bA bC slA slC drA drC heA heC) (aM.mk tA tN tC) (Value.map (some gs))))).ro,(gZ iV gs (bM df m)).ro,(gZ iV Ax (bM vB y))]) (fun _ (_:Unit)=>False) (fun _ _=>[]) [4,5,6,7,8,9,10] [1,0,2,3] nv rfl rfl (G6 r kA kC cA cC bA bC slA slC drA drC heA heC tA tN tC gs gw m i Z c (by exact hb)) rfl rfl rfl (by exact JT (K.rT fun k=>by omega)) (by simp only [List.forall_mem_cons,List.not_mem_nil,false_imp_iff,implies_true,and_true]; exact ⟨⟨_,sm,(dI (bU _))⟩,⟨_,sm,(dI (bU _))⟩,⟨_,sm,(bU _)⟩,⟨_,sm,(bU _)⟩⟩) (by rintro k x k2 ⟨n,_,rfl,_⟩; rfl) rfl (aQ rfl) ?_ ?_ (fun _ _ _ h=>h.elim) (fun _ _ h=>h.elim)
 rotate_left 1
 ·rintro BK k nw Ah g
  have T:=g
  try dsimp only
  refine aD<|KK AI<|al fun _ Ab=>WS fun _ Ac=>rP 1 [] (mc 6 U I) ?_
  refine uz 11 U U wN U U fun Az=>?_
  try dsimp only
  refine RK Ac<|aw ?_
  have A:(∀ p∈nw,p∈nw)∧(ib nv (fun u=>(1≤u∧u≤(m.length:Int))∧ ¬ (uL m i k u∧u ∉ nw.map (·.1)))):=by exact ⟨fun p hp=>hp,K.rT fun u=>⟨fun q=>⟨om,fun z=>z.2 ((T.2 u).2 z.1)⟩,fun q=>by omega⟩⟩
  refine bO (ι:={z:ly×ly // (∀ p∈z.1,p∈nw)∧(ib z.2 (fun u=>(1≤u∧u≤(m.length:Int))∧ ¬ (uL m i k u∧u ∉ z.1.map (·.1))))}) [7,68] [0,1,2,9,10] U U (fun z=>[]) (fun z=>[(gZ iV G (bM vB z.1.2)),(zf iV Az Ax (bM vB nw) (bM vB z.1.1) none)]) (fun _=>rfl) (fun _=>rfl) (fun z=>z.1.1.length) ⟨(nw,nv),A⟩ (dx.nil _) (aK [0,1,2,9,10,5,11]) ?_
  clear A
  rintro ⟨⟨left,rk⟩,⟨A4,J⟩⟩ J55 AC
  try dsimp only at A4 J
  try dsimp only
  refine WS fun _ X=>rU (dB od).inj (f:=Value.bool) 6 U U U U (fun An=>?_) (fun u v Ai BD=>?_)
  rotate_left 1
  ·try dsimp only
   refine bg 1 U<|RK X<|al fun _ Ae=>aP U<|WK Ae<|aw<|WS fun _ Af=>rS (SX (r_ 6 U U U) U U)<|bg 2 U<|RK Af<|an<|rP 2 [] I ?_
   refine pD (kV:=iV) (x:=u) (C':=[_,_,_,_,_,(gZ iV G (bM vB (cd rk u))),_]) 5 U U U U wN (dB od) U (lJ _ _ _).symm U<|aH<|aD<|fm 6 U wV U ?_
   refine aT (AC ⟨((cd left u),(cd rk u)),⟨dC A4,Nz A4 T Ai J⟩⟩ _ _ _ U (cW Ai) (aQ U) (aK [0,1,2,3,4,5,6]))
  refine rP 1 [] I ?_
  refine RK X<|al fun _ A8=>aV U<|bB<|ae<|ae<|ax<|KK Ab<|WS fun _ Ad=>?_
  have Aj:ib rk (fun u=>(1≤u∧u≤(m.length:Int))∧ ¬ uL m i k u):=J.rT fun u=>⟨fun q=>⟨q.1,fun z=>q.2 ⟨z,by rw [An]; simp⟩⟩,fun q=>⟨q.1,fun z=>q.2 z.1⟩⟩
  have Y:dk (rk.map (·.1))=(di m i (aF m i)):=EM hi Ah Aj
  have BF:rk.length≤m.length:=K6 Aj fun k q=>q.1
  have Au:rk.length=(di m i (aF m i)).length:=by rw [← Y]; simp
  refine rP 1 [] I ?_
  refine cX (NM G) (aL) U fun Ak BA=>?_
  try dsimp only
  refine cX (HK rk G Ak om) (bp [6,0]) U fun A2 BB=>?_
  obtain ⟨o,AA⟩:=A2
  try dsimp only
  rw [Y]
  refine rP 1 [] I ?_
  refine RK Ad<|ar<|hQ _ _ _ (ou 2 U U<|gW (vs:=[(vS o rk.length AA)]) ⟨U,trivial⟩ fun w hs=>I9 (o,AA) [0] ?_ ?_ U U U hs)
  ·(rw [← Au]; rfl)
  ·trivial
 rintro k x k2 nw l ra rb S w1 K26 Qr27 BI hx e AM d A0 A3
 obtain ⟨n,BE,rfl,rfl⟩:=hx
 have T:=e
 try dsimp only
 refine an<|rP 1 [] I ?_
 refine aH<|aT (AM _ _ ?_)
 refine aw<|WS fun _ AN=>bg 2 U<|RK AN<|al fun _ AO=>WS fun _ AP=>fE 1 [] (mc 4 U I) U<|rS (SX (bQ U U) U U)<|rP 2 [] (mr 5 U I) ?_
 refine iI (kV:=iV) (m:=bM df m) 6 U U lF U ⟨U,fun h=>h⟩ (by exact jG 6 U) U fun Ay=>?_
 try dsimp only
 refine RK AP<|aw ?_
 have A:((1:Int)+(gD m i n:Int)=1+(gD m i n:Int))∧((1:Int)+(jt m i n:Int)=1+(jt m i n:Int))∧(∀ p∈m,p∈m)∧(1≤(1:Int)∧1≤(1:Int)):=by exact ⟨rfl,rfl,fun p hp=>hp,om⟩
 refine bO (ι:={z:gp×Int×Int // (z.2.1+(gD z.1 i n:Int)=1+(gD m i n:Int))∧(z.2.2+(jt z.1 i n:Int)=1+(jt m i n:Int))∧(∀ p∈z.1,p∈m)∧(1≤z.2.1∧1≤z.2.2)}) [2,3,5,7,8,38] [1,2,3,4,5,6,7,8] U U (fun z=>[(9,(vI z.1.2.1)),(10,(vI z.1.2.2))]) (fun z=>[(yd iV Ay gs (bM df m) (bM df z.1.1) none)]) (fun _=>rfl) (fun _=>rfl) (fun z=>z.1.1.length) ⟨(m,(1:Int),(1:Int)),A⟩ (aQ U) (aK [1,2,3,4,5,6,7,8,0]) ?_
 clear A
 rintro ⟨⟨left,s,t⟩,⟨C,D,B,R⟩⟩ J33 L
 try dsimp only at C D B R
 try dsimp only
 have Av:=vU (m:=m) (i:=i) (n:=n)
 have Aw:=Ap (m:=m) (i:=i) (n:=n)
 refine WS fun _ V=>g8 (dB od).inj (f:=df) 8 U U U U (fun P=>?_) (fun x y hm hn=>?_)
 ·refine bg 1 U<|RK V<|al fun _ A7=>aV U<|bB<|ae<|ae<|ax<|KK AO<|WS fun _ AQ=>rP 2 [] I ?_
  refine RK AQ<|aw ?_
  have A:(s≤s∧(s≤t+1∨s=s))∧(ib nw (fun u=>uL m i k u∧ ¬ (s≤u∧u<s))):=by exact ⟨⟨Int.le_refl _,.inr rfl⟩,T.rT fun u=>⟨fun q=>⟨q,fun z=>by omega⟩,fun q=>q.1⟩⟩
  refine bO (ι:={z:Int×ly // (s≤z.1∧(z.1≤t+1∨z.1=s))∧(ib z.2 (fun u=>uL m i k u∧ ¬ (s≤u∧u<z.1)))}) [2,3,5,7,8,9,10] [0,1,2,3,4,5,6,8] U U (fun z=>[(13,(vI z.1.1))]) (fun z=>[(gZ iV Ax (bM vB z.1.2))]) (fun _=>rfl) (fun _=>rfl) (fun z=>(t+1-z.1.1).toNat) ⟨(s,nw),A⟩ (aQ U) (aK [0,1,2,3,4,5,6,8,7]) ?_
  clear A
  rintro ⟨⟨q,n2⟩,⟨N,H⟩⟩ J37 AB
  try dsimp only at N H
  try dsimp only
  have Av:=vU (m:=m) (i:=i) (n:=n)
  have Aw:=Ap (m:=m) (i:=i) (n:=n)
  have BG:s=1+(gD m i n:Int):=by rw [P] at C; simp only [ub] at C; omega
  have BH:t=1+(jt m i n:Int):=by rw [P] at D; simp only [xe] at D; omega
  refine al fun _ AR=>WS fun _ AS=>rP 3 [] I ?_
  refine RK AS<|bR U (aR fun Am=>?_) (aS fun Am=>?_)
  ·refine bB<|ae<|ae<|ax<|aD ?_
   exact d n2 _ _ (by exact IL (a:=s) (b:=t) (by rw [P,ub] at C; omega) (by rw [P,xe] at D; omega) (H.rT fun u=>⟨fun z=>⟨z.1,fun w=>z.2 om⟩,fun z=>⟨z.1,fun w=>z.2 om⟩⟩)) (aK [0,1,2,3,4,5,6,8])
  refine WK AR<|al fun _ AT=>aw<|an<|fE 2 [] (mc 2 U I) U<|pD (kV:=iV) (x:=q) (C':=[_,_,_,_,_,_,_,_,(gZ iV Ax (bM vB (cd n2 q)))]) 8 U U U U wN (dB od) U (lJ _ _ _).symm U<|aH<|aD<|KK AT<|an<|rP 3 [] I ?_
  refine aH ?_
  refine aT (AB ⟨((q+1),(cd n2 q)),⟨om,Ec N.1 H⟩⟩ _ _ _ U dso (aQ U) (aK [0,1,2,3,4,5,6,7,8]))
 try dsimp only
 refine bg 1 U<|RK V<|al fun _ AU=>aP U<|WK AU<|aw<|WS fun _ AV=>rS (SX (g7 8 U U U) U U)<|bg 2 U<|AL U dg fun BC=>bg 1 U<|fR U cu U<|RK AV<|al fun _ AW=>WS fun _ AX=>rP 3 [] (mc 4 U I) ?_
 refine RK AX<|cM U (aS fun E=>?_) (aR fun E=>?_)
 ·refine bB<|ae<|ax<|fm 9 U dA U ?_
  refine aT (L ⟨((cd left x),s,t),(by refine ⟨?_,?_,dC B,?_⟩<;>dsimp only <;>first|omega|(rw [← jw hn hm E]; omega)|(rw [← kl hn hm E]; omega))⟩ _ _ _ U (cW hm) (aQ U) (aK [1,2,3,4,5,6,7,8,9]))
 refine WK AW<|al fun _ W=>WS fun _ AY=>rP 4 [] (mc 0 U I) ?_
 refine RK AY<|bR U (aR fun O=>?_) (aS fun O=>?_)
 ·refine WK W<|WS fun _ Aa=>rP 4 [] (mc 0 U I) ?_
  refine RK Aa<|bR U (aR fun M=>?_) (aS fun M=>?_)
  ·refine bY<|aD<|fm 9 U dA U ?_
   refine aT (L ⟨((cd left x),s,t),(by refine ⟨?_,?_,dC B,?_⟩<;>dsimp only <;>first|omega|(have:=jQ hn hm E O; omega)|(have:=k6 hn hm E M; omega))⟩ _ _ _ U (cW hm) (aQ U) (aK [1,2,3,4,5,6,7,8,9]))
  refine an<|rP 3 [] I ?_
  refine aH<|aD<|fm 9 U dA U ?_
  refine aT (L ⟨((cd left x),s,(t+1)),(by refine ⟨?_,?_,dC B,?_⟩<;>dsimp only <;>first|omega|(have:=jQ hn hm E O; omega)|(have:=jX hn hm E M; omega))⟩ _ _ _ U (cW hm) (aQ U) (aK [1,2,3,4,5,6,7,8,9]))
 refine an<|bg 3 U<|RK W<|WS fun _ AZ=>rP 4 [] (mc 0 U I) ?_
 refine RK AZ<|bR U (aR fun M=>?_) (aS fun M=>?_)
 ·refine bY<|aD<|fm 9 U dA U ?_
  refine aT (L ⟨((cd left x),(s+1),t),(by refine ⟨?_,?_,dC B,?_⟩<;>dsimp only <;>first|omega|(have:=iW hn hm E O; omega)|(have:=k6 hn hm E M; omega))⟩ _ _ _ U (cW hm) (aQ U) (aK [1,2,3,4,5,6,7,8,9]))
 refine an<|rP 3 [] I ?_
 refine aH<|aD<|fm 9 U dA U ?_
 refine aT (L ⟨((cd left x),(s+1),(t+1)),(by refine ⟨?_,?_,dC B,?_⟩<;>dsimp only <;>first|omega|(have:=iW hn hm E O; omega)|(have:=jX hn hm E M; omega))⟩ _ _ _ U (cW hm) (aQ U) (aK [1,2,3,4,5,6,7,8,9]))
end
section
open Go.RowKit
theorem Fi (i:Int) (r:cf) (kA:OA) (kC:Nat) (az:List RA) (cA:OA) (cC:Nat) (bA:OA) (bC:Nat) (slA:OA) (slC:Nat) (drA:OA) (drC:Nat) (ha:List cQ) (heA:OA) (heC:Nat) (hin:fg r az ha):
 lv Tryz.prog 15 [(vA (bq.cells (ot r kA kC cA cC bA bC slA slC drA drC heA heC))),(vI i)] [(rd dG 3 2 dh),(rd kA r.ah.aJ.length 9 (r.ah.aJ.map ao.cells)),(rd cA r.ah.ai.length 2 (List.zipWith au.cells r.ah.ai az)),(e7 (aU au.gY r.ah.ai az)),(rd bA r.ah.ag.length 4 (r.ah.ag.map bE.cells)),(rd slA r.aI.length 1 (r.aI.map iC)),(rd drA r.bD.length 1 (r.bD.map iC)),(rd heA r.aq.length 1 (List.zipWith cz r.aq ha)),(e7 (aU hU r.aq ha))] (fun (x:(OA)×Nat)=>(vT [(vS x.1 ((fU r i).length) x.2),(vI (jy r i))])) (fun (x:(OA)×Nat)=>True) (fun (x:(OA)×Nat)=>[(own x.1 x.2 3 1 ((fU r i).map iC))]):=by
 have V:=hin.line
 have k:=hin.iM
 have l:=hin.has
 have c:=hin.iN
 have Z:=hin.draw
 have d:=dH (r:=r)
 refine dp kr Tryz.func15 U U fun o Q hQ hN=>?_
 try dsimp only
 refine WS fun _ AA=>fV U fun n=>bg 2 U<|RK AA<|WS fun _ G=>rP 2 [] (mc 0 U I) ?_
 refine cU (xs:=[.tmp 11]) (cs:=[(vI i)]) U cy jd U U U U (by simp [Value.cells]) U U fun h=>cX (yR r kA kC az cA cC bA bC slA slC drA drC ha heA heC i h hin) (bp [2,3,4,5,6,7,8,9,10,0]) U fun m L=>?_
 obtain ⟨M,j,T,S,N,O,p,f,g⟩:=m
 cases M
 ·obtain ⟨H,he⟩:=L.2 rfl
  try dsimp only at H he
  subst H
  try dsimp only [cond_true,cond_false,List.cons_append,List.nil_append]
  refine bg 7 U<|RK G<|al fun _ Y=>WS fun _ B=>rP 2 [] I ?_
  refine RK B<|bR U (bw fun A=>?_) (bx fun A=>?_)
  ·exact absurd A he
  refine WS fun _ C=>dU 3 1 ?_
  rw [show (own none 0 3 1 ([]:List (List Value)))=own none 0 3 1 ((fU r i).map iC) from by rw [oS he]; rfl]
  refine bg 1 U<|rP 2 [] I ?_
  refine RK C<|ar ?_
  refine LX hQ (none,0) [0] [] I U U U ?_ ?_
  ·(rw [oS he]; rfl)
  ·trivial
 obtain ⟨he,W⟩:=L.1 rfl
 try dsimp only [cond_true,cond_false,List.cons_append,List.nil_append]
 try dsimp only at W
 obtain ⟨J,a,AB⟩:=uM he
 have K:=lM J
 have b:=ni J
 refine bg 7 U<|RK G<|al fun _ D=>WS fun _ E=>bg 1 U<|rS (SX (b_ (r:= .bool false) U U U ng) U U)<|RK E<|aV U<|WK D<|WS fun _ F=>rP 2 [] I ?_
 refine cX (AK r kA kC cA cC bA bC slA slC drA drC heA heC N ((cP r).length) O S T (aB r) i (by exact K) (by exact AB) om) (bp [0,3]) U fun X e=>?_
 obtain ⟨P,R⟩:=X
 try dsimp only
 rw [show (di (aB r) i (aF (aB r) i))=fU r i from (yO he).symm]
 refine rP 2 [] I ?_
 refine RK F<|ar ?_
 refine LX hQ (P,R) [0] [] I U U U ?_ ?_
 ·(rw [he]; rfl)
 ·trivial
theorem LG (a b:Int) (r:cf) (kA:OA) (kC:Nat) (az:List RA) (cA:OA) (cC:Nat) (bA:OA) (bC:Nat) (slA:OA) (slC:Nat) (drA:OA) (drC:Nat) (ha:List cQ) (heA:OA) (heC:Nat) (hin:fg r az ha):
 ej Tryz.prog 12 [(vA (bq.cells (ot r kA kC cA cC bA bC slA slC drA drC heA heC))),(vI a),(vI b)] [(rd dG 3 2 dh),(rd kA r.ah.aJ.length 9 (r.ah.aJ.map ao.cells)),(rd cA r.ah.ai.length 2 (List.zipWith au.cells r.ah.ai az)),(e7 (aU au.gY r.ah.ai az)),(rd bA r.ah.ag.length 4 (r.ah.ag.map bE.cells)),(rd slA r.aI.length 1 (r.aI.map iC)),(rd drA r.bD.length 1 (r.bD.map iC)),(rd heA r.aq.length 1 (List.zipWith cz r.aq ha)),(e7 (aU hU r.aq ha))] (vT [(Value.int .u8 (vq r a b)),(vI (m_ r a b))]):=by
 have M:=hin.line
 have k:=hin.iM
 have l:=hin.has
 have V:=hin.iN
 have R:=hin.draw
 have W:=dH (r:=r)
 refine bI kr Tryz.func12 U U fun p Q hQ hN=>?_
 try dsimp only
 refine WS fun _ L=>fV U fun o=>bg 2 U<|RK L<|WS fun _ H=>rP 3 [] (mc 0 U I) ?_
 refine cU (xs:=[.tmp 13,.tmp 14]) (cs:=[(vI a),(vI b)]) U cy jd U U U U (by simp [Value.cells]) U U fun d=>cX (zq r kA kC az cA cC bA bC slA slC drA drC ha heA heC a b d hin) (bp [2,3,4,5,6,7,8,9,10,0]) U fun m J=>?_
 obtain ⟨K,e,g,f,Z,c,q,X,Y⟩:=m
 cases K
 ·obtain ⟨AB,he⟩:=J.2 rfl
  try dsimp only at AB he
  subst AB
  try dsimp only [cond_true,cond_false,List.cons_append,List.nil_append]
  refine bg 7 U<|RK H<|al fun _ P=>WS fun _ C=>rP 2 [] I ?_
  refine RK C<|bR U (bw fun B=>?_) (bx fun B=>?_)
  ·exact absurd B he
  refine WS fun _ D=>rP 3 [] I ?_
  refine RK D<|ar<|Q2 hQ U U U U ?_
  (rw [show vq r a b=0 from if_neg he]; done)
 obtain ⟨he,O⟩:=J.1 rfl
 try dsimp only [cond_true,cond_false,List.cons_append,List.nil_append]
 try dsimp only at O
 obtain ⟨N,S,T,AA⟩:=zo he
 have A:=lM N
 have h:=gR (i:=a) A
 have j:=gR (i:=b) A
 refine bg 7 U<|RK H<|al fun _ E=>WS fun _ F=>bg 1 U<|rS (SX (b_ (r:= .bool false) U U U ng) U U)<|RK F<|aV U<|WK E<|al fun _ G=>dF cD 21 kr<|dP 1 [] I ?_
 refine dS (IA 0 U (ak (n:=2) 4 U sq) jK dc U om) ?_
 refine dS (nK ((0*2)+1) U (ak (n:=([(aF (aB r) a),(aF (aB r) b)]).length) 4 U sm) (Nat.succ_pos _) fD U)<|dS (gF 0 1 (vI ((aF (aB r) a).Hi)) U cq (ak (n:=([(aF (aB r) a),(aF (aB r) b)]).length) 4 U sm) (show ([(aF (aB r) a),(aF (aB r) b)].map aa.cells)[0]? =some [(vI ((aF (aB r) a).Lo)),(vI ((aF (aB r) a).Hi))] from U) U dc U)<|dP 1 [] I ?_
 refine dS (IA 1 U (ak (n:=2) 4 U sq) jK dc U om) ?_
 refine dS (nK (1*2) U (ak (n:=([(aF (aB r) a),(aF (aB r) b)]).length) 4 U sm) (Nat.succ_pos _) fD U)<|dS (gF 1 0 (vI ((aF (aB r) b).Lo)) U cq (ak (n:=([(aF (aB r) a),(aF (aB r) b)]).length) 4 U sm) (show ([(aF (aB r) a),(aF (aB r) b)].map aa.cells)[1]? =some [(vI ((aF (aB r) b).Lo)),(vI ((aF (aB r) b).Hi))] from U) U dc U)<|dP 2 [] I ?_
 refine dS (IA 0 U (ak (n:=2) 4 U sq) jK dc U om) ?_
 refine dS (nK (0*2) U (ak (n:=([(aF (aB r) a),(aF (aB r) b)]).length) 4 U sm) (Nat.succ_pos _) fD U)<|dS (gF 0 0 (vI ((aF (aB r) a).Lo)) U cq (ak (n:=([(aF (aB r) a),(aF (aB r) b)]).length) 4 U sm) (show ([(aF (aB r) a),(aF (aB r) b)].map aa.cells)[0]? =some [(vI ((aF (aB r) a).Lo)),(vI ((aF (aB r) a).Hi))] from U) U dc U)<|dP 1 [] I ?_
 refine dS (IA 1 U (ak (n:=2) 4 U sq) jK dc U om) ?_
 refine dS (nK ((1*2)+1) U (ak (n:=([(aF (aB r) a),(aF (aB r) b)]).length) 4 U sm) (Nat.succ_pos _) fD U)<|dS (gF 1 1 (vI ((aF (aB r) b).Hi)) U cq (ak (n:=([(aF (aB r) a),(aF (aB r) b)]).length) 4 U sm) (show ([(aF (aB r) a),(aF (aB r) b)].map aa.cells)[1]? =some [(vI ((aF (aB r) b).Lo)),(vI ((aF (aB r) b).Hi))] from U) U dc U)<|lz 1 U<|dS (CL (xx (decide (((aF (aB r) a).Hi)<((aF (aB r) b).Lo))) (decide (((aF (aB r) a).Lo)<((aF (aB r) b).Hi)))) (aL) U)<|dP 2 [] I ?_
 refine cO<|RK G<|ar<|Q2 hQ U U U U ?_
 (rw [he,show vq r a b=By _ _ from if_pos he,← Ml])
theorem Qh (a b:Int) (r:cf) (kA:OA) (kC:Nat) (az:List RA) (cA:OA) (cC:Nat) (bA:OA) (bC:Nat) (slA:OA) (slC:Nat) (drA:OA) (drC:Nat) (ha:List cQ) (heA:OA) (heC:Nat) (hin:fg r az ha):
 ej Tryz.prog 13 [(vA (bq.cells (ot r kA kC cA cC bA bC slA slC drA drC heA heC))),(vI a),(vI b)] [(rd dG 3 2 dh),(rd kA r.ah.aJ.length 9 (r.ah.aJ.map ao.cells)),(rd cA r.ah.ai.length 2 (List.zipWith au.cells r.ah.ai az)),(e7 (aU au.gY r.ah.ai az)),(rd bA r.ah.ag.length 4 (r.ah.ag.map bE.cells)),(rd slA r.aI.length 1 (r.aI.map iC)),(rd drA r.bD.length 1 (r.bD.map iC)),(rd heA r.aq.length 1 (List.zipWith cz r.aq ha)),(e7 (aU hU r.aq ha))] (vT [(Value.int .u8 (qp r a b)),(vI (m_ r a b))]):=by
 have T:=hin.line
 have q:=hin.iM
 have s:=hin.has
 have d:=hin.iN
 have X:=hin.draw
 have e:=dH (r:=r)
 refine bI kr Tryz.func13 U U fun w Q hQ hN=>?_
 try dsimp only
 refine WS fun _ P=>fV U fun v=>bg 2 U<|RK P<|WS fun _ J=>rP 3 [] (mc 0 U I) ?_
 refine cU (xs:=[.tmp 14,.tmp 15]) (cs:=[(vI a),(vI b)]) U cy jd U U U U (by simp [Value.cells]) U U fun l=>cX (zq r kA kC az cA cC bA bC slA slC drA drC ha heA heC a b l hin) (bp [2,3,4,5,6,7,8,9,10,0]) U fun u N=>?_
 obtain ⟨O,m,p,o,h,j,x,f,g⟩:=u
 cases O
 ·obtain ⟨M,he⟩:=N.2 rfl
  try dsimp only at M he
  subst M
  try dsimp only [cond_true,cond_false,List.cons_append,List.nil_append]
  refine bg 7 U<|RK J<|al fun _ W=>WS fun _ E=>rP 2 [] I ?_
  refine RK E<|bR U (bw fun D=>?_) (bx fun D=>?_)
  ·exact absurd D he
  refine WS fun _ F=>rP 3 [] I ?_
  refine RK F<|ar<|Q2 hQ U U U U ?_
  (rw [show qp r a b=0 from if_neg he]; done)
 obtain ⟨he,V⟩:=N.1 rfl
 try dsimp only [cond_true,cond_false,List.cons_append,List.nil_append]
 try dsimp only at V
 obtain ⟨AA,Y,Z,c⟩:=zo he
 have B:=lM AA
 have R:=gR (i:=a) B
 have S:=gR (i:=b) B
 refine bg 7 U<|RK J<|al fun _ G=>WS fun _ H=>rP 1 [] I ?_
 refine rS (SX (b_ (r:= .bool false) U U U ng) U U)<|RK H<|aV U<|WK G<|al fun _ AB=>dR cD [19,20] [] [] [0,1,2,3,4,5,6,7,8,9,10,11,12,13,14,15] [] U U U U U<|eS U (MV U) ?_
 refine eS U (IA 0 U (ak (n:=2) 4 U sq) jK dc U om) ?_
 refine eS U (nK (0*2) U (ak (n:=([(aF (aB r) a),(aF (aB r) b)]).length) 4 U sm) (Nat.succ_pos _) fD U)<|eS U (gF 0 0 (vI ((aF (aB r) a).Lo)) U cq (ak (n:=([(aF (aB r) a),(aF (aB r) b)]).length) 4 U sm) (show ([(aF (aB r) a),(aF (aB r) b)].map aa.cells)[0]? =some [(vI ((aF (aB r) a).Lo)),(vI ((aF (aB r) a).Hi))] from U) U dc U)<|eS U (MV U) ?_
 refine eS U (IA 1 U (ak (n:=2) 4 U sq) jK dc U om) ?_
 refine eS U (nK (1*2) U (ak (n:=([(aF (aB r) a),(aF (aB r) b)]).length) 4 U sm) (Nat.succ_pos _) fD U)<|eS U (gF 1 0 (vI ((aF (aB r) b).Lo)) U cq (ak (n:=([(aF (aB r) a),(aF (aB r) b)]).length) 4 U sm) (show ([(aF (aB r) a),(aF (aB r) b)].map aa.cells)[1]? =some [(vI ((aF (aB r) b).Lo)),(vI ((aF (aB r) b).Hi))] from U) U dc U)<|eS U (MX U)<|eS U (MV U) ?_
 refine eS U (IA 0 U (ak (n:=2) 4 U sq) jK dc U om) ?_
 refine eS U (nK ((0*2)+1) U (ak (n:=([(aF (aB r) a),(aF (aB r) b)]).length) 4 U sm) (Nat.succ_pos _) fD U)<|eS U (gF 0 1 (vI ((aF (aB r) a).Hi)) U cq (ak (n:=([(aF (aB r) a),(aF (aB r) b)]).length) 4 U sm) (show ([(aF (aB r) a),(aF (aB r) b)].map aa.cells)[0]? =some [(vI ((aF (aB r) a).Lo)),(vI ((aF (aB r) a).Hi))] from U) U dc U)<|eS U (MV U) ?_
 refine eS U (IA 1 U (ak (n:=2) 4 U sq) jK dc U om) ?_
 refine eS U (nK ((1*2)+1) U (ak (n:=([(aF (aB r) a),(aF (aB r) b)]).length) 4 U sm) (Nat.succ_pos _) fD U)<|eS U (gF 1 1 (vI ((aF (aB r) b).Hi)) U cq (ak (n:=([(aF (aB r) a),(aF (aB r) b)]).length) 4 U sm) (show ([(aF (aB r) a),(aF (aB r) b)].map aa.cells)[1]? =some [(vI ((aF (aB r) b).Lo)),(vI ((aF (aB r) b).Hi))] from U) U dc U)<|eS U (MN U)<|eS U (SX (bj (xs:=[(0,.tmp 32),(1,.tmp 41)]) (cs:=(aa.cells (aa.mk (max ((aF (aB r) a).Lo) ((aF (aB r) b).Lo)) (min ((aF (aB r) a).Hi) ((aF (aB r) b).Hi))))) U U (bh gl U)) U U)<|e8 U<|cp U fun T22 K=>AL U dg fun k=>aH (K _ _ (aK [1,2,3,4,5,6,7,8,9,10,11,12,13,14,15,16]) ?_)
 refine cp U fun T24 L=>fR U cu U<|aH (L _ _ (aK [1,2,3,4,5,6,7,8,9,10,11,12,13,14,15,16]) ?_)
 refine fM U<|KK AB<|al fun _ A=>dF cD 22 kr<|dP 1 [] I ?_
 refine dS (IA 0 U (ak (n:=2) 5 U sq) jK dc U om) ?_
 refine dS (oB 0 0 (aa.cells (aF (aB r) a)) U cq (ak (n:=([(aF (aB r) a),(aF (aB r) b)]).length) 5 U sm) (show ([(aF (aB r) a),(aF (aB r) b)].map aa.cells)[0]? =some [(vI ((aF (aB r) a).Lo)),(vI ((aF (aB r) a).Hi))] from U) U dc U U)<|dP 1 [] I ?_
 refine dS (IA 1 U (ak (n:=2) 5 U sq) jK dc U om) ?_
 refine dS (oB 1 0 (aa.cells (aF (aB r) b)) U cq (ak (n:=([(aF (aB r) a),(aF (aB r) b)]).length) 5 U sm) (show ([(aF (aB r) a),(aF (aB r) b)].map aa.cells)[1]? =some [(vI ((aF (aB r) b).Lo)),(vI ((aF (aB r) b).Hi))] from U) U dc U U)<|dS (BI U (tp _ _ (aF (aB r) a) (aF (aB r) b)))<|dP 1 [] I ?_
 refine jk (t:=50) U (aR fun C=>?_) (aS fun C=>?_)
 ·refine mI 11 [] (mc 0 U I) U<|dS (CL (xx false (decide ((max ((aF (aB r) a).Lo) ((aF (aB r) b).Lo))≤(min ((aF (aB r) a).Hi) ((aF (aB r) b).Hi))))) (aL) U)<|dP 2 [] I ?_
  refine cO<|RK A<|ar<|Q2 hQ U U U U ?_
  (rw [he,show qp r a b=rz _ _ from if_pos he,← MK R.2.1 S.2.1 C]; done)
 refine mI 11 [] (mc 0 U I) U<|dS (CL (xx (decide ((max ((aF (aB r) a).Lo) ((aF (aB r) b).Lo))=(min ((aF (aB r) a).Hi) ((aF (aB r) b).Hi)))) (decide ((max ((aF (aB r) a).Lo) ((aF (aB r) b).Lo))≤(min ((aF (aB r) a).Hi) ((aF (aB r) b).Hi))))) (aL) U)<|dP 2 [] I ?_
 refine cO<|RK A<|ar<|Q2 hQ U U U U ?_
 (rw [he,show qp r a b=rz _ _ from if_pos he,← H_ C]; done)
end
section
theorem TN.sub {E:ff} {ops:Array Oper} {Q:cZ} {D:List Deferred} {C' C1 C:List av} {tb rem:List Nat}: ∀ {n:Nat} {L L':List (Nat×Value)},dx L L'→TN E ops D C' C1 (fun L C=>KJ E (Q .normal) D L C) tb n rem L' C→TN E ops D C' C1 (fun L C=>KJ E (Q .normal) D L C) tb n rem L C:=by
 intro n
 cases n with
 |zero=>intro L L' hs h; exact jg hs (fun _ h=>h) h
 |succ n=>intro L L' hs h i hi o ho K hK; exact OJ hs (fun _ h=>h) (h i hi o ho K hK)
theorem ME {E:ff} {ops:Array Oper} {Q:cZ} {D:List Deferred} {C' C1 C:List av} {bs:List Bool} {os:List Oper} {L:List (Nat×Value)} {tb rem:List Nat} {n:Nat} {t:Nat} {b:Bool} (h:L.lookup t=some (.bool b))
 (h1:b=true→pW E ops D C' C1 (fun L'=>TN E ops D C' C1 (fun L C=>KJ E (Q .normal) D L C) tb n rem L' C) bs os ((t,.bool true)::L)) (h2:b=false→pW E ops D C' C1 (fun L'=>TN E ops D C' C1 (fun L C=>KJ E (Q .normal) D L C) tb n rem L' C) bs os ((t,.bool false)::L)):
 pW E ops D C' C1 (fun L'=>TN E ops D C' C1 (fun L C=>KJ E (Q .normal) D L C) tb n rem L' C) bs os L:=by
 have A: ∀ v:Bool,b=v→dx L ((t,.bool v)::L):=fun v hv=>dx.cons (hv▸h) (fun _ _ h=>h)
 cases b
 ·exact pW.mono (fun _ _=>TN.sub) (A _ U) (h2 U)
 ·exact pW.mono (fun _ _=>TN.sub) (A _ U) (h1 U)
theorem Kd {E:ff} {ops:Array Oper} {Q:cZ} {D:List Deferred} {L:List (Nat×Value)} {C1 C2 C:List av} {t n:Nat} {b:Bool} {bs:List Bool} {os:List Oper} {tb rem:List Nat} (h:L.lookup t=some (.bool b)) (h2:b=false→pW E ops D C2 C1 (fun L2=>TN E ops D C2 C1 (fun L C=>KJ E (Q .normal) D L C) tb n rem L2 C) bs os ((t,.bool false)::L)) (h1:b=true→pW E ops D C2 C1 (fun L2=>TN E ops D C2 C1 (fun L C=>KJ E (Q .normal) D L C) tb n rem L2 C) bs os ((t,.bool true)::L)):pW E ops D C2 C1 (fun L2=>TN E ops D C2 C1 (fun L C=>KJ E (Q .normal) D L C) tb n rem L2 C) bs os L:=ME h h1 h2
end
section
open Go.RowKit
section
variable {r:cf} {h i:Int} {t:aa} {k:Nat}
end
/-- there is a table -/
theorem zW {r:cf} (he:bX r=0): ∃ G,ic (aF (aB r)) ((aB r).map (·.1)) G∧Cr G:=by
 have key: ∀ (L:List Int),Ew (fun u=>(aF (aB r) u).Lo) L→ ∀ i,i≤L.length→ ∃ G last,l9 (aF (aB r)) (L.take i) G last:=fun L B i=>by
  induction i with
  |zero=>intro _; exact ⟨[],-1,Fs⟩
  |succ i ih=>
   intro hi
   obtain ⟨G,last,hG⟩:=ih om
   have hx:L[i]? =some (L[i]'om):=e9 _
   have C:=gR (i:=L[i]'om) (lM he)
   by_cases hl:last<(aF (aB r) (L[i]'om)).Lo
   ·obtain ⟨g,hg⟩: ∃ g,(G++[[]])[(G++[([]:List Int)]).length-1]? =some g:=⟨_,e9 sm⟩
    exact ⟨_,_,pz om hx hg hG hl⟩
   ·have hp:=Gb C.1 hG hl
    obtain ⟨g,hg⟩: ∃ g,G[G.length-1]? =some g:=⟨_,e9 om⟩
    exact ⟨_,_,oh om (fun u _=>(gR (i:=u) (lM he)).2.1) B hx hg hG hl⟩
 obtain ⟨G,last,hG⟩:=key (eD (fun u=>(aF (aB r) u).Lo) ((aB r).map (·.1))) uk _ (Nat.le_refl _)
 have A:=vj hG.ok
 rw [List.take_length] at A
 exact ⟨_,qn A.1 qg,A.2⟩
theorem vm {r:cf}:(bG r).length≤1000000∧ ∀ l∈bG r,l.length≤1000000:=by
 by_cases he:bX r=0
 ·have E:(aB r).length≤5:=ni he
  have A: ∃ G,ic (aF (aB r)) ((aB r).map (·.1)) G∧Cr G:=by
   refine Classical.byContradiction fun hn=>?_
   exact hn (zW he)
  obtain ⟨G,hG,hA⟩:=A
  rw [← tH he hG hA]
  have C:=hG.perm.length_eq
  rw [List.length_map] at C
  have B: ∀ G:List (List Int),(∀ g∈G,g≠[])→G.length≤G.flatten.length:=fun G=>by
   induction G with
   |nil=>intro _; simp
   |cons g G ih=>
    intro hG
    have B:=ih fun y hy=>hG y (cS _ hy)
    have D:=List.length_pos_iff.2 (hG g cm)
    simp only [List.flatten_cons,List.length_cons,List.length_append]; omega
  refine ⟨by have:=B G hG.some_; omega,fun l hl=>?_⟩
  have D:l.length≤G.flatten.length:=(List.sublist_flatten_of_mem hl).length_le
  omega
 ·rw [Bj he]; simp
theorem Cm {r:cf} {h i:Int} {t:aa}:(cw r h i t).length≤r.aI.length:=by
 unfold cw
 split
 ·refine Nat.le_trans (List.length_filter_le _ _) ?_
  rw [gn,List.length_map]
  exact uK
 ·simp
end
section
open Go.RowKit
/-- a row is taken that was made before; an operation -/
inductive fG where
 |take (i:Nat)
 |op (j:Nat)
def fG.ix:fG→Nat
 | .take i=>i
 | .op j=>j
def Cl (dO:Nat→Nat):List fG→List Nat
 |[]=>[]
 | .take i::s=>dO i::Cl dO s
 | .op _::s=>Cl dO s
theorem tv {dO:Nat→Nat} {i:Nat}: ∀ {s:List fG},fG.take i∈s→dO i∈Cl dO s
 | .take k::s,h=>by
  rcases List.mem_cons.1 h with e|h
  ·cases e; exact cm ..
  ·exact cS _ (tv h)
 | .op k::s,h=>by
  rcases List.mem_cons.1 h with e|h
  ·cases e
  ·exact tv (s:=s) h
def rB (m:Array Nat) (dO:Nat→Nat) (x y:fG):Bool:=x.ix != y.ix&&(match y with | .op j=>ir m x.ix j| .take i=>match x with | .take k=>dO k != dO i| .op _=>true)
def Ty (m:Array Nat) (dO:Nat→Nat):List fG→Bool
 |[]=>true
 |x::s=>s.all (rB m dO x)&&Ty m dO s
theorem F7 {m:Array Nat} {dO:Nat→Nat}: ∀ {s:List fG},Ty m dO s=true→s.Pairwise fun x y=>rB m dO x y=true
 |[],_=>List.Pairwise.nil
 |x::s,h=>by
  simp only [Ty,cR] at h
  exact List.Pairwise.cons (fun y hy=>List.all_eq_true.1 h.1 y hy) (F7 h.2)
/-- what is known of the slots B is known in L -/
def CJ (B L:List (Nat×Value)):Prop:= ∀ t v,B.lookup t=some v→L.lookup t=some v
theorem vO {B L:List (Nat×Value)} (h:B.map (fun p=>L.lookup p.1)=B.map (fun p=>some p.2)):CJ B L:=by
 induction B with
 |nil=>intro t v h; simp at h
 |cons p B ih=>
  obtain ⟨k,u⟩:=p
  simp only [List.map_cons,List.cons.injEq] at h
  intro t v hl
  by_cases e:t=k
  ·subst e
   simp only [List.lookup,beq_self_eq_true,Option.some.injEq] at hl
   rw [h.1,hl]
  ·have:(t==k)=false:=by simpa using e
   simp only [List.lookup,this] at hl
   exact ih h.2 t v hl
theorem nJ {L Y:List (Nat×Value)} {t:Nat}:(L++Y).lookup t=match L.lookup t with |some v=>some v|none=>Y.lookup t:=by
 induction L with
 |nil=>rfl
 |cons p L ih=>
  obtain ⟨k,u⟩:=p
  by_cases e:t==k
  ·simp [List.lookup,e]
  ·have:(t==k)=false:=by simpa using e
   simp only [List.cons_append,List.lookup,this,ih]
theorem CJ.app {B L Y:List (Nat×Value)} (h:CJ B L):CJ B (L++Y):=fun t v ht=>by rw [nJ,h t v ht]
theorem PD {B L:List (Nat×Value)} (h:CJ B L) {x:Operand} {v:Value} (hv:ev B x=some v):ev L x=some v:=by
 cases x<;>simp only [ev] at hv ⊢ <;>first|exact h _ _ hv|exact hv
theorem FJ {B L:List (Nat×Value)} (h:CJ B L): ∀ {xs:List Operand} {vs:List Value},evs B xs=some vs→evs L xs=some vs
 |[],vs,hv=>hv
 |x::xs,vs,hv=>by
  simp only [evs] at hv ⊢
  cases e1:ev B x with
  |none=>rw [e1] at hv; simp at hv
  |some v=>
   cases e2:evs B xs with
   |none=>rw [e1,e2] at hv; simp at hv
   |some us=>
    rw [e1,e2] at hv
    rw [PD h e1,FJ h e2]; exact hv
section
variable (E:ff) (ops:Array Oper) (D:List Deferred) (C':List av) (K0:Act→World→Prop) (B:List (Nat×Value)) (dO:Nat→Nat) (VO:Nat→Nat→Value) (AO:Nat→Nat→av)
def CH:List fG→List (Nat×Value)→List av→Prop
 |[],L,C=>KJ E K0 D L C
 | .take i::s,L,C=> ∀ b,CH s ((dO i,VO i b)::L) (AO i b::C)
 | .op j::s,L,C=> ∀ o,ops[j]? =some o→ ∀ (Y:List (Nat×Value)) (X:List av) (K:Act→World→Prop),(∀ L' C'',(∀ w,St E.S E.w0 C'' w→St E.S E.w0 C' w)→((Cl dO s).all fun d=>(L'.lookup d).isNone)=true→B.map (fun p=>L'.lookup p.1)=B.map (fun p=>some p.2)→CH s L' C''→KJ E K D (L'++Y) (C''++X))→RJ E ops (NQ K) [o] D (L++Y) (C++X)
/-- a row that is made at any time -/
def Tj (i:Nat):Prop:= ∀ o,ops[i]? =some o→ ∀ (L:List (Nat×Value)) (C:List av) (K:Act→World→Prop),CJ B L→(∀ b,KJ E K D ((dO i,VO i b)::L) (AO i b::C))→RJ E ops (NQ K) [o] D L C
end
section
variable {E:ff} {ops:Array Oper} {D:List Deferred} {C' C1:List av} {K0:Act→World→Prop} {B:List (Nat×Value)} {dO:Nat→Nat} {VO:Nat→Nat→Value} {AO:Nat→Nat→av}
theorem Fq {Q:cZ} {rest:List Oper} {L L2:List (Nat×Value)} {C C2:List av} (hL: ∀ a,Fr E.n D L a→Fr E.n D L2 a) (hC: ∀ w,St E.S E.w0 C w→St E.S E.w0 C2 w) (h:RJ E ops Q rest D L2 C2):RJ E ops Q rest D L C:=fun a w hf hs=>h a w (hL a hf) (hC w hs)
theorem AD {K:Act→World→Prop} {L L2:List (Nat×Value)} {C C2:List av} (hL: ∀ a,Fr E.n D L a→Fr E.n D L2 a) (hC: ∀ w,St E.S E.w0 C w→St E.S E.w0 C2 w) (h:KJ E K D L2 C2):KJ E K D L C:=fun a w hf hs=>h a w (hL a hf) (hC w hs)
theorem BC {n:Nat} {L L2:List (Nat×Value)} (h: ∀ t v,L2.lookup t=some v→L.lookup t=some v) (a:Act) (hf:Fr n D L a):Fr n D L2 a:=⟨hf.defers,hf.size,fun t v ht=>hf.at_ t v (h t v ht)⟩
theorem DN: ∀ (T0 s':List fG) (dn:List (Nat×Nat)) (L Y:List (Nat×Value)) (C:List av),(∀ x∈T0,∃ i b,x= .take i∧(i,b)∈dn)→(T0++s').Pairwise (fun x y=>rB (pV ops) dO x y=true)→(dn.map (·.1)).Nodup→(∀ p∈dn,fG.take p.1∈T0++s')→(∀ p∈dn,Y.lookup (dO p.1)=some (VO p.1 p.2))→(∀ i,fG.take i∈T0++s'→L.lookup (dO i)=none)→
 CH E ops D C' K0 B dO VO AO (T0++s') L C→ ∃ (dn':List (Nat×Nat)) (L':List (Nat×Value)) (C2:List av),CH E ops D C' K0 B dO VO AO s' L' C2∧(dn'.map (·.1)).Nodup∧(∀ p,p∈dn'↔p∈dn∧fG.take p.1∈s')∧(∀ t v,(L'++Y).lookup t=some v→(L++Y).lookup t=some v)∧(∀ i,fG.take i∈s'→L'.lookup (dO i)=none)∧(∀ w,St E.S E.w0 (C++dn.map fun p=>AO p.1 p.2) w→St E.S E.w0 (C2++dn'.map fun p=>AO p.1 p.2) w)
 |[],s',dn,L,Y,C,_,_,hn,hm,_,hl,h=>⟨dn,L,C,h,hn,fun p=>⟨fun q=>⟨q,hm p q⟩,fun q=>q.1⟩,fun t v q=>q,hl,fun w q=>q⟩
 |x::T0,s',dn,L,Y,C,ht,hp,hn,hm,hy,hl,h=>by
  obtain ⟨i,b,rfl,hb⟩:=ht x (cm ..)
  obtain ⟨J,P⟩:=List.pairwise_cons.1 hp
  have AB: ∀ y∈T0++s',i≠y.ix:=fun y hy e=>by
   have:=J y hy
   simp only [rB,cR,bne_iff_ne,fG.ix] at this
   exact this.1 e
  have N: ∀ k,fG.take k∈T0++s'→dO k≠dO i:=fun k hk e=>by
   have:=J _ hk
   simp only [rB,cR,bne_iff_ne] at this
   exact this.2 e.symm
  have K:dn.Perm ((i,b)::dn.erase (i,b)):=List.perm_cons_erase hb
  have H:((dn.erase (i,b)).map (·.1)).Nodup∧i ∉ (dn.erase (i,b)).map (·.1):=by
   have:=(K.map (·.1)).nodup_iff.1 hn
   exact ⟨(List.nodup_cons.1 this).2,(List.nodup_cons.1 this).1⟩
  have A: ∀ p∈dn.erase (i,b),p∈dn∧p.1≠i:=fun p hp=>⟨List.mem_of_mem_erase hp,fun e=>by have q:=List.mem_map_of_mem (f:=fun p:Nat×Nat=>p.1) hp; simp only [e] at q; exact H.2 q⟩
  have O:L.lookup (dO i)=none:=hl i (cm ..)
  obtain ⟨dn',L',C2,R,T,AA,V,W,X⟩:=DN T0 s' (dn.erase (i,b)) ((dO i,VO i b)::L) Y (AO i b::C) (fun x hx=>by
   obtain ⟨k,c,rfl,hk⟩:=ht x (cS _ hx)
   refine ⟨k,c,U,?_⟩
   have F:k≠i:=fun e=>AB _ (List.mem_append_left _ hx) e.symm
   exact (List.mem_erase_of_ne (fun e=>F (congrArg Prod.fst e))).2 hk) P H.1 (fun p hp=>by
   obtain ⟨M,G⟩:=A p hp
   rcases List.mem_cons.1 (hm p M) with e|e
   ·injection e with e; exact absurd e G
   ·exact e) (fun p hp=>hy p (A p hp).1) (fun k hk=>by
   have:(dO k==dO i)=false:=by simpa using N k hk
   simp only [List.lookup,this]
   exact hl k (cS _ hk)) (h b)
  refine ⟨dn',L',C2,R,T,fun p=>?_,fun t v hv=>?_,W,fun w hw=>X w ?_⟩
  ·rw [AA]
   constructor
   ·rintro ⟨M,G⟩; exact ⟨(A p M).1,G⟩
   ·rintro ⟨M,G⟩
    have F:p.1≠i:=fun e=>AB _ (List.mem_append_right _ G) e.symm
    exact ⟨(List.mem_erase_of_ne (fun e=>F (congrArg Prod.fst e))).2 M,G⟩
  ·have:=V t v hv
   rw [nJ] at this ⊢
   by_cases e:t=dO i
   ·subst e
    simp only [List.lookup,beq_self_eq_true] at this
    rw [O]; simp only
    rw [hy _ hb]; exact this
   ·have Q:(t==dO i)=false:=by simpa using e
    simp only [List.lookup,Q] at this
    exact this
  ·refine hw.perm ?_
   show (C++dn.map fun p=>AO p.1 p.2).Perm (AO i b::(C++(dn.erase (i,b)).map fun p=>AO p.1 p.2))
   refine ((K.map fun p:Nat×Nat=>AO p.1 p.2).append_left C).trans ?_
   exact List.perm_middle
theorem Bd: ∀ (s:List fG) (j:Nat),fG.op j∈s→ ∃ T0 k s',s=T0++fG.op k::s'∧ ∀ x∈T0,∃ i,x=fG.take i
 | .take i::s,j,h=>by
  rcases List.mem_cons.1 h with e|h
  ·cases e
  ·obtain ⟨T0,k,s',rfl,A⟩:=Bd s j h
   exact ⟨.take i::T0,k,s',U,fun x hx=>by
    rcases List.mem_cons.1 hx with rfl|hx
    ·exact ⟨i,U⟩
    ·exact A x hx⟩
 | .op k::s,j,_=>⟨[],k,s,rfl,fun x hx=>by cases hx⟩
def kD (s:List fG) (dn:List (Nat×Nat)):List Nat:=(s.map fG.ix).filter fun i=> !(dn.map (·.1)).contains i
theorem qO {s:List fG} {dn:List (Nat×Nat)} {i:Nat}:i∈kD s dn↔(∃ x∈s,x.ix=i)∧ ∀ p∈dn,p.1≠i:=by
 unfold kD
 rw [List.mem_filter,tx]
 refine and_congr Iff.rfl ?_
 rw [Bool.not_eq_true',← Bool.not_eq_true,List.contains_iff_mem,tx]
 constructor
 ·intro h p hp e; exact h ⟨p,hp,e⟩
 ·rintro h ⟨p,hp,e⟩; exact h p hp e
theorem qo (hal: ∀ i,Tj E ops D B dO VO AO i∨True): ∀ (n:Nat) (s:List fG) (dn:List (Nat×Nat)) (L Y:List (Nat×Value)) (C:List av),(∀ i,fG.take i∈s→Tj E ops D B dO VO AO i)→s.Pairwise (fun x y=>rB (pV ops) dO x y=true)→(kD s dn).length=n→(dn.map (·.1)).Nodup→(∀ p∈dn,fG.take p.1∈s)→(∀ p∈dn,Y.lookup (dO p.1)=some (VO p.1 p.2))→(∀ i,fG.take i∈s→L.lookup (dO i)=none)→CJ B L→
 (∀ w,St E.S E.w0 C w→St E.S E.w0 C' w)→CH E ops D C' K0 B dO VO AO s L C→TN E ops D C' C1 (fun L C=>KJ E K0 D L C) [] n (kD s dn) (L++Y) (C++dn.map fun p=>AO p.1 p.2)
 |0,s,dn,L,Y,C,_,hp,hlen,hn,hm,hy,hl,hB,hC,h=>by
  have hr:kD s dn=[]:=jB hlen
  have Q: ∀ x∈s,∃ i b,x=fG.take i∧(i,b)∈dn:=fun x hx=>by
   have hx':x.ix ∉ kD s dn:=by rw [hr]; exact List.not_mem_nil
   rw [qO] at hx'
   have: ∃ p∈dn,p.1=x.ix:=by
    apply Classical.byContradiction
    intro q
    exact hx' ⟨⟨x,hx,U⟩,fun p hp e=>q ⟨p,hp,e⟩⟩
   obtain ⟨p,T,AG⟩:=this
   have ht:=hm p T
   rcases List.mem_iff_getElem.1 hx with ⟨a,ha,ea⟩
   rcases List.mem_iff_getElem.1 ht with ⟨c,hc,ec⟩
   have d:a=c:=by
    rcases Nat.lt_trichotomy a c with q|q|q
    ·have:=List.pairwise_iff_getElem.1 hp a c ha hc q
     simp only [rB,cR,bne_iff_ne,ea,ec] at this
     exact absurd AG.symm this.1
    ·exact q
    ·have:=List.pairwise_iff_getElem.1 hp c a hc ha q
     simp only [rB,cR,bne_iff_ne,ea,ec] at this
     exact absurd AG this.1
   subst d
   exact ⟨p.1,p.2,by rw [← ea,ec],T⟩
  obtain ⟨dn',L',C2,V,J,O,W,h5,X⟩:=DN s [] dn L Y C Q (by simpa using hp) hn (by simpa using hm) hy (by simpa using hl) (by simpa using h)
  show KJ E K0 D _ _
  have hd:dn'=[]:=List.eq_nil_iff_forall_not_mem.2 fun p hp=>by have:=((O p).1 hp).2; cases this
  subst hd
  refine AD (L2:=L') (C2:=C2) (fun a hf=>BC (fun t v ht=>W t v (by rw [nJ,ht])) a hf) (fun w hw=>by have:=X w hw; simpa using this) V
 |n+1,s,dn,L,Y,C,hal',hp,hlen,hn,hm,hy,hl,hB,hC,h=>by
  intro i hi o ho K hK
  obtain ⟨G,m⟩:=List.mem_filter.1 hi
  obtain ⟨⟨x,hx,rfl⟩,H⟩:=qO.1 G
  have A: ∀ k∈kD s dn,ir (pV ops) k x.ix=false:=fun k hk=>by
   have:=List.all_eq_true.1 m k hk
   simpa using this
  cases x with
  |take i=>
   simp only [fG.ix] at H A ho hK G ⊢
   refine hal' i hx o ho _ _ K hB.app fun b=>?_
   have l:=hl i hx
   have AH:(kD s dn).filter (· != i)=kD s ((i,b)::dn):=by
    unfold kD
    rw [List.filter_filter]
    apply List.filter_congr
    intro k _
    simp only [List.map_cons,List.contains_cons,Bool.not_or]
    rfl
   have N:(kD s dn).Nodup:=by
    unfold kD
    refine List.Nodup.sublist List.filter_sublist<|List.pairwise_map.2 (hp.imp fun {a c} q=>?_)
    simp only [rB,cR,bne_iff_ne] at q
    exact q.1
   have M: ∀ k,fG.take k∈s→k≠i→dO k≠dO i:=fun k hk AA e=>by
    rcases List.mem_iff_getElem.1 hx with ⟨a,ha,ea⟩
    rcases List.mem_iff_getElem.1 hk with ⟨c,hc,ec⟩
    rcases Nat.lt_trichotomy a c with q|q|q
    ·have:=List.pairwise_iff_getElem.1 hp a c ha hc q
     simp only [rB,cR,bne_iff_ne,ea,ec] at this
     exact this.2 e.symm
    ·subst q; rw [ea] at ec; cases ec; exact AA rfl
    ·have:=List.pairwise_iff_getElem.1 hp c a hc ha q
     simp only [rB,cR,bne_iff_ne,ea,ec] at this
     exact this.2 e
   refine AD (L2:=L++((dO i,VO i b)::Y)) (C2:=C++((i,b)::dn).map fun p=>AO p.1 p.2) (fun a hf=>BC (fun t v ht=>?_) a hf) (fun w hw=>hw.perm (List.perm_middle).symm) (hK _ _ (fun w hw=>hC w (hw.take (List.sublist_append_left _ _))) (fun q=>by cases q) ?_)
   ·rw [nJ] at ht
    by_cases e:t=dO i
    ·subst e
     rw [l] at ht
     simp only [List.lookup,beq_self_eq_true] at ht ⊢
     exact ht
    ·have e2:(t==dO i)=false:=by simpa using e
     simp only [List.lookup,e2] at ht ⊢
     rw [nJ]; exact ht
   ·rw [AH]
    refine qo hal n s ((i,b)::dn) L ((dO i,VO i b)::Y) C hal' hp ?_ (List.nodup_cons.2 ⟨fun q=>?_,hn⟩) (fun p hp'=>?_) (fun p hp'=>?_) hl hB hC h
    ·rw [← AH,← List.Nodup.erase_eq_filter N,List.length_erase_of_mem G,hlen]; rfl
    ·obtain ⟨p,hp',e⟩:=List.mem_map.1 q
     exact H p hp' e
    ·rcases List.mem_cons.1 hp' with rfl|hp'
     ·exact hx
     ·exact hm p hp'
    ·rcases List.mem_cons.1 hp' with rfl|hp'
     ·simp [List.lookup]
     ·have:(dO p.1==dO i)=false:=by simpa using M p.1 (hm p hp') (H p hp')
      simp only [List.lookup,this]
      exact hy p hp'
  |op j=>
   simp only [fG.ix] at H A ho hK G ⊢
   obtain ⟨T0,k,s',rfl,hT⟩:=Bd s j hx
   obtain ⟨q1,q2,q3⟩:=List.pairwise_append.1 hp
   obtain ⟨q4,q5⟩:=List.pairwise_cons.1 q2
   have R: ∀ k',fG.op k'∈T0++fG.op k::s'→k'∈kD (T0++fG.op k::s') dn:=fun k' hk'=>by
    refine qO.2 ⟨⟨_,hk',U⟩,fun p hp' e=>?_⟩
    have ht:=hm p hp'
    rcases List.mem_iff_getElem.1 hk' with ⟨a,ha,ea⟩
    rcases List.mem_iff_getElem.1 ht with ⟨c,hc,ec⟩
    rcases Nat.lt_trichotomy a c with q|q|q
    ·have:=List.pairwise_iff_getElem.1 hp a c ha hc q
     simp only [rB,cR,bne_iff_ne,ea,ec,fG.ix] at this
     exact this.1 e.symm
    ·subst q; rw [ea] at ec; cases ec
    ·have:=List.pairwise_iff_getElem.1 hp c a hc ha q
     simp only [rB,cR,bne_iff_ne,ea,ec,fG.ix] at this
     exact this.1 e
   have AB:k=j:=by
    apply Classical.byContradiction
    intro AC
    have hj':fG.op j∈s':=by
     rcases List.mem_append.1 hx with q|q
     ·obtain ⟨i,e⟩:=hT _ q; cases e
     ·rcases List.mem_cons.1 q with e|q
      ·injection e with e; exact absurd e.symm AC
      ·exact q
    have:=q4 _ hj'
    simp only [rB,cR,fG.ix] at this
    have J:=A k (R k sm)
    rw [this.2] at J; cases J
   subst AB
   have F: ∀ x∈T0,∃ i b,x=fG.take i∧(i,b)∈dn:=fun x hx'=>by
    obtain ⟨i,rfl⟩:=hT x hx'
    apply Classical.byContradiction
    intro q
    have r:i∈kD (T0++fG.op k::s') dn:=qO.2 ⟨⟨_,List.mem_append_left _ hx',rfl⟩,fun p hp' e=>q ⟨i,p.2,rfl,by rw [← e]; exact hp'⟩⟩
    have:=q3 _ hx' _ (cm ..)
    simp only [rB,cR,fG.ix] at this
    have J:=A i r
    rw [this.2] at J; cases J
   obtain ⟨dn',L',C2,V,J,O,W,h5,X⟩:=DN T0 (fG.op k::s') dn L Y C F hp hn hm hy hl h
   refine Fq (fun a hf=>BC W a hf) X (V o ho Y (dn'.map fun p=>AO p.1 p.2) K fun L3 C3 P AE Z g=>?_)
   have AH:(kD (T0++fG.op k::s') dn).filter (· != k)=kD s' dn':=by
    unfold kD
    rw [List.map_append,List.filter_append,List.map_cons,List.filter_append]
    have e1:(List.map fG.ix T0).filter (fun i=> !(dn.map (·.1)).contains i)=[]:=by
     apply List.filter_eq_nil_iff.2
     intro z hz
     obtain ⟨x,hx',rfl⟩:=List.mem_map.1 hz
     obtain ⟨i,b,rfl,hb⟩:=F x hx'
     simp only [fG.ix,Bool.not_eq_true',Bool.not_eq_false,List.contains_iff_mem]
     exact List.mem_map_of_mem (f:=(·.1)) hb
    rw [e1]
    simp only [List.filter_nil,List.nil_append]
    have u:k ∉ dn.map (·.1):=fun q=>by
     obtain ⟨p,hp',e⟩:=List.mem_map.1 q
     exact H p hp' e
    rw [List.filter_cons_of_pos (by simpa [fG.ix] using u),List.filter_cons_of_neg (by simp [fG.ix]),List.filter_filter]
    apply List.filter_congr
    intro z hz
    obtain ⟨y,hy',rfl⟩:=List.mem_map.1 hz
    have AF:y.ix≠k:=fun e=>by
     have:=q4 y hy'
     simp only [rB,cR,bne_iff_ne,fG.ix] at this
     exact this.1 e.symm
    rw [Bool.eq_iff_iff]
    simp only [cR,bne_iff_ne,Bool.not_eq_true',← Bool.not_eq_true,List.contains_iff_mem]
    constructor
    ·rintro ⟨_,hq⟩ hc
     obtain ⟨p,hp',e⟩:=List.mem_map.1 hc
     exact hq (by rw [← e]; exact List.mem_map_of_mem (f:=(·.1)) ((O p).1 hp').1)
    ·intro hq
     refine ⟨AF,fun hc=>?_⟩
     obtain ⟨p,hp',e⟩:=List.mem_map.1 hc
     apply hq
     rw [← e]
     refine List.mem_map_of_mem (f:=(·.1)) ((O p).2 ⟨hp',?_⟩)
     have ht:=hm p hp'
     rcases List.mem_append.1 ht with ht|ht
     ·exfalso
      have:=q3 _ ht _ (cS _ hy')
      simp only [rB,cR,bne_iff_ne,fG.ix] at this
      exact this.1 e
     ·exact ht
   have N:(kD (T0++fG.op k::s') dn).Nodup:=by
    unfold kD
    refine List.Nodup.sublist List.filter_sublist<|List.pairwise_map.2 (hp.imp fun {a c} q=>?_)
    simp only [rB,cR,bne_iff_ne] at q
    exact q.1
   refine hK _ _ (fun w hw=>P w (hw.take (List.sublist_append_left _ _))) (fun q=>by cases q) ?_
   rw [AH]
   have hdn': ∀ p∈dn',fG.take p.1∈s':=fun p hp'=>by
    rcases List.mem_cons.1 ((O p).1 hp').2 with e|e
    ·cases e
    ·exact e
   refine qo hal n s' dn' L3 Y C3 (fun i hi=>hal' i (by simp [hi])) q5 ?_ J hdn' (fun p hp'=>hy p ((O p).1 hp').1) (fun i hi=>?_) (vO Z) P g
   ·rw [← AH,← List.Nodup.erase_eq_filter N,List.length_erase_of_mem G,hlen]; rfl
   ·have:=List.all_eq_true.1 AE _ (tv hi)
    simpa using this
/-- the rows, at any time; the others, one after the other -/
theorem Oc {tb rem:List Nat} {L:List (Nat×Value)} {C:List av} (s:List fG) (B:List (Nat×Value)) (dO:Nat→Nat) (VO:Nat→Nat→Value) (AO:Nat→Nat→av) {n:Nat} (htb:tb=[]) (hr:s.map fG.ix=rem) (hn:rem.length=n) (hp:Ty (pV ops) dO s=true) (hl:((Cl dO s).all fun d=>(L.lookup d).isNone)=true) (hB:B.map (fun p=>L.lookup p.1)=B.map (fun p=>some p.2)) (hC: ∀ w,St E.S E.w0 C w→St E.S E.w0 C' w)
 (hal: ∀ i,fG.take i∈s→Tj E ops D B dO VO AO i) (h:CH E ops D C' K0 B dO VO AO s L C):TN E ops D C' C1 (fun L C=>KJ E K0 D L C) tb n rem L C:=by
 subst htb hr
 have e:kD s []=s.map fG.ix:=by unfold kD; simp
 have:=qo (C1:=C1) (fun i=> .inr trivial) n s [] L [] C hal (F7 hp) (by rw [e]; exact hn) List.nodup_nil (fun p hp=>by cases hp) (fun p hp=>by cases hp) (fun i hi=>by
  have:=List.all_eq_true.1 hl _ (tv hi)
  simpa using this) (vO hB) hC h
 simpa [e] using this
theorem PR {p:Nat→Prop}: ∀ i,fG.take i∈([]:List fG)→p i:=fun i h=>by cases h
theorem wg {p:Nat→Prop} {j:Nat} {s:List fG} (h: ∀ i,fG.take i∈s→p i): ∀ i,fG.take i∈fG.op j::s→p i:=fun i hi=>by
 rcases List.mem_cons.1 hi with e|hi
 ·cases e
 ·exact h i hi
theorem vQ {p:Nat→Prop} {j:Nat} {s:List fG} (hj:p j) (h: ∀ i,fG.take i∈s→p i): ∀ i,fG.take i∈fG.take j::s→p i:=fun i hi=>by
 rcases List.mem_cons.1 hi with e|hi
 ·cases e; exact hj
 ·exact h i hi
end
section
variable {E:ff} {ops:Array Oper} {D:List Deferred} {B:List (Nat×Value)} {dO:Nat→Nat} {VO:Nat→Nat→Value} {AO:Nat→Nat→av}
variable {d:Nat} {ty:TypeId} {ps:String} {af:Array Edge}
theorem IP {i t e sz:Nat} (ho:ops[i]? =some ⟨some d,.buildSlice t 0 #[],ty,ps,af,none⟩) (ht:tE E.P t=some (e,sz)) (hd:Nat.blt d E.n=true) (h1:dO i=d) (h2: ∀ b,VO i b= .slice (some ⟨b,0,none⟩) 0 0) (h3: ∀ b,AO i b=bZ b e []):Tj E ops D B dO VO AO i:=fun o ho' L C K hB hk=>by
 rw [ho] at ho'; cases ho'
 exact s9 U ht hd fun b=>aH (by have:=hk b; rw [h1,h2,h3] at this; exact this)
theorem OC {i t e sz n:Nat} {xs:List Operand} {vs:List Value} {cs zs:List Value} (ho:ops[i]? =some ⟨some d,.buildSlice t n ((xs.zipIdx.map fun p=>(p.2,p.1)).toArray),ty,ps,af,none⟩) (ht:tE E.P t=some (e,sz)) (hz:tZ E.P e=some zs) (hx:evs B xs=some vs) (hn:xs.length=n) (hp:Nat.blt 0 (n*sz)=true) (hb:Nat.ble (n*sz) 16777216=true) (hv: ∀ v∈vs,v.cells.size=sz)
 (hc:(vs.map (·.cells.toList)).flatten=cs) (hd:Nat.blt d E.n=true) (h1:dO i=d) (h2: ∀ b,VO i b= .slice (some ⟨b,0,none⟩) n n) (h3: ∀ b,AO i b=bZ b e cs):Tj E ops D B dO VO AO i:=fun o ho' L C K hB hk=>by
 rw [ho] at ho'; cases ho'
 exact cU U ht hz (FJ hB hx) hn hp hb hv hc hd fun b=>aH (by have:=hk b; rw [h1,h2,h3] at this; exact this)
end
section
variable {E:ff} {ops:Array Oper} {D:List Deferred} {C':List av} {K0:Act→World→Prop} {B:List (Nat×Value)} {dO:Nat→Nat} {VO:Nat→Nat→Value} {AO:Nat→Nat→av}
theorem x8 {j:Nat} {s:List fG} {L:List (Nat×Value)} {C:List av} {o:Oper} (ho:ops[j]? =some o)
 (h: ∀ (Y:List (Nat×Value)) (X:List av) (K:Act→World→Prop),(∀ L' C'',(∀ w,St E.S E.w0 C'' w→St E.S E.w0 C' w)→((Cl dO s).all fun d=>(L'.lookup d).isNone)=true→B.map (fun p=>L'.lookup p.1)=B.map (fun p=>some p.2)→CH E ops D C' K0 B dO VO AO s L' C''→KJ E K D (L'++Y) (C''++X))→RJ E ops (NQ K) [o] D (L++Y) (C++X)):CH E ops D C' K0 B dO VO AO (.op j::s) L C:=fun o' ho'=>by
 rw [ho] at ho'; cases ho'
 exact h
theorem rX {s:List fG} {L Y:List (Nat×Value)} {C X:List av} {K:Act→World→Prop} (hT: ∀ L' C'',(∀ w,St E.S E.w0 C'' w→St E.S E.w0 C' w)→((Cl dO s).all fun d=>(L'.lookup d).isNone)=true→B.map (fun p=>L'.lookup p.1)=B.map (fun p=>some p.2)→CH E ops D C' K0 B dO VO AO s L' C''→KJ E K D (L'++Y) (C''++X)) (nL nC:Nat)
 (hL:L.take nL++Y=L) (hC:C.take nC++X=C) (h1: ∀ w,St E.S E.w0 (C.take nC) w→St E.S E.w0 C' w) (h2:((Cl dO s).all fun d=>((L.take nL).lookup d).isNone)=true) (h3:B.map (fun p=>(L.take nL).lookup p.1)=B.map (fun p=>some p.2)) (h:CH E ops D C' K0 B dO VO AO s (L.take nL) (C.take nC)):RJ E ops (NQ K) [] D L C:=by
 have:=hT _ _ h1 h2 h3 h
 rw [hL,hC] at this
 exact aH this
theorem SV {c:Code} {Q:cZ} {L L':List (Nat×Value)} {C:List av} (h:L'.map (fun p=>L.lookup p.1)=L'.map (fun p=>some p.2)) (k:WJ E c Q D L' C):WJ E c Q D L C:=fun a w hf hs=>k a w (BC (vO h) a hf) hs
theorem wD: ∀ {C:List av} {i:Nat} {A:av},C[i]? =some A→C.Perm (A::C.eraseIdx i)
 |[],i,A,h=>by simp at h
 |x::C,0,A,h=>by
  simp at h; subst h
  exact List.Perm.refl _
 |x::C,i+1,A,h=>((wD (C:=C) (i:=i) (by simpa using h)).cons x).trans (List.Perm.swap _ _ _)
theorem St.front {S:BS} {w0 w:World} {C:List av} {A:av} (i:Nat) (hi:C[i]? =some A) (h:St S w0 C w):St S w0 (A::C.eraseIdx i) w:=h.perm (wD hi)
theorem Fa {K:Act→World→Prop} {L:List (Nat×Value)} {C:List av} {A:av} (i:Nat) (hi:C[i]? =some A) (h:KJ E K D L (A::C.eraseIdx i)):KJ E K D L C:=fun a w hf hs=>h a w hf (hs.front i hi)
theorem qM {Q:cZ} {rest:List Oper} {L:List (Nat×Value)} {C:List av} {A:av} (i:Nat) (hi:C[i]? =some A) (h:RJ E ops Q rest D L (A::C.eraseIdx i)):RJ E ops Q rest D L C:=fun a w hf hs=>h a w hf (hs.front i hi)
end
end
section
open Go.RowKit
section
variable {E:ff} {ops:Array Oper} {D:List Deferred} {C' C1:List av} {tb:List Nat}
theorem wi {V:Type} {F:List (Nat×Value)→List av→Prop} (P:V→Prop) (fL:V→List (Nat×Value)) (fC:V→List av) (n:Nat) (rest:List Nat) {m:Nat} {rem:List Nat} {L:List (Nat×Value)} {C:List av} (h1:(∀ v,P v→TN E ops D C' C1 F tb n rest (fL v) (fC v))→TN E ops D C' C1 F tb m rem L C) (h2: ∀ v,P v→TN E ops D C' C1 F tb n rest (fL v) (fC v)):TN E ops D C' C1 F tb m rem L C:=h1 h2
theorem PE {K0:Act→World→Prop} {n:Nat} {rem:List Nat} {L L2:List (Nat×Value)} {C C2:List av} (hL: ∀ a,Fr E.n D L a→Fr E.n D L2 a) (hC: ∀ w,St E.S E.w0 C w→St E.S E.w0 C2 w) (h:TN E ops D C' C1 (fun L C=>KJ E K0 D L C) tb n rem L2 C2):TN E ops D C' C1 (fun L C=>KJ E K0 D L C) tb n rem L C:=by
 cases n with
 |zero=>exact AD hL hC h
 |succ n=>exact fun i hi o ho K hK=>Fq hL hC (h i hi o ho K hK)
theorem j2 {V:Type} {P:V→Prop} {fL:V→List (Nat×Value)} {fC:V→List av} {K0:Act→World→Prop} {n:Nat} {rem:List Nat} {L:List (Nat×Value)} {C:List av} (hJ: ∀ v,P v→TN E ops D C' C1 (fun L C=>KJ E K0 D L C) tb n rem (fL v) (fC v)) (v:V) (hp:P v) (ix:List Nat) (hL:(fL v).map (fun p=>L.lookup p.1)=(fL v).map (fun p=>some p.2)) (hn:decide ix.Nodup=true) (hC:o2 C ix=some (fC v)):TN E ops D C' C1 (fun L C=>KJ E K0 D L C) tb n rem L C:=
 PE (fun a hf=>BC (vO hL) a hf) (fun w hs=>St.kj _ hn (jF hC) hs) (hJ v hp)
end
end
section
open Go.RowKit
theorem Qy (h i:Int) (r:cf) (kA:OA) (kC:Nat) (az:List RA) (cA:OA) (cC:Nat) (bA:OA) (bC:Nat) (slA:OA) (slC:Nat) (drA:OA) (drC:Nat) (ha:List cQ) (heA:OA) (heC:Nat) (hin:fg r az ha):
 ej Tryz.prog 8 [(vA (bq.cells (ot r kA kC cA cC bA bC slA slC drA drC heA heC))),(vI h),(vI i)] [(rd dG 3 2 dh),(rd kA r.ah.aJ.length 9 (r.ah.aJ.map ao.cells)),(rd cA r.ah.ai.length 2 (List.zipWith au.cells r.ah.ai az)),(e7 (aU au.gY r.ah.ai az)),(rd bA r.ah.ag.length 4 (r.ah.ag.map bE.cells)),(rd slA r.aI.length 1 (r.aI.map iC)),(rd drA r.bD.length 1 (r.bD.map iC)),(rd heA r.aq.length 1 (List.zipWith cz r.aq ha)),(e7 (aU hU r.aq ha))] (vT [(vA (aa.cells (eJ r h i))),(vI (gM r h i))]):=by
 have AB:=hin.line
 have AK:=hin.iM
 have AM:=hin.has
 have AH:=hin.iN
 have AF:=hin.draw
 have F:=dH (r:=r)
 refine bI kr Tryz.func8 U U fun w0 Q hQ hN=>?_
 try dsimp only
 refine WS fun _ u=>fV U fun b2=>AL U dg fun b3=>bg 1 U<|RK u<|WS fun _ X=>rP 1 [] (mc 1 U I) ?_
 refine cX (oa r kA kC az cA cC bA bC slA slC drA drC ha heA heC hin) (bp [2,3,4,5,6,7,8,9,10]) U fun y5 c=>?_
 obtain ⟨f,AJ,o,m,g,j,z3⟩:=y5
 cases f
 ·obtain ⟨Y,he⟩:=c.2 rfl
  try dsimp only at Y he
  subst Y
  try dsimp only [cond_true,cond_false,List.cons_append,List.nil_append]
  refine bg 5 U<|RK X<|al fun _ AE=>aw<|WS fun _ N=>rP 3 [] I ?_
  refine RK N<|bR U (bw fun M=>?_) (bx fun M=>?_)
  ·exact absurd M he
  refine WS fun _ O=>rS (SX (bj (xs:=[]) (cs:=(aa.cells (aa.mk 0 0))) U U (bh gl U)) U U)<|bg 1 U<|fR U cu U<|rP 1 [] I ?_
  refine RK O<|ar<|lk hQ [0] (mc 0 U I) U ?_
  first|(have e:=oK (h:=h) (i:=i) he; have B:eJ r h i=dD:=if_neg (fun q=>by rw [e] at q; exact he q); rw [e,B]; rfl)|(have e:=oJ (h:=h) (i:=i) he om; have B:eJ r h i=dD:=if_neg (fun q=>by rw [e] at q; cases q); rw [e,B]; rfl)|(have e:=nB he om A hd C; have B:eJ r h i=dD:=if_neg (fun q=>by rw [e] at q; cases q); rw [e,B]; rfl)|(have e:=qk he om A hd C; rw [e.1,e.2,H]; done)
 obtain ⟨he,J⟩:=c.1 rfl
 try dsimp only [cond_true,cond_false,List.cons_append,List.nil_append]
 try dsimp only at J
 have a:=(iG he).2
 refine bg 5 U<|RK X<|al fun _ P=>aw<|WS fun _ R=>bg 1 U<|rS (SX (b_ (r:= .bool false) U U U ng) U U)<|bg 1 U<|RK R<|aV U<|WS fun _ K=>rP 5 [] (mc 5 U I) ?_
 refine cU (xs:=[.tmp 25]) (cs:=[(vI h)]) U cy jd U U U U (by simp [Value.cells]) U U fun k=>?_
 refine rS (CL (ej.eq (j6 0 ((r.aq.length:Int)-1) ([h]) (some ⟨k,0,none⟩) 1 sd) cT) (ay (aY 0 U U (by simp [bJ]) U)<|aL) U) ?_
 refine rP 2 [] I ?_
 refine db (t:=29) U (bx fun s=>?_) (bw fun s=>?_)
 ·refine bg 7 U<|RK K<|aP U<|WS fun _ S=>rS (SX (bj (xs:=[]) (cs:=(aa.cells (aa.mk 0 0))) U U (bh gl U)) U U)<|HZ U cu U<|rP 1 [] I ?_
  refine RK S<|ar<|lk hQ [0] (mc 5 U I) U ?_
  first|(have e:=oK (h:=h) (i:=i) he; have B:eJ r h i=dD:=if_neg (fun q=>by rw [e] at q; exact he q); rw [e,B]; rfl)|(have e:=oJ (h:=h) (i:=i) he om; have B:eJ r h i=dD:=if_neg (fun q=>by rw [e] at q; cases q); rw [e,B]; rfl)|(have e:=nB he om A hd C; have B:eJ r h i=dD:=if_neg (fun q=>by rw [e] at q; cases q); rw [e,B]; rfl)|(have e:=qk he om A hd C; rw [e.1,e.2,H]; done)
 refine rP 2 [] I ?_
 refine cU (xs:=[.tmp 31]) (cs:=[(vI i)]) U cy jd U U U U (by simp [Value.cells]) U U fun l=>?_
 refine rS (CL (ej.eq (zU r kA kC az cA cC bA bC slA slC drA drC ha heA heC z3 g j (Value.map (some m)) o ([i]) (some ⟨l,0,none⟩) 1 hin sd) cT) (lR [9,10,11,12,13,14,15,16]<|ay (ak (n:=(cP r).length) 3 U (mO (by rw [F]; exact J)))<|ay (dW 4 U sT)<|fH 2 U U<|ay (aY 0 U U (by simp [bJ]) U)<|aL) U) ?_
 refine rP 3 [] I ?_
 refine RK K<|cM U (bx fun p=>?_) (bw fun p=>?_)
 ·refine WS fun _ T=>rS (SX (bj (xs:=[]) (cs:=(aa.cells (aa.mk 0 0))) U U (bh gl U)) U U)<|OM U cu U<|rP 1 [] I ?_
  refine RK T<|ar<|lk hQ [0] (mc 6 U I) U ?_
  first|(have e:=oK (h:=h) (i:=i) he; have B:eJ r h i=dD:=if_neg (fun q=>by rw [e] at q; exact he q); rw [e,B]; rfl)|(have e:=oJ (h:=h) (i:=i) he om; have B:eJ r h i=dD:=if_neg (fun q=>by rw [e] at q; cases q); rw [e,B]; rfl)|(have e:=nB he om A hd C; have B:eJ r h i=dD:=if_neg (fun q=>by rw [e] at q; cases q); rw [e,B]; rfl)|(have e:=qk he om A hd C; rw [e.1,e.2,H]; done)
 refine WS fun _ AD=>rP 3 [] (mc 7 U I) ?_
 obtain ⟨ht,A⟩:=aO r.aq ((h).toNat) om
 obtain ⟨D,E⟩:=aO ha ((h).toNat) om
 have Z:(List.zipWith cz r.aq ha)[(h).toNat]? =some (cz ht D):=dZ A E
 refine rS (IA ((h).toNat) U (aG 15 U) rm dc om om) ?_
 have z:=hin.oI _ _ _ A E
 have AG:=z.og
 have AA:=(a.oI ht (aX A)).1
 refine rS (gF ((h).toNat) 0 (vS D.1.1 ht.length D.1.2) U cq (aG 15 U) Z U dc U)<|rP 1 [] I ?_
 obtain ⟨d,hd⟩:=aO ht ((i).toNat) om
 obtain ⟨da,v⟩:=aO D.2 ((i).toNat) om
 have y:(List.zipWith aA.cells ht D.2)[(i).toNat]? =some (aA.cells d da):=dZ hd v
 refine rS (IA ((i).toNat) U (show jc _ (rd D.1.1 ht.length 7 (List.zipWith aA.cells ht D.2)).holds from (dy 16 U (cj A E cm))) wT dc om om)<|rS (nK (((i).toNat)*7) U (show jc _ (rd D.1.1 ht.length 7 (List.zipWith aA.cells ht D.2)).holds from (dy 16 U (cj A E cm))) (Nat.mul_pos om dc) fD U)<|rS (gF ((i).toNat) 0 (vB d.Out) U cq (show jc _ (rd D.1.1 ht.length 7 (List.zipWith aA.cells ht D.2)).holds from (dy 16 U (cj A E cm))) y U dc U)<|rP 1 [] I ?_
 refine RK AD<|cM U (fun C=>?_) (fun C=>?_)
 ·refine WS fun _ V=>rS (SX (bj (xs:=[]) (cs:=(aa.cells (aa.mk 0 0))) U U (bh gl U)) U U)<|OM U cu U<|rP 1 [] I ?_
  refine RK V<|ar<|lk hQ [0] (mc 6 U I) U ?_
  first|(have e:=oK (h:=h) (i:=i) he; have B:eJ r h i=dD:=if_neg (fun q=>by rw [e] at q; exact he q); rw [e,B]; rfl)|(have e:=oJ (h:=h) (i:=i) he om; have B:eJ r h i=dD:=if_neg (fun q=>by rw [e] at q; cases q); rw [e,B]; rfl)|(have e:=nB he om A hd C; have B:eJ r h i=dD:=if_neg (fun q=>by rw [e] at q; cases q); rw [e,B]; rfl)|(have e:=qk he om A hd C; rw [e.1,e.2,H]; done)
 refine bY<|aD<|KK P<|WS fun _ W=>bg 1 U<|rS (SX (bQ U U) U U)<|rP 3 [] (mc 2 U I) ?_
 obtain ⟨tr,AN⟩:=aO (cP r) ((h).toNat) om
 obtain ⟨tra,G⟩:=aO z3 ((h).toNat) om
 have b:(List.zipWith Ei (cP r) z3)[(h).toNat]? =some (Ei tr tra):=dZ AN G
 refine rS (IA ((h).toNat) U (ak (n:=(cP r).length) 3 U (mO (by rw [F]; exact J))) Mi dc om om) ?_
 have L:=yT A AN
 have AI:tr.length=r.aI.length:=by rw [L,List.length_map]; exact AA
 refine rS (gF ((h).toNat) 0 (vS tra.1 tr.length tra.2) U cq (ak (n:=(cP r).length) 3 U (mO (by rw [F]; exact J))) b U dc U) ?_
 refine rP 1 [] I ?_
 obtain ⟨x,hx⟩:=aO tr ((i).toNat) om
 have AC:=bP aa.cells hx
 refine rS (IA ((i).toNat) U (show jc _ (rd tra.1 tr.length 2 (tr.map aa.cells)).holds from (fun w hw=>(dW 4 U sT) w hw _ (cj AN G (by simp [L9])))) jK dc om om) ?_
 have H:=Js L hx hd
 refine rS (oB ((i).toNat) 0 (aa.cells x) U cq (show jc _ (rd tra.1 tr.length 2 (tr.map aa.cells)).holds from (fun w hw=>(dW 4 U sT) w hw _ (cj AN G (by simp [L9])))) AC U dc U U)<|OM U cu U<|rP 1 [] I ?_
 refine RK W<|ar<|lk hQ [0] (mc 6 U I) U ?_
 first|(have e:=oK (h:=h) (i:=i) he; have B:eJ r h i=dD:=if_neg (fun q=>by rw [e] at q; exact he q); rw [e,B]; rfl)|(have e:=oJ (h:=h) (i:=i) he om; have B:eJ r h i=dD:=if_neg (fun q=>by rw [e] at q; cases q); rw [e,B]; rfl)|(have e:=nB he om A hd C; have B:eJ r h i=dD:=if_neg (fun q=>by rw [e] at q; cases q); rw [e,B]; rfl)|(have e:=qk he om A hd C; rw [e.1,e.2,H]; done)
end
section
open Go.RowKit
theorem oM (n lo hi:Int):
 ej Tryz.prog 106 [(vI n),(vI lo),(vI hi)] [] (vB (decide (lo≤n∧n≤hi))):=by
 refine bI kr Tryz.func106 U U fun D Q hQ hN=>?_
 try dsimp only
 refine WS fun _ B=>bg 1 U<|RK B<|WS fun _ A=>rP 4 [] I ?_
 refine db (t:=10) U (aS fun C=>?_) (aR fun C=>?_)
 ·refine rP 5 [] I ?_
  refine RK A<|ar<|Q1 hQ U U U ?_
  exact cB (decide_eq_decide.2 om)
 refine rP 5 [] I ?_
 refine RK A<|ar<|Q1 hQ U U U ?_
 exact cB (cr om).symm
theorem Fj (r:cE) (sgA:OA) (sgC:Nat):
 ej Tryz.prog 136 [(vA (eK.cells (mB r sgA sgC)))] [(rd sgA r.aj.length 2 (r.aj.map aN.cells))] (vB (decide (l6 r))):=by
 refine bI kr Tryz.func136 U U fun F Q hQ hN=>?_
 try dsimp only
 refine WS fun _ B=>fV U fun E=>bg 1 U<|RK B<|WS fun _ A=>rP 4 [] (mc 0 U I) ?_
 refine cb (t:=6) U (aR fun C=>?_) (aS fun C=>?_)
 ·refine rP 11 [] I ?_
  refine RK A<|ar<|Q1 hQ U U U ?_
  simp only [l6]
  exact cB (cr om).symm
 refine rP 5 [] (mc 0 U I) ?_
 refine cb (t:=11) U (aR fun D=>?_) (aS fun D=>?_)
 ·refine rP 6 [] I ?_
  refine RK A<|ar<|Q1 hQ U U U ?_
  simp only [l6]
  exact cB (cr om).symm
 refine rP 6 [] (mc 0 U I) ?_
 refine RK A<|ar<|Q1 hQ U U U ?_
 simp only [l6]
 exact cB (decide_eq_decide.2 om)
theorem Ni (s:aa):
 ej Tryz.prog 137 [(vA (aa.cells s))] [] (vB (decide (iJ s))):=by
 refine bI kr Tryz.func137 U U fun F Q hQ hN=>?_
 try dsimp only
 refine WS fun _ B=>fV U fun E=>bg 1 U<|RK B<|WS fun _ A=>rP 4 [] (mc 0 U I) ?_
 refine cb (t:=6) U (aR fun C=>?_) (aS fun C=>?_)
 ·refine rP 12 [] I ?_
  refine RK A<|ar<|Q1 hQ U U U ?_
  simp only [iJ]
  exact cB (cr om).symm
 refine rP 7 [] (mc 0 U I) ?_
 refine cb (t:=13) U (aR fun D=>?_) (aS fun D=>?_)
 ·refine rP 5 [] I ?_
  refine RK A<|ar<|Q1 hQ U U U ?_
  simp only [iJ]
  exact cB (cr om).symm
 refine rP 5 [] (mc 0 U I) ?_
 refine RK A<|ar<|Q1 hQ U U U ?_
 simp only [iJ]
 exact cB (decide_eq_decide.2 om)
theorem n8 (la:List Int) (laA:OA) (laC:Nat) (lb:List Int) (lbA:OA) (lbC:Nat) (h1:la.length≤1000000) (h2:lb.length≤1000000):
 ej Tryz.prog 18 [(vS laA la.length laC),(vS lbA lb.length lbC)] [(rd laA la.length 1 (la.map iC)),(rd lbA lb.length 1 (lb.map iC))] (vB (decide (la=lb))):=by
 refine bI kr Tryz.func18 U U fun V Q hQ hN=>?_
 try dsimp only
 refine WS fun _ J=>bg 1 U<|RK J<|al fun _ K=>WS fun _ L=>rP 5 [] I ?_
 refine RK L<|cM U (bx fun hl=>?_) (bw fun hl=>?_)
 ·refine WS fun _ M=>rP 1 [] I ?_
  refine RK M<|ar<|Q1 hQ U U U ?_
  exact cB (cr (fun e=>by subst e; omega)).symm
 refine WK K<|al fun _ N=>WS fun _ O=>rP 1 [] I ?_
 refine RK O<|aw ?_
 have A:(0≤la.length)∧(la.take 0=lb.take 0):=by simp
 refine bO (ι:={z:Nat // (z≤la.length)∧(la.take z=lb.take z)}) [0,1] [0,1] U U (fun z=>[(5,(vI (z.1:Int)))]) (fun z=>[]) (fun _=>rfl) (fun _=>rfl) (fun z=>la.length-z.1) ⟨0,A⟩ (aQ U) (aK [0,1]) ?_
 clear A
 rintro ⟨i,⟨S,B⟩⟩ J7 AB
 try dsimp only
 refine al fun _ P=>WS fun _ R=>rP 4 [] I ?_
 refine RK R<|bR U (aR fun H=>?_) (aS fun H=>?_)
 ·refine bB<|ae<|ae<|ax<|KK N<|WS fun _ F=>rP 1 [] I ?_
  refine RK F<|ar<|Q1 hQ U U U ?_
  exact cB (fO (nG om B om)).symm
 refine WK P<|al fun _ C=>aw<|al fun _ D=>dF cD 9 kr<|dP 2 [] I ?_
 obtain ⟨x,hx⟩:=aO la i om
 have T:=bP iC hx
 refine dS (IA i U (aG 0 U) cy dc om om)<|dS (gF i 0 (vI x) U cq (aG 0 U) T U dc U)<|dP 2 [] I ?_
 obtain ⟨y,hy⟩:=aO lb i om
 have AA:=bP iC hy
 refine dS (IA i U (aG 1 U) cy dc om om)<|dS (gF i 0 (vI y) U cq (aG 1 U) AA U dc U)<|dP 1 [] I ?_
 refine cO<|RK D<|cM U (bx fun h=>?_) (bw fun h=>?_)
 ·refine WS fun _ E=>rP 1 [] I ?_
  refine RK E<|ar<|Q1 hQ U U U ?_
  exact cB (cr (nA hx hy h)).symm
 refine bY<|aD<|KK C<|an<|rP 3 [] I ?_
 refine aH ?_
 have G:(vI (((i+1):Nat):Int))=(vI ((i:Int)+1)):=by exact cI om
 refine aT (AB ⟨(i+1),⟨om,ue B hx hy h⟩⟩ _ _ _ U os (dx.cons U<|dx.cons U<|bk U G<|dx.nil _) (aK [0,1]))
end
section
open Go.RowKit
theorem LI (m:gp) (gm g1:Nat):
 Ej Tryz.prog 64 [] [(vP g1)] [(gZ iV gm (bM df m)),(bZ g1 58 [(Value.map (some gm))])] ([]:List Int) (fun ys x ys'=> ∃ n zs,(ys++[n]++zs).Perm (m.map (·.1))∧x=[vI n]∧ys'=ys++[n]) (fun ys=>ys.Perm (m.map (·.1))):=by
 refine sX kr Tryz.func64 U U fun l J Z A0 S Q hY M L hQ hN=>?_
 try dsimp only
 refine WS fun _ O=>rP 1 [] (mr 2 U I) ?_
 refine iI (kV:=iV) (m:=bM df m) 1 U U lF U ⟨U,fun h=>h⟩ (by exact jG 1 U) U fun V=>?_
 try dsimp only
 refine RK O<|aw ?_
 have G:(oj m m ([]:List Int))∧(∀ p∈m,p∈m)∧(J ([]:List Int) A0)∧(Fo A0 S A0):=by exact ⟨uY,fun p hp=>hp,M,L⟩
 refine bO (ι:={z:gp×(List Int)×av // (oj m z.1 z.2.1)∧(∀ p∈z.1,p∈m)∧(J z.2.1 z.2.2)∧(Fo A0 S z.2.2)}) [0,1,5] [2,3] U U (fun z=>[]) (fun z=>[(yd iV V gm (bM df m) (bM df z.1.1) none),z.1.2.2]) (fun _=>rfl) (fun _=>rfl) (fun z=>z.1.1.length) ⟨(m,([]:List Int),A0),G⟩ (dx.nil _) (aK [2,3,0,1]) ?_
 clear G
 rintro ⟨⟨left,ys,A⟩,⟨B,H,C,D⟩⟩ J3 N
 try dsimp only at B H C D
 try dsimp only
 refine WS fun _ AB=>g8 (dB od).inj (f:=df) 2 U U U U (fun T=>?_) (fun x y hm hn=>?_)
 ·refine rP 1 [] I ?_
  refine RK AB<|al fun _ AA=>aV U<|bB<|ae<|ae<|ax ?_
  refine hN _ _ _ (gW (vs:=[]) trivial fun w hs=>KS 3 U (by rw [T] at B; exact wq B) C D hs)
 try dsimp only
 refine bg 1 U<|RK AB<|al fun _ P=>aP U<|WK P<|aw<|WS fun _ R=>rS (SX (g7 2 U U U) U U)<|bg 2 U<|RK R<|WS fun _ K=>rP 2 [] I ?_
 refine kB (k:=ys) (k':=(ys++[(x)])) 3 (by first|exact hsz|exact Nat.le_refl _) hY C D U U U (by exact ⟨x,_,nT hn hm B,U,U⟩) U U (fun B9 F E=>?_) (fun B9 F E=>?_)
 rotate_left 1
 ·refine rP 1 [] I ?_
  refine RK K<|aP U<|ar ?_
  refine hQ _ _ _ (gW (vs:=[]) trivial fun w hs=>rI 3 U F E hs)
 refine rP 1 [] I ?_
 refine RK K<|aV U<|bY<|aD<|fm 2 U dA U ?_
 refine aT (N ⟨((cd left x),(ys++[(x)]),B9),⟨nT hn hm B,dC H,F,E⟩⟩ _ _ _ U (cW hm) (aQ U) (aK [0,1,2,3]))
theorem FZ (gm:Nat):
 lv Tryz.prog 42 [(Value.map (some gm))] [] (fun (x:Nat)=>(Value.func (.func 64) [].toArray [(vP x)].toArray)) (fun (x:Nat)=>True) (fun (x:Nat)=>[(bZ x 58 [(Value.map (some gm))])]):=by
 refine dp kr Tryz.func42 U U fun D Q hQ hN=>?_
 try dsimp only
 refine WS fun _ A=>uy U U fun C=>bg 1 U<|RK A<|WS fun _ B=>rS (FU U)<|rP 1 [] I ?_
 refine RK B<|ar<|LX hQ C [0] [] I U U U U ?_
 trivial
end
section
open Go.RowKit
theorem Hk (m:gp) (gm g1:Nat) (hlen:m.length≤12):
 lv Tryz.prog 85 [(vS none 0 0),(Value.func (.func 64) [].toArray [(vP g1)].toArray)] [(gZ iV gm (bM df m)),(bZ g1 58 [(Value.map (some gm))])] (fun (x:(List Int)×(OA)×Nat)=>(vS x.2.1 x.1.length x.2.2)) (fun (x:(List Int)×(OA)×Nat)=>x.1.Perm (m.map (·.1))) (fun (x:(List Int)×(OA)×Nat)=>[(own x.2.1 x.2.2 3 1 (x.1.map iC))]):=by
 refine dp kr Tryz.func85 U U fun X Q hQ hN=>?_
 try dsimp only
 refine WS fun _ AB=>uy U U fun N=>bg 1 U<|RK AB<|al fun _ J=>WS fun _ K=>rP 1 [] I ?_
 refine RK K<|aw<|ky 1 U (by exact fun _ h=>h)<|ky 3 U (by exact fun _ h=>h)<|fX 3 1 ?_
 refine nz (L0:=[(2,(vP N))]) (F:=[(gZ iV gm (bM df m)).ro,(bZ g1 58 [(Value.map (some gm))]).ro]) (fun k (y:(OA)×Nat)=>(∃ zs,(k++zs).Perm (m.map (·.1)))) (fun k y=>[(own y.1 y.2 3 1 (k.map iC)),(bZ N 29 [(vS y.1 k.length y.2)]),(gZ iV gm (bM df m)).ro]) (fun _ (_:Unit)=>False) (fun _ _=>[]) [0,3,4] [2,1] (none,0) rfl rfl (LI m gm g1) rfl rfl rfl (by exact ⟨_,List.Perm.refl _⟩) (by simp only [List.forall_mem_cons,List.not_mem_nil,false_imp_iff,implies_true,and_true]; exact ⟨⟨_,sm,(dI (bU _))⟩,⟨_,sm,(dI (bU _))⟩⟩) (by rintro k x AA ⟨n,zs,_,rfl,_⟩; rfl) rfl (aQ rfl) ?_ ?_ (fun _ _ _ h=>h.elim) (fun _ _ h=>h.elim)
 rotate_left 1
 ·rintro V k ⟨a,c⟩ E A
  have B:=A
  try dsimp only at B
  try dsimp only
  refine aD<|KK J<|WS fun _ C=>rP 2 [] (mc 4 U I) ?_
  refine RK C<|ar<|hQ _ _ _ (ou 0 U U<|gW (vs:=[(vS a k.length c)]) ⟨U,trivial⟩ fun w hs=>I9 (k,a,c) [3] ?_ ?_ U U U hs)
  ·rfl
  ·first|exact E|exact hys
 rintro k x AA ⟨a,c⟩ l ra rb S Y K5 Qr6 T hx G L D O P
 obtain ⟨n,zs,hn,rfl,rfl⟩:=hx; have M:=hn.length_eq; simp only [List.length_append,List.length_map,List.length_singleton] at M
 have B:=G
 try dsimp only at B
 try dsimp only
 refine an<|rP 1 [] I ?_
 refine aH<|aT (L _ _ ?_)
 refine aw<|an<|rP 2 [] (mc 2 U I) ?_
 refine cU (xs:=[.tmp 9]) (cs:=[(vI n)]) U cy jd U U U U (by simp [Value.cells]) U U fun W=>?_
 refine c_ (es2:=(List.map iC (k++[n]))) (m':=(k++[n]).length) 2 U U U pE U U sm (aY (es:=List.map iC [n]) 0 U U (by simp [bJ]) U) (jT _) os (by simp only [maxLen]; omega) sm sm U fun R H=>?_
 try dsimp only
 refine UI U z7 U U<|aH<|aD ?_
 exact D (R,H) _ _ (by exact ⟨_,hn⟩) (aK [1,2,3,4])
end
section
open Go.RowKit
theorem Dn (m:gp) (gm g1:Nat) (hlen:m.length≤12):
 lv Tryz.prog 63 [(Value.func (.func 64) [].toArray [(vP g1)].toArray)] [(gZ iV gm (bM df m)),(bZ g1 58 [(Value.map (some gm))])] (fun (x:(List Int)×(OA)×Nat)=>(vS x.2.1 x.1.length x.2.2)) (fun (x:(List Int)×(OA)×Nat)=>x.1.Perm (m.map (·.1))) (fun (x:(List Int)×(OA)×Nat)=>[(own x.2.1 x.2.2 3 1 (x.1.map iC))]):=by
 refine dp kr Tryz.func63 U U fun AA Q hQ hN=>?_
 try dsimp only
 refine WS fun _ A=>bg 1 U<|RK A<|WS fun _ B=>rP 1 [] I ?_
 refine cX (Hk m gm g1 hlen) (bp [0,1]) U fun H C=>?_
 obtain ⟨E,F,G⟩:=H
 try dsimp only
 have D:=C
 refine rP 1 [] I ?_
 refine RK B<|ar<|LX hQ (E,F,G) [0] [] I U U U U ?_
 first|exact hfin|exact D
theorem yQ (m:gp) (gm g1:Nat) (hlen:m.length≤12):
 lv Tryz.prog 41 [(Value.func (.func 64) [].toArray [(vP g1)].toArray)] [(gZ iV gm (bM df m)),(bZ g1 58 [(Value.map (some gm))])] (fun (x:(OA)×Nat)=>(vS x.1 m.length x.2)) (fun (x:(OA)×Nat)=>True) (fun (x:(OA)×Nat)=>[(own x.1 x.2 3 1 ((dk (m.map (·.1))).map iC))]):=by
 refine dp kr Tryz.func41 U U fun M Q hQ hN=>?_
 try dsimp only
 refine WS fun _ E=>bg 1 U<|RK E<|WS fun _ F=>rP 1 [] I ?_
 refine cX (Dn m gm g1 hlen) (bp [0,1]) U fun L H=>?_
 obtain ⟨AA,J,K⟩:=L
 try dsimp only
 have D:=H
 refine bg 1 U<|RK F<|WS fun _ G=>rP 1 [] I ?_
 have B:=D.length_eq
 simp only [List.length_map] at B
 refine iQ 0 U U U U (zX AA J K sd) U ki U (fun ms C=>?_)
 try dsimp only
 refine RK G<|WS fun _ A=>?_
 obtain rfl:=qy (C.1.trans D) C.2
 skip
 refine rP 2 [] I ?_
 refine RK A<|ar ?_
 refine LX hQ (J,K) [0] [] I U U U ?_ ?_
 ·first|rfl|(rw [B]; rfl)
 ·trivial
end
end Go.Proofs.YtdllkkdchkhimaaGreatDoor
