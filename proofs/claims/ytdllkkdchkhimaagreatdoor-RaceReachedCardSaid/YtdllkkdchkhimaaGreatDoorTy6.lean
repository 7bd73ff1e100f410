/-
 The statement raceReached_said, part 6 of 8: V4, V3, V5, V6, V8, Wh2, Rc2, Rc3, Rc4, Rs3, Rs4, Rs6, Rs7, Rs8, RkB, RaB, RtB, Rp0, Rp1, Rp2, Rt1, DrawB, Rep6, Async, NJoin, Rt3, Rr1, RkS, RaS, RtS.
 Conditions: none.
-/
import Derived.Test.YtdllkkdchkhimaaGreatDoorTy1
import Derived.Test.YtdllkkdchkhimaaGreatDoorTy2
import Derived.Test.YtdllkkdchkhimaaGreatDoorTy3
import Derived.Test.YtdllkkdchkhimaaGreatDoorTy4
import Derived.Test.YtdllkkdchkhimaaGreatDoorTy5
namespace Go.Proofs.YtdllkkdchkhimaaGreatDoor
set_option maxRecDepth 100000
set_option maxHeartbeats 4000000
set_option linter.unusedVariables false
section
open Go.RowKit
theorem HF (ln:bK) (ri:eL) (e:List Int) (tms:List TM) (e_A:OA) (e_C:Nat) (tb:List Nat) (t_A:OA) (t_C:Nat) (fs:List FM) (bs:List FM) (fb:List Nat) (f_A:OA) (f_C:Nat) (bb:List Nat) (b_A:OA) (b_C gw:Nat) (b g1 g2:Nat) (mf:FM) (mb:FM) (hb:b<e.length) (hw:G7 (cK ln ri e tms)) (htb:tb.length=tms.length) (hfw:wL (cK ln ri e tms) fs) (hfb:fb.length=fs.length) (hbw:uv (cK ln ri e tms) bs) (hbb:bb.length=bs.length) (hsg:ri.aj.n≤1000) (hm1:fs[b]? =some mf) (hm2:bs[b+1]? =some mb):
 Ez Tryz.prog 203 [] [(vP g1),(vP g2)] [(rd e_A e.length 1 (e.map iC)),(rd t_A tms.length 1 (List.zipWith gJ tms tb)),(e7 (aU rl tms tb)),(rd f_A fs.length 1 (List.zipWith gJ fs fb)),(e7 (aU nK fs fb)),(rd b_A bs.length 1 (List.zipWith gJ bs bb)),(e7 (aU nK bs bb)),(bZ gw 270 (ck.cells (ck.mk ln ri (aM.mk e_A e.length e_C) (aM.mk t_A tms.length t_C) (aM.mk f_A fs.length f_C) (aM.mk b_A bs.length b_C)))),(bZ g1 259 [(vP gw)]),(bZ g2 3 [(vI (b:Int))])] ([]:List (Int×aa)) (fun ys x ys'=> ∃ q,q∈pQ (cK ln ri e tms) b mf mb∧x=OC q∧ys'=ys++[q]) (fun ys=> ∀ q∈pQ (cK ln ri e tms) b mf mb,q∈ys):=by
 have A7:e.length≤6:=hw.n
 have A8:tms.length=e.length:=hw.times
 have Az:fs.length=e.length+1:=hfw.len
 have Ay:bs.length=e.length+1:=hbw.len
 refine tD kr Tryz.func203 U U fun l J Z A0 w0 Q hY Ae Ad hQ hN=>?_
 try dsimp only
 refine WS fun _ Af=>uj U U fun b2=>RK Af<|WS fun _ Ag=>rP 2 [0,1] (mr 10 U (mr 11 U I)) ?_
 refine cX (uu gw b) (aL) U fun y4 A9=>?_
 obtain ⟨AX,AY⟩:=y4
 try dsimp only
 refine RK Ag<|aw<|kB 4 U (by exact fun _ h=>h)<|kB 6 U (by exact fun _ h=>h)<|kB 8 U (by exact fun _ h=>h)<|kB 14 U (by exact fun _ h=>h) ?_
 refine nz (L0:=[(0,(Value.func (.yield l) #[] #[])),(1,(vP g1)),(2,(vP g2)),(3,(vP b2))]) (F:=[(rd e_A e.length 1 (e.map iC)).ro,(rd t_A tms.length 1 (List.zipWith gJ tms tb)).ro,(e7 (aU rl tms tb)).ro,(bZ gw 270 (ck.cells (ck.mk ln ri (aM.mk e_A e.length e_C) (aM.mk t_A tms.length t_C) (aM.mk f_A fs.length f_C) (aM.mk b_A bs.length b_C)))).ro,(bZ AX 259 [(vP gw)]),(bZ AY 3 [(vI (b:Int))])]) (fun k (y:(List (Int×aa))×av)=>(lv (cK ln ri e tms) b mf mb k y.1)∧(J y.1 y.2)∧(Fo A0 w0 y.2)) (fun k y=>[(bZ b2 273 [(Value.func (.yield l) #[] #[])]),y.2,(rd e_A e.length 1 (e.map iC)).ro,(rd t_A tms.length 1 (List.zipWith gJ tms tb)).ro,(e7 (aU rl tms tb)).ro,(rd f_A fs.length 1 (List.zipWith gJ fs fb)).ro,(e7 (aU nK fs fb)).ro,(rd b_A bs.length 1 (List.zipWith gJ bs bb)).ro,(e7 (aU nK bs bb)).ro,(bZ gw 270 (ck.cells (ck.mk ln ri (aM.mk e_A e.length e_C) (aM.mk t_A tms.length t_C) (aM.mk f_A fs.length f_C) (aM.mk b_A bs.length b_C)))).ro,(bZ g1 259 [(vP gw)]).ro,(bZ g2 3 [(vI (b:Int))]).ro]) (fun c (z:av)=>(c= .ret∧(Z z)∧(Fo A0 w0 z))) (fun _ z=>[(bZ b2 273 [(Value.func (.yield l) #[] #[])]),z,(rd e_A e.length 1 (e.map iC)).ro,(rd t_A tms.length 1 (List.zipWith gJ tms tb)).ro,(e7 (aU rl tms tb)).ro,(rd f_A fs.length 1 (List.zipWith gJ fs fb)).ro,(e7 (aU nK fs fb)).ro,(rd b_A bs.length 1 (List.zipWith gJ bs bb)).ro,(e7 (aU nK bs bb)).ro,(bZ gw 270 (ck.cells (ck.mk ln ri (aM.mk e_A e.length e_C) (aM.mk t_A tms.length t_C) (aM.mk f_A fs.length f_C) (aM.mk b_A bs.length b_C)))).ro,(bZ g1 259 [(vP gw)]).ro,(bZ g2 3 [(vI (b:Int))]).ro]) [6,7,8,9,10,11,12,13,14,15,16,17] [3,2,1,0,4,5] (([]:List (Int×aa)),A0) rfl rfl (sf ln ri e tms e_A e_C tb t_A t_C f_A fs.length f_C b_A bs.length b_C gw b AX AY om om) rfl rfl rfl (by exact ⟨lv.nil,Ae,Ad⟩) (by simp only [List.forall_mem_cons,List.not_mem_nil,false_imp_iff,implies_true,and_true]; exact ⟨⟨_,aX (i:=0) rfl,(dI (bT _))⟩,⟨_,aX (i:=1) rfl,(dI (bT _))⟩,⟨_,aX (i:=2) rfl,(dI (bT _))⟩,⟨_,aX (i:=3) rfl,(dI (bT _))⟩,⟨_,aX (i:=4) rfl,(bT _)⟩,⟨_,aX (i:=5) rfl,(bT _)⟩⟩) (by rintro k x k2 ⟨o,_,rfl,_⟩; rfl) rfl (aQ rfl) ?_ ?_ ?_ ?_
 rotate_left 1
 ·rintro BA k ⟨ys,A⟩ AS AC
  obtain ⟨X,Y,a⟩:=AC
  try dsimp only at X Y a
  try dsimp only
  refine aD ?_
  refine hN _ _ _ (ox 0 U U<|gY (vs:=[]) trivial fun w hs=>LK 8 U (by exact lv.fin X AS) Y a hs)
 ·rintro BB id A AV
  simp at AV
 ·rintro BC A AW
  obtain ⟨hc,Ak,Al⟩:=AW
  try dsimp only
  refine hQ _ _ _ (ox 0 U U<|gY (vs:=[]) trivial fun w hs=>rv 8 U Ak Al hs)
 rintro k x k2 ⟨ys,A⟩ lr ra rb S w1 K8 Qr9 Am hx AB Ah AP At AZ
 obtain ⟨o,ho,rfl,rfl⟩:=hx
 obtain ⟨X,Y,a⟩:=AB
 try dsimp only at X Y a
 try dsimp only
 refine WS fun _ AG=>rP 1 [] I ?_
 refine RK AG<|an<|AL U dh fun Au=>fQ U cu U<|aH<|jg (fun _ _ h=>h) (aK [1,0,2,3,4,5,6,7,8,9,10,11,12,13])<|aR (Ah _ _ ?_)
 refine aw<|al fun _ AH=>dG cD 7 kr<|mI 1 [] (mr 12 U I) U<|dS (SX (bQ U U) U U)<|dP 3 [0,1] (mr 11 U (mr 13 U I)) ?_
 obtain ⟨ga,s⟩:=aN fb b om
 have AT:(List.zipWith gJ fs fb)[b]? =some (gJ mf ga):=dZ hm1 s
 refine dS (IA b U (aF 7 U) nU dc om om)<|dS (gF b 0 (Value.map (some ga)) U cq (aF 7 U) AT U dc U)<|cO<|iG (kV:=eo) (m:=bM iV mf) 8 U U oV U ⟨⟨(gZ eo ga (bM iV mf)),(cj hm1 s (by simp [nK])),U⟩,fun h=>h⟩ (show jc _ (gZ eo ga (bM iV mf)).holds from dy 8 U (cj hm1 s (by simp [nK]))) U fun Ap=>?_
 try dsimp only
 refine RK AH<|aw ?_
 have C:(∀ p∈mf,p∈mf)∧(m0 (cK ln ri e tms) b mf mb o mf ys)∧(lv (cK ln ri e tms) b mf mb k ys)∧(J ys A)∧(Fo A0 w0 A):=by exact ⟨fun p hp=>hp,m0.start,X,Y,a⟩
 refine bO (ι:={z:FM×(List (Int×aa))×av // (∀ p∈z.1,p∈mf)∧(m0 (cK ln ri e tms) b mf mb o z.1 z.2.1)∧(lv (cK ln ri e tms) b mf mb k z.2.1)∧(J z.2.1 z.2.2)∧(Fo A0 w0 z.2.2)}) [0,1,2,3,4,5,23] [1,2,3,5,6,7,8,9,10,11,12,13,14] U U (fun z=>[]) (fun z=>[(yd eo Ap ga (bM iV mf) (bM iV z.1.1) none),z.1.2.2]) (fun _=>rfl) (fun _=>rfl) (fun z=>z.1.1.length) ⟨(mf,ys,A),C⟩ (dx.nil _) (aK [1,2,3,5,6,7,8,9,10,11,12,13,14,0,4]) ?_
 clear C
 rintro ⟨⟨left,ys,A⟩,⟨K,M,N,O,P⟩⟩ J15 AF
 try dsimp only at K M N O P
 try dsimp only
 refine WS fun _ j=>g7 oT.inj (f:=iV) 13 U U U U (fun Ab=>?_) (fun t v hm hn=>?_)
 ·refine rP 1 [] I ?_
  refine RK j<|al fun _ Ar=>aV U<|bB<|ae<|ae<|ax<|aD ?_
  exact AP (ys,A) _ _ (by exact ⟨lv.next N M Ab,O,P⟩) (aK [0,2,14,3,4,5,6,7,8,9,10,11,12])
 try dsimp only
 refine bg 1 U<|RK j<|al fun _ AI=>aP U<|WK AI<|aw<|WS fun _ AJ=>rS (SX (g8 13 U U U) U U)<|bg 2 U<|AL U tp fun Av=>fQ U rD U<|bg 1 U<|RK AJ<|al fun _ AK=>dG cD 8 kr<|mI 1 [] (mr 12 U I) U<|dS (SX (bQ U U) U U)<|dP 4 [0,1] (mr 11 U (mr 13 U I)) ?_
 obtain ⟨gb,AA⟩:=aN bb (b+1) om
 have AU:(List.zipWith gJ bs bb)[(b+1)]? =some (gJ mb gb):=dZ hm2 AA
 refine dS (IA (b+1) U (aF 9 U) nU dc om om)<|dS (gF (b+1) 0 (Value.map (some gb)) U cq (aF 9 U) AU U dc U)<|cO<|iG (kV:=eo) (m:=bM iV mb) 10 U U oV U ⟨⟨(gZ eo gb (bM iV mb)),(cj hm2 AA (by simp [nK])),U⟩,fun h=>h⟩ (show jc _ (gZ eo gb (bM iV mb)).holds from dy 10 U (cj hm2 AA (by simp [nK]))) U fun Aq=>?_
 try dsimp only
 refine RK AK<|aw ?_
 have C:(∀ p∈mb,p∈mb)∧(nx (cK ln ri e tms) b mb o (t,v) mb ys)∧(m0 (cK ln ri e tms) b mf mb o left ys)∧(lv (cK ln ri e tms) b mf mb k ys)∧(J ys A)∧(Fo A0 w0 A):=by exact ⟨fun p hp=>hp,nx.start,M,N,O,P⟩
 refine bO (ι:={z:FM×(List (Int×aa))×av // (∀ p∈z.1,p∈mb)∧(nx (cK ln ri e tms) b mb o (t,v) z.1 z.2.1)∧(m0 (cK ln ri e tms) b mf mb o left z.2.1)∧(lv (cK ln ri e tms) b mf mb k z.2.1)∧(J z.2.1 z.2.2)∧(Fo A0 w0 z.2.2)}) [0,1,2,3,4,5,6,7,23,37] [1,2,3,4,5,6,7,8,9,10,11,12,13,14,15] U U (fun z=>[]) (fun z=>[(yd eo Aq gb (bM iV mb) (bM iV z.1.1) none),z.1.2.2]) (fun _=>rfl) (fun _=>rfl) (fun z=>z.1.1.length) ⟨(mb,ys,A),C⟩ (dx.nil _) (aK [1,2,3,4,5,6,7,8,9,10,11,12,13,14,15,0,16]) ?_
 clear C
 rintro ⟨⟨l2,T,A2⟩,⟨B,D,E,G,H,Aa⟩⟩ J23 V
 try dsimp only at B D E G H Aa
 try dsimp only
 refine WS fun _ r=>g7 oT.inj (f:=iV) 15 U U U U (fun Ac=>?_) (fun u z L AD=>?_)
 ·refine rP 1 [] I ?_
  refine RK r<|al fun _ As=>aV U<|bB<|ae<|ae<|ax<|aD<|fj 14 U dA U ?_
  refine aR (AF ⟨((cf left t),T,A2),⟨l9 K,m0.next hn hm E D Ac,G,H,Aa⟩⟩ _ _ _ U (cW hm) (aQ U) (aK [1,2,3,4,5,6,7,8,9,10,11,12,13,14,16]))
 try dsimp only
 refine bg 1 U<|RK r<|al fun _ AM=>aP U<|WK AM<|aw<|WS fun _ AN=>rS (SX (g8 15 U U U) U U)<|bg 2 U<|AL U tp fun Aw=>fQ U rD U<|rP 1 [] I ?_
 refine RK AN<|al fun _ AO=>dR cD [17,18] [] [] [0,1,2,3,4,5,6,7,8,9,10,11,12,13,14,15,16,17] [] U U U U U<|eS U (MV U)<|eS U (Tw 13 U cq U)<|eS U (SX (bQ U U) U U)<|eS U (FA 10 U fD U)<|eS U (HZ (vS e_A e.length e_C) 12 U cq U U)<|eS U (Tw 14 U cq U) ?_
 obtain ⟨y,hy⟩:=aN e b om
 have An:=bP iC hy
 refine eS U (IA b U (aF 5 U) cy dc om om)<|eS U (gF b 0 (vI y) U cq (aF 5 U) An U dc U) ?_
 have A1:=hw.least y (aX hy)
 have Aj:=KN hw _ _ (hfw.mem hm1 (K _ hm))
 have Ai:=JI hw (hbw.mem hm2 (B _ L))
 have A3:=uD o.1
 have A4:=hw.opt ho
 dsimp only at Aj Ai
 refine eS U (BI U (ia ⟨om,om⟩))<|eS U (FA 0 U fD U)<|eS U (L1 (vI o.2.Lo) 3 U cq U U)<|eS U (MX U)<|eS U (MV U)<|eS U (FA 1 U fD U)<|eS U (L1 (vI o.2.Hi) 3 U cq U U)<|eS U (MN U)<|eS U (SX (bj (xs:=[(0,.tmp 54),(1,.tmp 58)]) (cs:=(aa.cells (aa.mk (max (v+y) o.2.Lo) (min z o.2.Hi)))) U U (bh gu U)) U U)<|e8 U<|cp U fun T30 AQ=>AL U dh fun Ax=>aH (AQ _ _ (aK [1,2,3,4,5,6,7,8,9,10,11,12,13,14,15,16,17,18]) ?_)
 refine cp U fun T32 AR=>fQ U cu U<|aH (AR _ _ (aK [1,2,3,4,5,6,7,8,9,10,11,12,13,14,15,16,17,18]) ?_)
 refine fO U<|KK AO<|al fun _ R=>dG cD 19 kr<|dP 6 [] (mc 0 U I) ?_
 refine jo (t:=65) U (aS fun d=>?_) (aT fun d=>?_)
 ·refine lB 3 U<|lB 10 U<|cO<|rP 3 [] I ?_
  refine RK R<|aV U<|bY<|aD<|fj 17 U dA U ?_
  refine aR (V ⟨((cf l2 u),T,A2),⟨l9 B,nx.skip AD L D (by exact GA hy d),E,G,H,Aa⟩⟩ _ _ _ U (cW L) (aQ U) (aK [2,3,4,5,6,7,8,9,10,11,12,13,14,15,16,17,18]))
 refine dP 3 [0,1,2] (mr 14 U (mc 2 U (mc 1 U I))) ?_
 have A6:(0≤(dq t u).right∧(dq t u).right≤1000)∧0≤(dq t u).eQ∧(dq t u).eQ≤1000:=by simp only [dq]; omega
 have A5:(0≤(dq (dq t u) (fq o.1)).right∧(dq (dq t u) (fq o.1)).right≤1000)∧0≤(dq (dq t u) (fq o.1)).eQ∧(dq (dq t u) (fq o.1)).eQ≤1000:=by simp only [dq]; omega
 refine dS (CL (vQ t u om om) (aL) U)<|lB 1 U<|dS (CL (Ke o.1) (aL) U)<|dS (CL (vQ (dq t u) (fq o.1) asm om) (aL) U)<|dS (CL (OE ln ri e tms e_A e_C tb t_A t_C fs bs fb f_A f_C bb b_A b_C gw (dq (dq t u) (fq o.1)) asm hsg) (bp [6,7,8,9,10,11,12,13]) U)<|dP 2 [] I ?_
 refine jo (t:=75) U (fun g=>?_) (fun g=>?_)
 ·refine lB 3 U<|cO<|rP 3 [] I ?_
  refine RK R<|aV U<|bY<|aD<|fj 17 U dA U ?_
  refine aR (V ⟨((cf l2 u),T,A2),⟨l9 B,nx.skip AD L D (by exact Gf g),E,G,H,Aa⟩⟩ _ _ _ U (cW L) (aQ U) (aK [2,3,4,5,6,7,8,9,10,11,12,13,14,15,16,17,18]))
 refine dP 3 [0,1] (mc 5 U (mc 0 U I)) ?_
 refine cO<|ku (k:=T) (k':=(T++[(o.1,(aa.mk (max (v+y) o.2.Lo) (min z o.2.Hi)))])) 18 (by first|exact Am|exact Nat.le_refl _) hY H Aa U U U (by exact ⟨(o.1,_),hO.2 ⟨o,ho,(t,v),K _ hm,(u,z),B _ L,(B2 hy d g)⟩,U,U⟩) U U (fun B34 W AE=>?_) (fun B34 W AE=>?_)
 rotate_left 1
 ·refine rP 2 [] I ?_
  refine RK R<|aP U<|ar ?_
  exact AZ B34 _ _ (by exact ⟨U,W,AE⟩) (aK [3,5,18,6,7,8,9,10,11,12,13,14,15])
 refine rP 2 [] I ?_
 refine RK R<|aV U<|bY<|aD<|fj 17 U dA U ?_
 refine aR (V ⟨((cf l2 u),(T++[(o.1,(aa.mk (max (v+y) o.2.Lo) (min z o.2.Hi)))]),B34),⟨l9 B,nx.TC AD L D (B2 hy d g),E.app,G.app,W,AE⟩⟩ _ _ _ U (cW L) (aQ U) (aK [2,3,4,5,6,7,8,9,10,11,12,13,14,15,16,17,18]))
end
section
open Go.RowKit
theorem GB (ln:bK) (ri:eL) (e:List Int) (tms:List TM) (e_A:OA) (e_C:Nat) (tb:List Nat) (t_A:OA) (t_C:Nat) (fs:List FM) (bs:List FM) (fb:List Nat) (f_A:OA) (f_C:Nat) (bb:List Nat) (b_A:OA) (b_C gw:Nat) (hw:G7 (cK ln ri e tms)) (hsg:ri.aj.n≤1000) (hn:ln.ag.n=e.length) (hfw:wL (cK ln ri e tms) fs) (hfb:fb.length=fs.length):
 lu Tryz.prog 202 [(vP gw)] [(rd e_A e.length 1 (e.map iC)),(rd t_A tms.length 1 (List.zipWith gJ tms tb)),(e7 (aU rl tms tb)),(rd f_A fs.length 1 (List.zipWith gJ fs fb)),(e7 (aU nK fs fb)),(rd b_A bs.length 1 (List.zipWith gJ bs bb)),(e7 (aU nK bs bb)),(bZ gw 270 (ck.cells (ck.mk ln ri (aM.mk e_A e.length e_C) (aM.mk t_A tms.length t_C) (aM.mk f_A fs.length f_C) (aM.mk b_A bs.length b_C))))] (fun (x:(OA)×Nat)=>(vS x.1 ((jC (cK ln ri e tms)).length) x.2)) (fun (x:(OA)×Nat)=>True) (fun (x:(OA)×Nat)=>[(own x.1 x.2 3 1 ((jC (cK ln ri e tms)).map iC))]):=by
 have y:e.length≤6:=hw.n
 have u:fs.length=e.length+1:=hfw.len
 refine du kr Tryz.func202 U U fun w0 Q hQ hN=>?_
 try dsimp only
 refine WS fun _ X=>bg 1 U<|RK X<|WS fun _ Y=>bg 1 U<|RK Y<|al fun _ Z=>WS fun _ b=>bg 1 U<|rS (SX (bQ U U) U U)<|rP 6 [] (mr 7 U I) ?_
 refine RK b<|aw<|fY 3 1 ?_
 have A:(0≤e.length+1):=by exact Nat.zero_le _
 refine bO (ι:={z:Nat×(OA)×Nat // (z.1≤e.length+1)}) [0,12] [1,2,3,4,5,6,7,8] U U (fun z=>[(3,(vS z.1.2.1 ((kg (cK ln ri e tms) z.1.1).length) z.1.2.2)),(13,(vI (z.1.1:Int)))]) (fun z=>[(own z.1.2.1 z.1.2.2 3 1 ((kg (cK ln ri e tms) z.1.1).map iC))]) (fun _=>rfl) (fun _=>rfl) (fun z=>e.length+1-z.1.1) ⟨(0,none,0),A⟩ (aQ U) (aK [1,2,3,4,5,6,7,8,0]) ?_
 clear A
 rintro ⟨⟨n,a,c⟩,G⟩ J5 AB
 try dsimp only at G
 try dsimp only
 refine WS fun _ d=>rP 1 [] I ?_
 refine RK d<|al fun _ g=>bR U (aS fun s=>?_) (aT fun s=>?_)
 ·refine bB<|ae<|ae<|ax<|KK Z<|WS fun _ P=>?_
  rw [show kg (cK ln ri e tms) n=jC (cK ln ri e tms) by (obtain rfl:n=e.length+1:=by omega); rfl]
  refine rP 2 [] I ?_
  refine RK P<|ar<|LX hQ (a,c) [8] [] I U U U U ?_
  trivial
 refine WK g<|al fun _ R=>aw<|WS fun _ J=>bg 2 U<|RK J<|WS fun _ K=>bg 1 U<|rS (SX (bQ U U) U U)<|rP 3 [] (mr 7 U I) ?_
 obtain ⟨m,B⟩:=aN fs n om
 obtain ⟨ma,hm0a⟩:=aN fb n om
 have hm0m:(List.zipWith gJ fs fb)[n]? =some (gJ m ma):=dZ B hm0a
 refine rS (IA n U (aF 3 U) nU dc om om)<|rS (gF n 0 (Value.map (some ma)) U cq (aF 3 U) hm0m U dc U)<|iG (kV:=eo) (m:=bM iV m) 4 U U oV U ⟨⟨(gZ eo ma (bM iV m)),(cj B hm0a (by simp [nK])),U⟩,fun h=>h⟩ (show jc _ (gZ eo ma (bM iV m)).holds from dy 4 U (cj B hm0a (by simp [nK]))) U fun l=>?_
 try dsimp only
 refine RK K<|aw ?_
 have A:(∀ p∈m,p∈m)∧(∀ p∈m,p∈m∨ko (cK ln ri e tms) p.1=false):=by exact ⟨fun p hp=>hp,fun p hp=> .inl hp⟩
 refine bO (ι:={z:FM // (∀ p∈z,p∈m)∧(∀ p∈m,p∈z∨ko (cK ln ri e tms) p.1=false)}) [0,3,4,12,13,23] [1,2,3,4,5,6,7,8,9] U U (fun z=>[]) (fun z=>[(yd eo l ma (bM iV m) (bM iV z.1) none)]) (fun _=>rfl) (fun _=>rfl) (fun z=>z.1.length) ⟨m,A⟩ (dx.nil _) (aK [1,2,3,4,5,6,7,8,9,0]) ?_
 clear A
 rintro ⟨left,⟨C,D⟩⟩ J13 H
 try dsimp only
 refine WS fun _ F=>g7 oT.inj (f:=iV) 9 U U U U (fun W=>?_) (fun t v hm i=>?_)
 ·refine bg 1 U<|RK F<|al fun _ o=>aV U<|bB<|ae<|ae<|ax<|aD<|KK R<|an<|rP 2 [] I ?_
  refine aH ?_
  rw [← HC (w:=(cK ln ri e tms)) (k:=n) ((CU (hfw.min _ _ B) (hfw.keys _ _ B)).symm.trans (Iy D W))]
  have S:(vI (((n+1):Nat):Int))=(vI ((n:Int)+1)):=by exact cI om
  refine aR (AB ⟨((n+1),a,c),(by first|omega|(simp only []; omega))⟩ _ _ _ U os (cN 3<|bk U S<|dx.nil _) (aK [0,1,2,3,4,5,6,7,8]))
 try dsimp only
 refine bg 1 U<|RK F<|al fun _ L=>aP U<|WK L<|aw<|WS fun _ M=>rS (SX (g8 9 U U U) U U)<|bg 1 U<|AL U tp fun q=>fQ U rD U<|RK M<|WS fun _ N=>rP 2 [] (mc 0 U I) ?_
 have j:=KN hw _ _ (hfw.mem B (C _ hm))
 dsimp only at j
 refine rS (CL (OE ln ri e tms e_A e_C tb t_A t_C fs bs fb f_A f_C bb b_A b_C gw t om hsg) (bp [1,2,3,4,5,6,7,8]) U)<|RK N<|bR U (fun E=>?_) (fun E=>?_)
 ·refine bY<|aD<|fj 10 U dA U ?_
  refine aR (H ⟨(cf left t),⟨l9 C,I3 i hm D (by first|exact E|simpa using E)⟩⟩ _ _ _ U (cW hm) (aQ U) (aK [1,2,3,4,5,6,7,8,9,10]))
 refine WS fun _ O=>rP 2 [] I ?_
 refine cU (xs:=[.tmp 32]) (cs:=[(vI (n:Int))]) U cy jd U U U U (by simp [Value.cells]) U U fun r=>?_
 have hy:jm (cK ln ri e tms) (fwd (cK ln ri e tms) n)=true:=(CU (hfw.min _ _ B) (hfw.keys _ _ B)).symm.trans (NZ (C _ hm) E)
 refine c_ (es2:=(List.map iC (kg (cK ln ri e tms) (n+1)))) (m':=(kg (cK ln ri e tms) (n+1)).length) 10 U U U ph U U sm (aY (es:=List.map iC [(n:Int)]) 0 U U (by simp [bJ]) U) (j2 _) (by have:=v9 (w:=(cK ln ri e tms)) (k:=n); first|omega|(simp; omega)) (by have:=v9 (w:=(cK ln ri e tms)) (k:=n); simp only [maxLen]; omega) (by rw [EO hy]; simp) sm U fun AA V=>?_
 try dsimp only
 refine bg 1 U<|RK O<|bB<|iw U<|ae<|ax<|aD<|KK R<|an<|rP 2 [] I ?_
 refine aH ?_
 have T:(vI (((n+1):Nat):Int))=(vI ((n:Int)+1)):=by exact cI om
 refine aR (AB ⟨((n+1),AA,V),(by first|omega|(simp only []; omega))⟩ _ _ _ U os (cN 3<|bk U T<|dx.nil _) (aK [2,3,4,5,6,7,8,9,10]))
end
section
open Go.RowKit
theorem LH (ln:bK) (ri:eL) (e:List Int) (tms:List TM) (e_A:OA) (e_C:Nat) (tb:List Nat) (t_A:OA) (t_C gw:Nat) (hw:G7 (cK ln ri e tms)) (hn:ln.ag.n=e.length) (htb:tb.length=tms.length):
 Dd Tryz.prog 201 [(vP gw)] [(rd e_A e.length 1 (e.map iC)),(rd t_A tms.length 1 (List.zipWith gJ tms tb)),(e7 (aU rl tms tb))] (bZ gw 270 (ck.cells (ck.mk ln ri (aM.mk e_A e.length e_C) (aM.mk t_A tms.length t_C) (aM.mk none 0 0) (aM.mk none 0 0)))) (fun (x:(List FM)×(List Nat)×(OA)×Nat×(List FM)×(List Nat)×(OA)×Nat)=>(vT [])) (fun (x:(List FM)×(List Nat)×(OA)×Nat×(List FM)×(List Nat)×(OA)×Nat)=>wL (cK ln ri e tms) x.1∧uv (cK ln ri e tms) x.2.2.2.2.1∧x.2.1.length=x.1.length∧x.2.2.2.2.2.1.length=x.2.2.2.2.1.length) (fun (x:(List FM)×(List Nat)×(OA)×Nat×(List FM)×(List Nat)×(OA)×Nat)=>(bo [(bZ gw 270 (ck.cells (ck.mk ln ri (aM.mk e_A e.length e_C) (aM.mk t_A tms.length t_C) (aM.mk x.2.2.1 x.1.length x.2.2.2.1) (aM.mk x.2.2.2.2.2.2.1 x.2.2.2.2.1.length x.2.2.2.2.2.2.2)))),(own x.2.2.1 x.2.2.2.1 274 1 (List.zipWith gJ x.1 x.2.1)),(bo (aU nK x.1 x.2.1)),(own x.2.2.2.2.2.2.1 x.2.2.2.2.2.2.2 274 1 (List.zipWith gJ x.2.2.2.2.1 x.2.2.2.2.2.1)),(bo (aU nK x.2.2.2.2.1 x.2.2.2.2.2.1))])):=by
 have Ch:e.length≤6:=hw.n
 have Ci:tms.length=e.length:=hw.times
 refine mF kr Tryz.func201 U U fun w0 Q hQ hN=>?_
 try dsimp only
 refine WS fun _ Ad=>uj U U fun W=>RK Ad<|WS fun _ Ah=>fE 1 [] (mc 0 U I) U<|rS (SX (bQ U U) U U)<|rP 5 [] (mc 1 U I) ?_
 refine RK Ah ?_
 refine mN (ι:={z:(OA)×(OA) // True}) [0,1,2] [0,2,3,4] U U (fun z=>[]) (fun z=>[(own z.1.1 (ln.ag.n+1) 274 1 (List.map oC (List.replicate (ln.ag.n+1) (none:Option Nat)))),(own z.1.2 (ln.ag.n+1) 274 1 (List.map oC (List.replicate (ln.ag.n+1) (none:Option Nat)))),(bZ gw 270 (ck.cells (ck.mk ln ri (aM.mk e_A e.length e_C) (aM.mk t_A tms.length t_C) (aM.mk z.1.1 (ln.ag.n+1) (ln.ag.n+1)) (aM.mk z.1.2 (ln.ag.n+1) (ln.ag.n+1)))))]) (fun _=>rfl) (fun _=>rfl) ?_ fun K4 Ai=>?_
 ·rintro ⟨⟨fA,bA⟩,_⟩
  try dsimp only
  refine Bo 6 U U fun wz Sz hz=>?_
  have Ce:(List.replicate (ln.ag.n+1) (none:Option Nat)).length=(ln.ag.n+1):=List.length_replicate
  try dsimp only
  refine mN (ι:={z:Nat // True}) [0,1,2] [0,1,2,3,4,6] U U (fun z=>[]) (fun z=>[(bo (aU nK [[((aC.mk 0 0),ri.Start)]] [z.1])),(own fA (ln.ag.n+1) 274 1 (List.map oC (eC [z.1] (ln.ag.n+1))))]) (fun _=>rfl) (fun _=>rfl) ?_ fun K5 B9=>?_
  ·rintro ⟨ga,_⟩
   try dsimp only
   refine al fun _ Aj=>WS fun _ Ak=>rP 2 [] I ?_
   refine RK Ak<|aw<|ov ?_
   have C:(0≤ln.ag.n)∧(([[((aC.mk 0 0),ri.Start)]]).length=0+1)∧(([ga]).length=0+1)∧(pS (cK ln ri e tms) ([[((aC.mk 0 0),ri.Start)]])):=by exact ⟨Nat.zero_le _,rfl,rfl,pS.first⟩
   refine v7 (ι:={z:Nat×(List FM)×(List Nat)×(List Nat) // (z.1≤ln.ag.n)∧(z.2.1.length=z.1+1)∧(z.2.2.1.length=z.1+1)∧(pS (cK ln ri e tms) z.2.1)}) (fun z=>z.1.2.2.2.map lq) (fun z=>[(0,(vP gw)),(1,(vP W)),(2,(vI (ln.ag.n:Int))),(52,(vI (ln.ag.n:Int))),(53,(vI (z.1.1:Int)))]) (fun z=>[(bo (z.1.2.2.2.map lH)),(bZ gw 270 (ck.cells (ck.mk ln ri (aM.mk e_A e.length e_C) (aM.mk t_A tms.length t_C) (aM.mk fA (ln.ag.n+1) (ln.ag.n+1)) (aM.mk bA (ln.ag.n+1) (ln.ag.n+1))))).ro,(bZ W 259 [(vP gw)]),(rd e_A e.length 1 (e.map iC)).ro,(rd t_A tms.length 1 (List.zipWith gJ tms tb)).ro,(e7 (aU rl tms tb)).ro,(own bA (ln.ag.n+1) 274 1 (List.map oC (List.replicate (ln.ag.n+1) (none:Option Nat)))),(bo (aU nK z.1.2.1 z.1.2.2.1)),(own fA (ln.ag.n+1) 274 1 (List.map oC (eC z.1.2.2.1 (ln.ag.n+1))))]) (fun z=>ln.ag.n-z.1.1) ⟨(0,[[((aC.mk 0 0),ri.Start)]],[ga],([]:List Nat)),C⟩ U (aQ U) (aK [0,1,2,3,4,5,6,7,8]) ?_
   clear C
   rintro ⟨⟨b,fs,fb,B3⟩,⟨Az,AJ,A0,M⟩⟩ J8 B8
   try dsimp only at Az AJ A0 M
   try dsimp only
   have Cf:(eC fb (ln.ag.n+1)).length=(ln.ag.n+1):=qH om
   refine WS fun _ Am=>rP 1 [] I ?_
   refine RK Am<|al fun _ AB=>cM U (aT fun B6=>?_) (aS fun B6=>?_)
   ·refine WK AB<|al fun _ BD=>aw<|WS fun _ BE=>rP 1 [] I ?_
    refine AL U jd fun s=>Gp U Be U U<|RK BE<|al fun _ BF=>dR cD [6,8] [6] [0] [0,1,2,3,4,5,6,7,8] [0,1,2,3,4,5,6,7,8,9] U U U U U<|eS U (EP 3 U cq U)<|eS U (SX (bQ U U) U U)<|eS U (FA 12 U fD U)<|eS U (HZ (vS fA (ln.ag.n+1) (ln.ag.n+1)) 2 U cq U U)<|eS U (EP 0 U cq U)<|eS U (BI U (ia ⟨om,om⟩)) ?_
    obtain ⟨CK,B0⟩:=aN (eC fb (ln.ag.n+1)) (b+1) om
    have hx17m:(List.map oC (eC fb (ln.ag.n+1)))[(b+1)]? =some (oC CK):=by rw [fB,B0]; rfl
    refine fS U (IA (b+1) U (ak (n:=(ln.ag.n+1)) 9 U sq) nU dc om om) ?_
    refine e8 U<|iE U fun T18 Bg=>mu (kV:=eo) U U fun B=>?_
    try dsimp only
    refine aH (Bg _ _ (aK [1,2,3,4,5,6,7,8,9]) (aK [1,2,3,4,5,6,7,8,9,10]) ?_)
    refine cp U fun T20 Bh=>?_
    have Br:((eC fb (ln.ag.n+1)).set (b+1) (some B))=(eC (fb++[B]) (ln.ag.n+1)):=by exact ug om om
    refine eH (k:=(b+1)) (o:=0) (vs:=[(Value.map (some B))]) (es':=(List.map oC (eC (fb++[B]) (ln.ag.n+1)))) (C':=[_,_,_,_,_,_,_,_,_,_,(own fA (ln.ag.n+1) 274 1 (List.map oC (eC (fb++[B]) (ln.ag.n+1))))]) 10 U U U LU U U U U hx17m U dc (by exact (List.map_set (f:=oC) (l:=(eC fb (ln.ag.n+1))) (i:=(b+1)) (a:=(some B))).symm.trans (congrArg _ Br)) U<|aH (Bh _ _ (aK [1,2,3,4,5,6,7,8,9]) ?_)
    refine fO U<|KK BF<|al fun _ BG=>?_
    have CC:(eC (fb++[B]) (ln.ag.n+1)).length=(ln.ag.n+1):=qH (by simp; omega)
    obtain ⟨mb,N⟩:=aN fs b om
    obtain ⟨ga,Z⟩:=aN fb b om
    refine FC 9 N Z U U U ?_
    try dsimp only
    refine dG cD 7 kr<|mI 1 [] (mc 6 U I) U<|dS (SX (bQ U U) U U)<|dP 3 [0,1] (mr 5 U (mc 3 U I)) ?_
    have Bv:(List.map oC (eC (fb++[B]) (ln.ag.n+1)))[b]? =some (oC (some ga)):=rE (oH (JJ Z))
    refine dS (IA b U (ak (n:=(ln.ag.n+1)) 11 U sq) nU dc om om) ?_
    refine dS (gF b 0 (Value.map (some ga)) U cq (ak (n:=(eC (fb++[B]) (ln.ag.n+1)).length) 11 U sm) Bv U dc U)<|cO<|uO 0 U U oV U U fun AR=>?_
    try dsimp only
    refine RK BG<|aw ?_
    have C:(∀ p∈mb,p∈mb)∧(x5 (cK ln ri e tms) b ([]:FM))∧(j3 (cK ln ri e tms) b mb ([]:FM) mb):=by exact ⟨fun p hp=>hp,x5.start,j3.start⟩
    refine v7 (ι:={z:FM×FM×(List Nat) // (∀ p∈z.1,p∈mb)∧(x5 (cK ln ri e tms) b z.2.1)∧(j3 (cK ln ri e tms) b mb z.2.1 z.1)}) (fun z=>z.1.2.2.map lq) (fun z=>[(0,(vP gw)),(1,(vP W)),(2,(vI (ln.ag.n:Int))),(3,(vP s)),(52,(vI (ln.ag.n:Int))),(53,(vI (b:Int))),(71,(vP AR))]) (fun z=>[(yD eo AR ga (bM iV mb) (bM iV z.1.1) none),(bo (fz nK fs fb b)),(gZ eo B (bM iV z.1.2.1)),(bZ s 3 [(vI (b:Int))]),(bo (z.1.2.2.map lH)),(bZ gw 270 (ck.cells (ck.mk ln ri (aM.mk e_A e.length e_C) (aM.mk t_A tms.length t_C) (aM.mk fA (ln.ag.n+1) (ln.ag.n+1)) (aM.mk bA (ln.ag.n+1) (ln.ag.n+1))))).ro,(bZ W 259 [(vP gw)]),(rd e_A e.length 1 (e.map iC)).ro,(rd t_A tms.length 1 (List.zipWith gJ tms tb)).ro,(e7 (aU rl tms tb)).ro,(own bA (ln.ag.n+1) 274 1 (List.map oC (List.replicate (ln.ag.n+1) (none:Option Nat)))),(own fA (ln.ag.n+1) 274 1 (List.map oC (eC (fb++[B]) (ln.ag.n+1))))]) (fun z=>z.1.1.length) ⟨(mb,([]:FM),B3),C⟩ U (aQ U) (aK [0,1,2,3,4,5,6,7,8,9,10,11]) ?_
    clear C
    rintro ⟨⟨left,m,AK⟩,⟨c,d,g⟩⟩ J26 BB
    try dsimp only at c d g
    try dsimp only
    refine WS fun _ AU=>rY oT.inj (f:=iV) 0 U U U U (fun B7=>?_) (fun t v hm A1=>?_)
    ·refine bg 1 U<|RK AU<|al fun _ CU=>aV U<|bB<|ae<|ae<|ax<|aD<|KK BD<|an<|rP 2 [] I ?_
     refine aH<|K1 (C':=[(gZ eo ga (bM iV mb)),(bo (fz nK fs fb b)),(gZ eo B (bM iV m)),(bZ s 3 [(vI (b:Int))]),(bo (AK.map lH)),(bZ gw 270 (ck.cells (ck.mk ln ri (aM.mk e_A e.length e_C) (aM.mk t_A tms.length t_C) (aM.mk fA (ln.ag.n+1) (ln.ag.n+1)) (aM.mk bA (ln.ag.n+1) (ln.ag.n+1))))).ro,(bZ W 259 [(vP gw)]),(rd e_A e.length 1 (e.map iC)).ro,(rd t_A tms.length 1 (List.zipWith gJ tms tb)).ro,(e7 (aU rl tms tb)).ro,(own bA (ln.ag.n+1) 274 1 (List.map oC (List.replicate (ln.ag.n+1) (none:Option Nat)))),(own fA (ln.ag.n+1) 274 1 (List.map oC (eC (fb++[B]) (ln.ag.n+1))))]) 0 U Jn U<|Jm 1 0 N Z U U U ?_
     try dsimp only
     refine CY (X':=aU nK (fs++[m]) (fb++[B])) 0 1 U U (yr om U) ?_
     try dsimp only
     have Bs:(vI (((b+1):Nat):Int))=(vI ((b:Int)+1)):=by exact cI om
     refine aR (B8 ⟨((b+1),(fs++[m]),(fb++[B]),AK),⟨om,by simp; omega,by simp; omega,M.add AJ N d g B7⟩⟩ _ _ _ U os (cN 4<|bk U Bs<|dx.nil _) (aK [2,3,4,5,6,7,8,0,9]))
    try dsimp only
    refine bg 1 U<|RK AU<|al fun _ BH=>aP U<|WK BH<|aw<|WS fun _ BJ=>rS (SX (sr 0 U U U) U U)<|bg 2 U<|AL U tp fun A4=>AL U jd fun A5=>tP U rD U<|Gp U Be U U<|RK BJ<|WS fun _ BK=>rP 2 [0,1] (mc 8 U (mc 5 U I)) ?_
    refine cX (uu gw b) (aL) U fun CP CX=>?_
    obtain ⟨AY,Aa⟩:=CP
    try dsimp only
    refine RK BK<|aw<|kB 11 U (by exact fun _ h=>h)<|kB 13 U (by exact fun _ h=>h)<|kB 15 U (by exact fun _ h=>h)<|kB 12 U (by exact fun _ h=>h) ?_
    refine nz (L0:=[(0,(vP gw)),(1,(vP W)),(2,(vI (ln.ag.n:Int))),(3,(vP s)),(4,(vP A4)),(5,(vP A5)),(52,(vI (ln.ag.n:Int))),(53,(vI (b:Int))),(71,(vP AR))]) (F:=[(rd e_A e.length 1 (e.map iC)).ro,(rd t_A tms.length 1 (List.zipWith gJ tms tb)).ro,(e7 (aU rl tms tb)).ro,(bZ gw 270 (ck.cells (ck.mk ln ri (aM.mk e_A e.length e_C) (aM.mk t_A tms.length t_C) (aM.mk fA (ln.ag.n+1) (ln.ag.n+1)) (aM.mk bA (ln.ag.n+1) (ln.ag.n+1))))).ro,(bZ AY 259 [(vP gw)]),(bZ Aa 3 [(vI (b:Int))])]) (fun k (y:FM)=>(m_ (cK ln ri e tms) b mb left y (t,v) k)) (fun k y=>[(bZ A5 3 [(vI v)]),(bZ A4 276 (aC.cells t)),(yD eo AR ga (bM iV mb) (bM iV (cf left t)) (some (t,(vI v)))),(bo (fz nK fs fb b)),(gZ eo B (bM iV y)),(bZ s 3 [(vI (b:Int))]),(bo (AK.map lH)),(bZ gw 270 (ck.cells (ck.mk ln ri (aM.mk e_A e.length e_C) (aM.mk t_A tms.length t_C) (aM.mk fA (ln.ag.n+1) (ln.ag.n+1)) (aM.mk bA (ln.ag.n+1) (ln.ag.n+1))))).ro,(bZ W 259 [(vP gw)]),(rd e_A e.length 1 (e.map iC)).ro,(rd t_A tms.length 1 (List.zipWith gJ tms tb)).ro,(e7 (aU rl tms tb)).ro,(own bA (ln.ag.n+1) 274 1 (List.map oC (List.replicate (ln.ag.n+1) (none:Option Nat)))),(own fA (ln.ag.n+1) 274 1 (List.map oC (eC (fb++[B]) (ln.ag.n+1))))]) (fun _ (_:Unit)=>False) (fun _ _=>[]) [6,7,8,9,10,11,12,13,14,15,16,17,18,19] [3,2,1,0,4,5] m rfl rfl (sf ln ri e tms e_A e_C tb t_A t_C fA (ln.ag.n+1) (ln.ag.n+1) bA (ln.ag.n+1) (ln.ag.n+1) gw b AY Aa om om) rfl rfl rfl (by exact m_.start d g) (by simp only [List.forall_mem_cons,List.not_mem_nil,false_imp_iff,implies_true,and_true]; exact ⟨⟨_,aX (i:=0) rfl,(dI (bT _))⟩,⟨_,aX (i:=1) rfl,(dI (bT _))⟩,⟨_,aX (i:=2) rfl,(dI (bT _))⟩,⟨_,aX (i:=3) rfl,(dI (bT _))⟩,⟨_,aX (i:=4) rfl,(bT _)⟩,⟨_,aX (i:=5) rfl,(bT _)⟩⟩) (by rintro k x k2 ⟨o,_,rfl,_⟩; rfl) rfl (aQ rfl) ?_ ?_ (fun _ _ _ h=>h.elim) (fun _ _ h=>h.elim)
    rotate_left 1
    ·rintro CJ k O AI At
     have D:=At
     try dsimp only
     refine aD<|aD<|JO (X:=AK.map lH) 13 0 U U ?_
     try dsimp only
     refine fj 9 U xq U ?_
     refine aR (BB ⟨((cf left t),O,(CJ::AK)),⟨l9 c,D.on,D.next A1 hm AI⟩⟩ _ _ _ U (cW hm) (aQ U) (aK [9,10,11,12,0,4,14,1,2,3,18,19]))
    rintro k x k2 O l ra rb S w1 K39 Qr40 CG hx As BL H CN CR
    obtain ⟨o,ho,rfl,rfl⟩:=hx
    have D:=As
    try dsimp only
    refine WS fun _ BM=>rP 1 [] I ?_
    refine RK BM<|an<|AL U dh fun Ca=>fQ U cu U<|aH<|jg (fun _ _ h=>h) (aK [1,0,2,3,4,5,6,7,8,9,10,11,12,13,14,15])<|aR (BL _ _ ?_)
    refine aw<|al fun _ BN=>dR cD [16,18] [] [] [0,1,2,3,4,5,6,7,8,9,10,11,12,13,14,15] [] U U U U U<|eS U (EP 2 U cq U)<|eS U (EP 10 U cq U)<|eS U (SX (bQ U U) U U)<|eS U (FA 10 U fD U)<|eS U (HZ (vS e_A e.length e_C) 9 U cq U U)<|eS U (EP 7 U cq U) ?_
    obtain ⟨y,hy⟩:=aN e b om
    have A2:=bP iC hy
    refine eS U (IA b U (aF 11 U) cy dc om om)<|eS U (gF b 0 (vI y) U cq (aF 11 U) A2 U dc U) ?_
    have CB:=hw.least y (aX hy)
    have hp:=M.mem N (c _ hm)
    have CA:=KN hw _ _ hp
    have CE:=uD o.1
    have CF:=hw.opt ho
    have Cg:=hw.now
    dsimp only at CA
    refine eS U (BI U (ia ⟨om,om⟩))<|eS U (FA 0 U fD U)<|eS U (L1 (vI o.2.Lo) 1 U cq U U)<|eS U (MX U)<|eS U (LW 3 U cq U U)<|eS U (MV U)<|eS U (CL (Ke o.1) (aL) U)<|eS U (CL (vQ t (fq o.1) om om) (aL) U)<|eS U (AG U)<|e8 U<|cp U fun T45 Bi=>AL U tp fun Cb=>aH (Bi _ _ (aK [1,2,3,4,5,6,7,8,9,10,11,12,13,14,15,16]) ?_)
    refine cp U fun T47 Bj=>fQ U rD U<|aH (Bj _ _ (aK [1,2,3,4,5,6,7,8,9,10,11,12,13,14,15,16]) ?_)
    refine fO U<|KK BN<|al fun _ BO=>dG cD 15 kr<|mI 1 [] (mc 11 U I) U<|dS (SX (bQ U U) U U)<|dP 4 [0,1] (mr 10 U (mc 8 U I)) ?_
    have Bw:(List.map oC (eC (fb++[B]) (ln.ag.n+1)))[(b+1)]? =some (oC (some B)):=rE (oH (zH om))
    refine dS (IA (b+1) U (ak (n:=(ln.ag.n+1)) 16 U sq) nU dc om om) ?_
    refine dS (gF (b+1) 0 (Value.map (some B)) U cq (ak (n:=(eC (fb++[B]) (ln.ag.n+1)).length) 16 U sm) Bw U dc U)<|mI 1 [] (mc 0 U I) U<|dS (SX (jX (kV:=eo) (x:=(dq t (fq o.1))) (l:=O) (f:=iV) (z:=0) U U U oV oT Vc (by exact aF 7 U)) U U)<|lB 5 U<|cO<|RK BO<|al fun _ AC=>dG cD 19 kr<|mI 4 [0,1] (mc 2 U (mc 11 U I)) U<|dS (SX (bQ U U) U U)<|mI 3 [] (mr 10 U I) U<|dS (MN U)<|dP 2 [] I ?_
    refine jo (t:=121) U (aS fun P=>?_) (aT fun P=>?_)
    ·refine dP 8 [] I ?_
     refine cO<|RK AC<|aV U<|bY<|aD ?_
     exact H O _ _ (by exact D.skip (H9 hy P)) (aK [1,3,4,5,6,7,8,9,10,11,12,13,14,15,16])
    refine dP 3 [] I ?_
    refine ja (t:=124) U (fun R=>?_) (fun R=>?_)
    ·rw [Bool.not_eq_true'] at R
     refine lB 5 U<|cO<|RK AC<|aP U<|dG cD 10 kr<|mI 1 [] (mc 11 U I) U<|dS (SX (bQ U U) U U)<|dP 4 [0,1] (mr 10 U (mc 8 U I)) ?_
     have Bx:(List.map oC (eC (fb++[B]) (ln.ag.n+1)))[(b+1)]? =some (oC (some B)):=rE (oH (zH om))
     refine dS (IA (b+1) U (ak (n:=(ln.ag.n+1)) 16 U sq) nU dc om om) ?_
     refine dS (gF (b+1) 0 (Value.map (some B)) U cq (ak (n:=(eC (fb++[B]) (ln.ag.n+1)).length) 16 U sm) Bx U dc U)<|dP 2 [] (mc 0 U I) ?_
     refine cO<|iu (kV:=eo) (x:=(dq t (fq o.1))) (C':=[_,_,_,_,_,_,_,(gZ eo B (bM iV (dK O (dq t (fq o.1)) (max (v+y) o.2.Lo)))),_,_,_,_,_,_,_,_,_]) 7 U U U U oV oT U (gr _ _ _ _).symm U<|aH<|aD ?_
     exact H (dK O (dq t (fq o.1)) (max (v+y) o.2.Lo)) _ _ (by exact D.set hp ho (Av hy P) (.inl (by simpa using R))) (aK [1,3,4,5,6,7,8,9,10,11,12,13,14,15,16])
    rw [Bool.not_eq_false'] at R
    refine dP 5 [] I ?_
    refine cO<|RK AC<|bR U (aS fun u=>?_) (aT fun u=>?_)
    ·refine bY<|aD ?_
     exact H O _ _ (by exact D.oq (Av hy P) (by simpa using R) u) (aK [1,3,4,5,6,7,8,9,10,11,12,13,14,15,16])
    refine dG cD 10 kr<|mI 1 [] (mc 11 U I) U<|dS (SX (bQ U U) U U)<|dP 4 [0,1] (mr 10 U (mc 8 U I)) ?_
    have By:(List.map oC (eC (fb++[B]) (ln.ag.n+1)))[(b+1)]? =some (oC (some B)):=rE (oH (zH om))
    refine dS (IA (b+1) U (ak (n:=(ln.ag.n+1)) 16 U sq) nU dc om om) ?_
    refine dS (gF (b+1) 0 (Value.map (some B)) U cq (ak (n:=(eC (fb++[B]) (ln.ag.n+1)).length) 16 U sm) By U dc U)<|dP 2 [] (mc 0 U I) ?_
    refine cO<|iu (kV:=eo) (x:=(dq t (fq o.1))) (C':=[_,_,_,_,_,_,_,(gZ eo B (bM iV (dK O (dq t (fq o.1)) (max (v+y) o.2.Lo)))),_,_,_,_,_,_,_,_,_]) 7 U U U U oV oT U (gr _ _ _ _).symm U<|aH<|aD ?_
    exact H (dK O (dq t (fq o.1)) (max (v+y) o.2.Lo)) _ _ (by exact D.set hp ho (Av hy P) (.inr u)) (aK [1,3,4,5,6,7,8,9,10,11,12,13,14,15,16])
   refine bB<|ae<|ae<|ax<|KK Aj<|WS fun _ AD=>rP 1 [] I ?_
   refine AL U jd fun B4=>Gp U Be U U<|RK AD<|aw ?_
   rw [Ho]
   refine ov ?_
   have C:(0≤ln.ag.n+1)∧(([]:List FM).length=0)∧(([]:List Nat).length=0)∧(g4 (cK ln ri e tms) (ln.ag.n+1-0) ([]:List FM)):=by exact ⟨Nat.zero_le _,rfl,rfl,g4.none_⟩
   refine v7 (ι:={z:Nat×(List FM)×(List Nat)×Nat×(List Nat) // (z.1≤ln.ag.n+1)∧(z.2.1.length=z.1)∧(z.2.2.1.length=z.1)∧(g4 (cK ln ri e tms) (ln.ag.n+1-z.1) z.2.1)}) (fun z=>z.1.2.2.2.2.map lq) (fun z=>[(0,(vP gw)),(1,(vP W)),(2,(vI (ln.ag.n:Int))),(12,(Value.pointer (some ⟨z.1.2.2.2.1,0,none⟩)))]) (fun z=>[(bo (aU nK z.1.2.1 z.1.2.2.1)),(bZ z.1.2.2.2.1 3 [(vI ((ln.ag.n:Int)-(z.1.1:Int)))]),(bo (z.1.2.2.2.2.map lH)),(bZ gw 270 (ck.cells (ck.mk ln ri (aM.mk e_A e.length e_C) (aM.mk t_A tms.length t_C) (aM.mk fA (ln.ag.n+1) (ln.ag.n+1)) (aM.mk bA (ln.ag.n+1) (ln.ag.n+1))))).ro,(bZ W 259 [(vP gw)]),(rd e_A e.length 1 (e.map iC)).ro,(rd t_A tms.length 1 (List.zipWith gJ tms tb)).ro,(e7 (aU rl tms tb)).ro,(own bA (ln.ag.n+1) 274 1 (List.map oC (gW z.1.2.2.1 (ln.ag.n+1)))),(bo (aU nK fs fb)),(own fA (ln.ag.n+1) 274 1 (List.map oC (eC fb (ln.ag.n+1))))]) (fun z=>ln.ag.n+1-z.1.1) ⟨(0,([]:List FM),([]:List Nat),B4,B3),C⟩ U (aQ U) (aK [0,1,2,3,4,5,6,7,8,9,10]) ?_
   clear C
   rintro ⟨⟨j,bs,bb,gq,q⟩,⟨AO,AP,AQ,E⟩⟩ J57 AT
   try dsimp only at AO AP AQ E
   try dsimp only
   refine al fun _ AE=>WS fun _ AF=>rP 2 [] (mc 1 U I) ?_
   refine RK AF<|bR U (aS fun A9=>?_) (aT fun A9=>?_)
   ·refine bB<|ae<|ae<|ax ?_
    rw [show (List.map oC (eC fb (ln.ag.n+1)))=(List.zipWith gJ fs fb) from by rw [yZ om]; exact (Ab om).symm]
    rw [show (List.map oC (gW bb (ln.ag.n+1)))=(List.zipWith gJ bs bb) from by rw [GX om]; exact (Ab om).symm]
    refine Ae (C1:=[(own fA (ln.ag.n+1) 274 1 (List.zipWith gJ fs fb)),(bo (aU nK fs fb)),(own bA (ln.ag.n+1) 274 1 (List.zipWith gJ bs bb)),(bo (aU nK bs bb)),(bo (q.map lH))]) hz [10,9,8,0,2] U U (by simp only [fJ,List.all_nil,Iw,NI,Bool.and_true]; rfl) ?_
    rw [show (bZ gw 270 (ck.cells (ck.mk ln ri (aM.mk e_A e.length e_C) (aM.mk t_A tms.length t_C) (aM.mk fA (ln.ag.n+1) (ln.ag.n+1)) (aM.mk bA (ln.ag.n+1) (ln.ag.n+1)))))=(bZ gw 270 (ck.cells (ck.mk ln ri (aM.mk e_A e.length e_C) (aM.mk t_A tms.length t_C) (aM.mk fA fs.length (ln.ag.n+1)) (aM.mk bA bs.length (ln.ag.n+1))))) from by rw [show fs.length=(ln.ag.n+1) from by omega,show bs.length=(ln.ag.n+1) from by omega]]
    refine Pr [(bZ gw 270 (ck.cells (ck.mk ln ri (aM.mk e_A e.length e_C) (aM.mk t_A tms.length t_C) (aM.mk fA fs.length (ln.ag.n+1)) (aM.mk bA bs.length (ln.ag.n+1))))),(own fA (ln.ag.n+1) 274 1 (List.zipWith gJ fs fb)),(bo (aU nK fs fb)),(own bA (ln.ag.n+1) 274 1 (List.zipWith gJ bs bb)),(bo (aU nK bs bb))] [(bo (q.map lH))] ?_
    refine hN _ _ _ (Lu 1 U U<|gY (vs:=[]) trivial fun w hs=>SJ (fs,fb,fA,(ln.ag.n+1),bs,bb,bA,(ln.ag.n+1)) 0 ?_ ?_ U (by show List.all _ _=true; simp only [fJ,List.all_nil,Iw,Bool.and_true]; rfl) hs)
    ·clear hs w hQ hN AF AE AD AB Am Ak Aj Ah Ad; rfl
    ·clear hs w hQ hN AF AE AD AB Am Ak Aj Ah Ad; exact ⟨M.ok (by show fs.length=e.length+1; omega),g4.ok (by have:=E; rwa [show ln.ag.n+1-j=0 by omega] at this) (by show bs.length=e.length+1; omega),dso,dso⟩
   refine WK AE<|al fun _ AV=>aw<|al fun _ BP=>?_
   obtain ⟨b,Cd⟩: ∃ b:Nat,b+j=ln.ag.n:=⟨ln.ag.n-j,om⟩
   rw [show (ln.ag.n:Int)-(j:Int)=(b:Int) from by omega]
   have CW:(gW bb (ln.ag.n+1)).length=(ln.ag.n+1):=zD om
   refine dR cD [5,12,13,15] [11] [0,1,2] [0,1,2,3,4,5,6,7,9,10] [0,1,2,3,4,5,6,7,8,9,10] U U U U U<|eS U (EP 4 U cq U)<|eS U (SX (bQ U U) U U)<|eS U (FA 13 U fD U)<|eS U (HZ (vS bA (ln.ag.n+1) (ln.ag.n+1)) 3 U cq U U)<|eS U (EP 1 U cq U)<|eS U (SX (bj (xs:=[]) (cs:=(aC.cells (aC.mk 0 0))) U U (bh Bd U)) U U)<|eS U (EP 4 U cq U)<|eS U (SX (bQ U U) U U)<|eS U (FA 7 U fD U)<|eS U (FA 8 U fD U)<|eS U (HZ (vI ri.gi) 3 U cq U U) ?_
   obtain ⟨CM,B1⟩:=aN (gW bb (ln.ag.n+1)) b om
   have hx63m:(List.map oC (gW bb (ln.ag.n+1)))[b]? =some (oC CM):=by rw [fB,B1]; rfl
   refine fS U (IA b U (ak (n:=(ln.ag.n+1)) 8 U sq) nU dc om om) ?_
   refine e8 U<|iE U fun T64 Bk=>mu (kV:=eo) U U fun A=>?_
   try dsimp only
   refine aH (Bk _ _ (aK [1,2,3,4,5,6,7,8,10,11]) (aK [1,2,3,4,5,6,7,8,9,10,11]) ?_)
   refine iE U fun T66 Bl=>?_
   have Bt:(dK ([]:List (aC×Int)) (aC.mk 0 0) ri.gi)=[((aC.mk 0 0),ri.gi)]:=by rfl
   refine yG (kV:=eo) (x:=(aC.mk 0 0)) (C':=[(gZ eo A (bM iV ([((aC.mk 0 0),ri.gi)]))),_,_,_,_,_,_,_,_,_,_,_]) 0 U U U U oV oT U ((gr _ _ _ _).symm.trans (congrArg _ Bt)) U<|aH (Bl _ _ (aK [1,2,3,4,5,6,7,8,10,11]) (aK [1,2,3,4,5,6,7,8,9,10,11]) ?_)
   refine iE U fun T68 Bm=>rS (MV U)<|aH (Bm _ _ (aK [1,2,3,4,5,6,7,8,10,11]) (aK [1,2,3,4,5,6,7,8,9,10,11]) ?_)
   refine cp U fun T69 Bn=>?_
   have Bu:((gW bb (ln.ag.n+1)).set b (some A))=(gW (A::bb) (ln.ag.n+1)):=by exact HH om
   refine eH (k:=b) (o:=0) (vs:=[(Value.map (some A))]) (es':=(List.map oC (gW (A::bb) (ln.ag.n+1)))) (C':=[_,_,_,_,_,_,_,_,_,(own bA (ln.ag.n+1) 274 1 (List.map oC (gW (A::bb) (ln.ag.n+1)))),_,_]) 9 U U U LU U U U U hx63m U dc (by exact (List.map_set (f:=oC) (l:=(gW bb (ln.ag.n+1))) (i:=b) (a:=(some A))).symm.trans (congrArg _ Bu)) U<|aH (Bn _ _ (aK [1,2,3,4,5,6,7,8,10,11]) ?_)
   refine fO U<|KK BP<|al fun _ BQ=>WS fun _ BR=>rP 3 [] (mc 2 U I) ?_
   refine RK BR<|cM U (aT fun A_=>?_) (aS fun A_=>?_)
   ·refine bB<|ae<|ax<|KK AV<|al fun _ BS=>WS fun _ BT=>fE 1 [] (mc 2 U I) U<|RK BT<|an<|AL U jd fun B5=>Gp U Be U U<|RK BS<|an<|rP 2 [] (mc 0 U I) ?_
    refine Gp U Be U U<|aH ?_
    rw [show (b:Int)-1=(ln.ag.n:Int)-(((j+1):Nat):Int) from by omega]
    refine zq (ms:=bs) (m:=[((aC.mk 0 0),ri.gi)]) (a:=A) 2 1 U U U ?_
    try dsimp only
    refine aR (AT ⟨((j+1),([((aC.mk 0 0),ri.gi)]::bs),(A::bb),B5,q),⟨om,by simp; omega,by simp; omega,by exact g4.end_ (b:=b) E om om (by show e.length≤b; omega)⟩⟩ _ _ _ U os (aQ U) (aK [0,1,3,4,5,6,7,8,9,10,11]))
   refine WK BQ<|al fun _ BU=>?_
   have CD:(gW (A::bb) (ln.ag.n+1)).length=(ln.ag.n+1):=zD (by simp; omega)
   obtain ⟨mb,N⟩:=aN bs 0 om
   obtain ⟨ga,Z⟩:=aN bb 0 om
   refine FC 1 N Z U U U ?_
   try dsimp only
   refine dG cD 8 kr<|mI 1 [] (mc 6 U I) U<|dS (SX (bQ U U) U U)<|dP 4 [0,1] (mr 5 U (mc 3 U I)) ?_
   have Bz:(List.map oC (gW (A::bb) (ln.ag.n+1)))[(b+1)]? =some (oC (some ga)):=rE (tg (i:=1) (by simpa using Z) (by simp; omega))
   refine dS (IA (b+1) U (ak (n:=(ln.ag.n+1)) 10 U sq) nU dc om om) ?_
   refine dS (gF (b+1) 0 (Value.map (some ga)) U cq (ak (n:=(gW (A::bb) (ln.ag.n+1)).length) 10 U sm) Bz U dc U)<|cO<|uO 0 U U oV U U fun AS=>?_
   try dsimp only
   refine RK BU<|aw ?_
   have C:(∀ p∈mb,p∈mb)∧(vC (cK ln ri e tms) b ([((aC.mk 0 0),ri.gi)]))∧(jA (cK ln ri e tms) b mb ([((aC.mk 0 0),ri.gi)]) mb):=by exact ⟨fun p hp=>hp,vC.start (by show b<e.length; omega),jA.start⟩
   refine v7 (ι:={z:FM×FM×(List Nat) // (∀ p∈z.1,p∈mb)∧(vC (cK ln ri e tms) b z.2.1)∧(jA (cK ln ri e tms) b mb z.2.1 z.1)}) (fun z=>z.1.2.2.map lq) (fun z=>[(0,(vP gw)),(1,(vP W)),(2,(vI (ln.ag.n:Int))),(12,(vP gq)),(171,(vP AS))]) (fun z=>[(yD eo AS ga (bM iV mb) (bM iV z.1.1) none),(bo (fz nK bs bb 0)),(gZ eo A (bM iV z.1.2.1)),(bZ gq 3 [(vI (b:Int))]),(bo (z.1.2.2.map lH)),(bZ gw 270 (ck.cells (ck.mk ln ri (aM.mk e_A e.length e_C) (aM.mk t_A tms.length t_C) (aM.mk fA (ln.ag.n+1) (ln.ag.n+1)) (aM.mk bA (ln.ag.n+1) (ln.ag.n+1))))).ro,(bZ W 259 [(vP gw)]),(rd e_A e.length 1 (e.map iC)).ro,(rd t_A tms.length 1 (List.zipWith gJ tms tb)).ro,(e7 (aU rl tms tb)).ro,(own bA (ln.ag.n+1) 274 1 (List.map oC (gW (A::bb) (ln.ag.n+1)))),(bo (aU nK fs fb)),(own fA (ln.ag.n+1) 274 1 (List.map oC (eC fb (ln.ag.n+1))))]) (fun z=>z.1.1.length) ⟨(mb,[((aC.mk 0 0),ri.gi)],q),C⟩ U (aQ U) (aK [0,1,2,3,4,5,6,7,8,9,10,11,12]) ?_
   clear C
   rintro ⟨⟨left,m,V⟩,⟨J,K,L⟩⟩ J80 BC
   try dsimp only at J K L
   try dsimp only
   refine WS fun _ AW=>rY oT.inj (f:=iV) 0 U U U U (fun BA=>?_) (fun t v hm A1=>?_)
   ·refine bg 1 U<|RK AW<|al fun _ CV=>aV U<|bB<|ae<|ae<|ax<|aD<|KK AV<|al fun _ BV=>WS fun _ BW=>fE 1 [] (mc 3 U I) U<|RK BW<|an<|AL U jd fun A6=>Gp U Be U U<|RK BV<|an<|rP 2 [] (mc 0 U I) ?_
    refine Gp U Be U U<|aH<|K1 (C':=[(bZ A6 3 [(vI ((b:Int)-1))]),(gZ eo ga (bM iV mb)),(bo (fz nK bs bb 0)),(gZ eo A (bM iV m)),(bZ gq 3 [(vI (b:Int))]),(bo (V.map lH)),(bZ gw 270 (ck.cells (ck.mk ln ri (aM.mk e_A e.length e_C) (aM.mk t_A tms.length t_C) (aM.mk fA (ln.ag.n+1) (ln.ag.n+1)) (aM.mk bA (ln.ag.n+1) (ln.ag.n+1))))).ro,(bZ W 259 [(vP gw)]),(rd e_A e.length 1 (e.map iC)).ro,(rd t_A tms.length 1 (List.zipWith gJ tms tb)).ro,(e7 (aU rl tms tb)).ro,(own bA (ln.ag.n+1) 274 1 (List.map oC (gW (A::bb) (ln.ag.n+1)))),(bo (aU nK fs fb)),(own fA (ln.ag.n+1) 274 1 (List.map oC (eC fb (ln.ag.n+1))))]) 1 U Jn U<|Jm 2 1 N Z U U U ?_
    try dsimp only
    rw [show (b:Int)-1=(ln.ag.n:Int)-(((j+1):Nat):Int) from by omega]
    refine zq (ms:=bs) (m:=m) (a:=A) 0 2 U U U ?_
    try dsimp only
    refine aR (AT ⟨((j+1),(m::bs),(A::bb),A6,V),⟨om,by simp; omega,by simp; omega,by exact g4.more (b:=b) E om om (by show b<e.length; omega) N K L BA⟩⟩ _ _ _ U os (aQ U) (aK [0,1,3,4,5,6,7,8,9,10,11]))
   try dsimp only
   refine bg 1 U<|RK AW<|al fun _ BX=>aP U<|WK BX<|aw<|WS fun _ BY=>rS (SX (sr 0 U U U) U U)<|bg 2 U<|AL U tp fun A7=>AL U jd fun A8=>tP U rD U<|Gp U Be U U<|RK BY<|WS fun _ BZ=>rP 2 [0,1] (mc 8 U (mc 5 U I)) ?_
   refine cX (uu gw b) (aL) U fun CQ CZ=>?_
   obtain ⟨AZ,Ac⟩:=CQ
   try dsimp only
   refine RK BZ<|aw<|kB 11 U (by exact fun _ h=>h)<|kB 13 U (by exact fun _ h=>h)<|kB 15 U (by exact fun _ h=>h)<|kB 12 U (by exact fun _ h=>h) ?_
   refine nz (L0:=[(0,(vP gw)),(1,(vP W)),(2,(vI (ln.ag.n:Int))),(12,(vP gq)),(13,(vP A7)),(14,(vP A8)),(171,(vP AS))]) (F:=[(rd e_A e.length 1 (e.map iC)).ro,(rd t_A tms.length 1 (List.zipWith gJ tms tb)).ro,(e7 (aU rl tms tb)).ro,(bZ gw 270 (ck.cells (ck.mk ln ri (aM.mk e_A e.length e_C) (aM.mk t_A tms.length t_C) (aM.mk fA (ln.ag.n+1) (ln.ag.n+1)) (aM.mk bA (ln.ag.n+1) (ln.ag.n+1))))).ro,(bZ AZ 259 [(vP gw)]),(bZ Ac 3 [(vI (b:Int))])]) (fun k (y:FM)=>(nm (cK ln ri e tms) b mb left y (t,v) k)) (fun k y=>[(bZ A8 3 [(vI v)]),(bZ A7 276 (aC.cells t)),(yD eo AS ga (bM iV mb) (bM iV (cf left t)) (some (t,(vI v)))),(bo (fz nK bs bb 0)),(gZ eo A (bM iV y)),(bZ gq 3 [(vI (b:Int))]),(bo (V.map lH)),(bZ gw 270 (ck.cells (ck.mk ln ri (aM.mk e_A e.length e_C) (aM.mk t_A tms.length t_C) (aM.mk fA (ln.ag.n+1) (ln.ag.n+1)) (aM.mk bA (ln.ag.n+1) (ln.ag.n+1))))).ro,(bZ W 259 [(vP gw)]),(rd e_A e.length 1 (e.map iC)).ro,(rd t_A tms.length 1 (List.zipWith gJ tms tb)).ro,(e7 (aU rl tms tb)).ro,(own bA (ln.ag.n+1) 274 1 (List.map oC (gW (A::bb) (ln.ag.n+1)))),(bo (aU nK fs fb)),(own fA (ln.ag.n+1) 274 1 (List.map oC (eC fb (ln.ag.n+1))))]) (fun _ (_:Unit)=>False) (fun _ _=>[]) [6,7,8,9,10,11,12,13,14,15,16,17,18,19,20] [3,2,1,0,4,5] m rfl rfl (sf ln ri e tms e_A e_C tb t_A t_C fA (ln.ag.n+1) (ln.ag.n+1) bA (ln.ag.n+1) (ln.ag.n+1) gw b AZ Ac om om) rfl rfl rfl (by exact nm.start K L) (by simp only [List.forall_mem_cons,List.not_mem_nil,false_imp_iff,implies_true,and_true]; exact ⟨⟨_,aX (i:=0) rfl,(dI (bT _))⟩,⟨_,aX (i:=1) rfl,(dI (bT _))⟩,⟨_,aX (i:=2) rfl,(dI (bT _))⟩,⟨_,aX (i:=3) rfl,(dI (bT _))⟩,⟨_,aX (i:=4) rfl,(bT _)⟩,⟨_,aX (i:=5) rfl,(bT _)⟩⟩) (by rintro k x k2 ⟨o,_,rfl,_⟩; rfl) rfl (aQ rfl) ?_ ?_ (fun _ _ _ h=>h.elim) (fun _ _ h=>h.elim)
   rotate_left 1
   ·rintro B2 k O AI AN
    have D:=AN
    try dsimp only
    refine aD<|aD<|JO (X:=V.map lH) 13 0 U U ?_
    try dsimp only
    refine fj 9 U xq U ?_
    refine aR (BC ⟨((cf left t),O,(B2::V)),⟨l9 J,D.on,D.next A1 hm AI⟩⟩ _ _ _ U (cW hm) (aQ U) (aK [9,10,11,12,0,4,14,1,2,3,18,19,20]))
   rintro k x k2 O l ra rb S w1 K95 Qr96 CG hx Au Ba A3 CO CS
   obtain ⟨o,ho,rfl,rfl⟩:=hx
   have D:=Au
   try dsimp only
   refine WS fun _ Bb=>rP 1 [] I ?_
   refine RK Bb<|an<|AL U dh fun Cc=>fQ U cu U<|aH<|jg (fun _ _ h=>h) (aK [1,0,2,3,4,5,6,7,8,9,10,11,12,13,14,15,16])<|aR (Ba _ _ ?_)
   refine aw<|al fun _ Af=>dR cD [16,18] [] [] [0,1,2,3,4,5,6,7,8,9,10,11,12,13,14,15,16] [] U U U U U<|eS U (EP 2 U cq U)<|eS U (FA 1 U fD U)<|eS U (L1 (vI o.2.Hi) 1 U cq U U) ?_
   have hp:=E.Ux (b:=b) om N (J _ hm)
   have B_:=JI hw hp
   have CE:=uD o.1
   have CF:=hw.opt ho
   dsimp only at B_
   refine eS U (MN U)<|eS U (EP 10 U cq U)<|eS U (SX (bQ U U) U U)<|eS U (FA 10 U fD U)<|eS U (HZ (vS e_A e.length e_C) 9 U cq U U)<|eS U (EP 7 U cq U) ?_
   obtain ⟨y,hy⟩:=aN e b om
   have A2:=bP iC hy
   refine eS U (IA b U (aF 11 U) cy dc om om)<|eS U (gF b 0 (vI y) U cq (aF 11 U) A2 U dc U) ?_
   have CB:=hw.least y (aX hy)
   refine eS U (BI U (rz ⟨om,om⟩))<|eS U (LW 3 U cq U U)<|eS U (MV U)<|eS U (CL (Ke o.1) (aL) U)<|eS U (CL (vQ t (fq o.1) om om) (aL) U)<|eS U (AG U)<|e8 U<|cp U fun T101 An=>AL U tp fun CT=>aH (An _ _ (aK [1,2,3,4,5,6,7,8,9,10,11,12,13,14,15,16,17]) ?_)
   refine cp U fun T103 Ao=>fQ U rD U<|aH (Ao _ _ (aK [1,2,3,4,5,6,7,8,9,10,11,12,13,14,15,16,17]) ?_)
   refine fO U<|KK Af<|al fun _ Ag=>dG cD 14 kr<|mI 1 [] (mc 11 U I) U<|dS (SX (bQ U U) U U)<|dP 3 [0,1] (mr 10 U (mc 8 U I)) ?_
   have Aw:(List.map oC (gW (A::bb) (ln.ag.n+1)))[b]? =some (oC (some A)):=rE (tg (i:=0) rfl (by simp; omega))
   refine dS (IA b U (ak (n:=(ln.ag.n+1)) 15 U sq) nU dc om om) ?_
   refine dS (gF b 0 (Value.map (some A)) U cq (ak (n:=(gW (A::bb) (ln.ag.n+1)).length) 15 U sm) Aw U dc U)<|mI 1 [] (mc 0 U I) U<|dS (SX (jX (kV:=eo) (x:=(dq t (fq o.1))) (l:=O) (f:=iV) (z:=0) U U U oV oT Vc (by exact aF 7 U)) U U)<|lB 5 U<|cO<|RK Ag<|WS fun _ Y=>fE 3 [0,1] (mc 3 U (mc 2 U I)) U<|rS (MN U)<|rP 4 [] (mc 2 U I) ?_
   refine cb (t:=217) U (aS fun T=>?_) (aT fun T=>?_)
   ·refine rP 8 [] I ?_
    refine RK Y<|aV U<|bY<|aD ?_
    exact A3 O _ _ (by exact D.skip (M5 T)) (aK [1,3,4,5,6,7,8,9,10,11,12,13,14,15,16,17])
   refine rP 3 [] I ?_
   refine db (t:=220) U (fun AM=>?_) (fun AM=>?_)
   ·rw [Bool.not_eq_true'] at AM
    refine bg 5 U<|RK Y<|aP U<|dG cD 9 kr<|mI 1 [] (mc 11 U I) U<|dS (SX (bQ U U) U U)<|dP 3 [0,1] (mr 10 U (mc 8 U I)) ?_
    have Ax:(List.map oC (gW (A::bb) (ln.ag.n+1)))[b]? =some (oC (some A)):=rE (tg (i:=0) rfl (by simp; omega))
    refine dS (IA b U (ak (n:=(ln.ag.n+1)) 15 U sq) nU dc om om) ?_
    refine dS (gF b 0 (Value.map (some A)) U cq (ak (n:=(gW (A::bb) (ln.ag.n+1)).length) 15 U sm) Ax U dc U)<|dP 2 [] (mc 0 U I) ?_
    refine cO<|iu (kV:=eo) (x:=(dq t (fq o.1))) (C':=[_,_,_,_,_,_,_,(gZ eo A (bM iV (dK O (dq t (fq o.1)) ((min v o.2.Hi)-y)))),_,_,_,_,_,_,_,_,_,_]) 7 U U U U oV oT U (gr _ _ _ _).symm U<|aH<|aD ?_
    exact A3 (dK O (dq t (fq o.1)) ((min v o.2.Hi)-y)) _ _ (by exact D.set (by show b<e.length; omega) hp ho (Al hy T) (.inl (by simpa using AM))) (aK [1,3,4,5,6,7,8,9,10,11,12,13,14,15,16,17])
   rw [Bool.not_eq_false'] at AM
   refine rP 5 [] I ?_
   refine RK Y<|bR U (aS fun AA=>?_) (aT fun AA=>?_)
   ·refine bY<|aD ?_
    exact A3 O _ _ (by exact D.oq (Al hy T) (by simpa using AM) AA) (aK [1,3,4,5,6,7,8,9,10,11,12,13,14,15,16,17])
   refine dG cD 9 kr<|mI 1 [] (mc 11 U I) U<|dS (SX (bQ U U) U U)<|dP 3 [0,1] (mr 10 U (mc 8 U I)) ?_
   have Ay:(List.map oC (gW (A::bb) (ln.ag.n+1)))[b]? =some (oC (some A)):=rE (tg (i:=0) rfl (by simp; omega))
   refine dS (IA b U (ak (n:=(ln.ag.n+1)) 15 U sq) nU dc om om) ?_
   refine dS (gF b 0 (Value.map (some A)) U cq (ak (n:=(gW (A::bb) (ln.ag.n+1)).length) 15 U sm) Ay U dc U)<|dP 2 [] (mc 0 U I) ?_
   refine cO<|iu (kV:=eo) (x:=(dq t (fq o.1))) (C':=[_,_,_,_,_,_,_,(gZ eo A (bM iV (dK O (dq t (fq o.1)) ((min v o.2.Hi)-y)))),_,_,_,_,_,_,_,_,_,_]) 7 U U U U oV oT U (gr _ _ _ _).symm U<|aH<|aD ?_
   exact A3 (dK O (dq t (fq o.1)) ((min v o.2.Hi)-y)) _ _ (by exact D.set (by show b<e.length; omega) hp ho (Al hy T) (.inr AA)) (aK [1,3,4,5,6,7,8,9,10,11,12,13,14,15,16,17])
  refine dR cD [4,11,12,14] [10] [0,1,2] [0,1,2,3,4,6] [0,1,2,3,4,5,6] U U U U U<|eS U (EP 1 U cq U)<|eS U (SX (bQ U U) U U)<|eS U (FA 12 U fD U)<|eS U (HZ (vS fA (ln.ag.n+1) (ln.ag.n+1)) 0 U cq U U)<|eS U (SX (bj (xs:=[]) (cs:=(aC.cells (aC.mk 0 0))) U U (bh Bd U)) U U)<|eS U (EP 1 U cq U)<|eS U (SX (bQ U U) U U)<|eS U (FA 7 U fD U)<|eS U (FA 7 U fD U)<|eS U (HZ (vI ri.Start) 0 U cq U U) ?_
  obtain ⟨x6,CH⟩:=aN (List.replicate (ln.ag.n+1) (none:Option Nat)) 0 om
  have hx7m:(List.map oC (List.replicate (ln.ag.n+1) (none:Option Nat)))[0]? =some (oC x6):=by rw [fB,CH]; rfl
  refine fS U (IA 0 U (ak (n:=(ln.ag.n+1)) 5 U sq) nU dc U om) ?_
  refine e8 U<|iE U fun T8 Aq=>mu (kV:=eo) U U fun r=>?_
  try dsimp only
  refine aH (Aq _ _ (aK [1,2,3,4,5,7]) (aK [1,2,3,4,5,6,7]) ?_)
  refine iE U fun T10 G=>?_
  have Bp:(dK ([]:List (aC×Int)) (aC.mk 0 0) ri.Start)=[((aC.mk 0 0),ri.Start)]:=by rfl
  refine yG (kV:=eo) (x:=(aC.mk 0 0)) (C':=[(gZ eo r (bM iV ([((aC.mk 0 0),ri.Start)]))),_,_,_,_,_,_,_]) 0 U U U U oV oT U ((gr _ _ _ _).symm.trans (congrArg _ Bp)) U<|aH (G _ _ (aK [1,2,3,4,5,7]) (aK [1,2,3,4,5,6,7]) ?_)
  refine iE U fun T12 Bc=>rS (MV U)<|aH (Bc _ _ (aK [1,2,3,4,5,7]) (aK [1,2,3,4,5,6,7]) ?_)
  refine cp U fun T13 Bf=>?_
  have Bq:((List.replicate (ln.ag.n+1) (none:Option Nat)).set 0 (some r))=(eC [r] (ln.ag.n+1)):=by rw [yK]; exact ug rfl sm
  refine eH (k:=0) (o:=0) (vs:=[(Value.map (some r))]) (es':=(List.map oC (eC [r] (ln.ag.n+1)))) (C':=[_,_,_,_,_,_,(own fA (ln.ag.n+1) 274 1 (List.map oC (eC [r] (ln.ag.n+1)))),_]) 6 U U U LU U U U U hx7m U dc (by exact (List.map_set (f:=oC) (l:=(List.replicate (ln.ag.n+1) (none:Option Nat))) (i:=0) (a:=(some r))).symm.trans (congrArg _ Bq)) U<|aH (Bf _ _ (aK [1,2,3,4,5,7]) ?_)
  refine fO U<|DU<|CY (X:=[]) (X':=aU nK [[((aC.mk 0 0),ri.Start)]] [r]) 0 1 U U U ?_
  try dsimp only
  refine aR (jg (aQ U) (aK [1,2,3,4,5,7,0,6]) (B9 ⟨r,trivial⟩))
 refine py cD [0,1,2,3,5,6,8,9,11,12] [4,7,10,13] [false,false,false,false,false,false,false,false,false,false] [] [(bZ W 259 [(vP gw)]),(rd e_A e.length 1 (e.map iC)).ro,(rd t_A tms.length 1 (List.zipWith gJ tms tb)).ro,(e7 (aU rl tms tb)).ro] [] kr (aK [0,2,3,4]) (aK [])<|eS U (EP 0 U cq U)<|eS U (EP 0 U cq U)<|eS U (MV U)<|eS U (BI U (ia ⟨om,om⟩))<|eS U (MV U)<|eS U (BI U (ia ⟨om,om⟩))<|eS U (SX (bQ U U) U U)<|eS U (FA 12 U fD U)<|eS U (SX (bQ U U) U U)<|eS U (FA 13 U fD U)<|e8 U<|iR [4,7] kr (eN ?_<|eN ?_<|kT)
 rotate_left 1
 ·refine NO U U [4,10,13] fun T5 Ap=>?_
  refine wo (n:=(ln.ag.n+1)) (es:=(List.map oC (List.replicate (ln.ag.n+1) (none:Option Nat)))) U U U AX om om (by simp only [maxLen]; omega) (by rw [List.map_replicate]; rfl) U fun b6=>?_
  try dsimp only
  refine aH (Ap _ _ (aK [1,3,4,5]) ?_)
  refine N1 4<|NO U U [10,13] fun T7 AH=>?_
  refine wo (n:=(ln.ag.n+1)) (es:=(List.map oC (List.replicate (ln.ag.n+1) (none:Option Nat)))) U U U AX om om (by simp only [maxLen]; omega) (by rw [List.map_replicate]; rfl) U fun b8=>?_
  try dsimp only
  refine aH (AH _ _ (aK [2,4,5,6]) ?_)
  refine N1 10<|NO U U [13] fun T9 Ar=>Rp (ck.cells (ck.mk ln ri (aM.mk e_A e.length e_C) (aM.mk t_A tms.length t_C) (aM.mk (some ⟨b8,0,none⟩) (ln.ag.n+1) (ln.ag.n+1)) (aM.mk none 0 0))) U yI U U<|aH (Ar _ _ (aK [2,4,5,6]) ?_)
  refine N1 13<|NO U U [] fun T10 G=>Rp (ck.cells (ck.mk ln ri (aM.mk e_A e.length e_C) (aM.mk t_A tms.length t_C) (aM.mk (some ⟨b8,0,none⟩) (ln.ag.n+1) (ln.ag.n+1)) (aM.mk (some ⟨b6,0,none⟩) (ln.ag.n+1) (ln.ag.n+1)))) U yI U U<|aH (G _ _ (aK [2,4,5,6]) ?_)
  refine pR ?_
  refine aR (jg (aQ U) (aK [2,4,5,6,0,1,3]) (Ai ⟨((some ⟨b8,0,none⟩),(some ⟨b6,0,none⟩)),trivial⟩))
 refine NO U U [7,10,13] fun T5 Ap=>?_
 refine wo (n:=(ln.ag.n+1)) (es:=(List.map oC (List.replicate (ln.ag.n+1) (none:Option Nat)))) U U U AX om om (by simp only [maxLen]; omega) (by rw [List.map_replicate]; rfl) U fun b6=>?_
 try dsimp only
 refine aH (Ap _ _ (aK [1,3,4,5]) ?_)
 refine iR [7,10] kr (eN ?_<|eN ?_<|kT)
 rotate_left 1
 ·refine NO U U [7,13] fun T7 AH=>Vm (ck.cells (ck.mk ln ri (aM.mk e_A e.length e_C) (aM.mk t_A tms.length t_C) (aM.mk (some ⟨b6,0,none⟩) (ln.ag.n+1) (ln.ag.n+1)) (aM.mk none 0 0))) U yI U U<|aH (AH _ _ (aK [1,3,4,5]) ?_)
  refine N1 7<|NO U U [13] fun T8 Aq=>?_
  refine wo (n:=(ln.ag.n+1)) (es:=(List.map oC (List.replicate (ln.ag.n+1) (none:Option Nat)))) U U U AX om om (by simp only [maxLen]; omega) (by rw [List.map_replicate]; rfl) U fun r=>?_
  try dsimp only
  refine aH (Aq _ _ (aK [2,4,5,6]) ?_)
  refine N1 13<|NO U U [] fun T10 G=>Rp (ck.cells (ck.mk ln ri (aM.mk e_A e.length e_C) (aM.mk t_A tms.length t_C) (aM.mk (some ⟨b6,0,none⟩) (ln.ag.n+1) (ln.ag.n+1)) (aM.mk (some ⟨r,0,none⟩) (ln.ag.n+1) (ln.ag.n+1)))) U yI U U<|aH (G _ _ (aK [2,4,5,6]) ?_)
  refine pR ?_
  refine aR (jg (aQ U) (aK [2,4,5,6,1,0,3]) (Ai ⟨((some ⟨b6,0,none⟩),(some ⟨r,0,none⟩)),trivial⟩))
 refine NO U U [10,13] fun T7 AH=>?_
 refine wo (n:=(ln.ag.n+1)) (es:=(List.map oC (List.replicate (ln.ag.n+1) (none:Option Nat)))) U U U AX om om (by simp only [maxLen]; omega) (by rw [List.map_replicate]; rfl) U fun b8=>?_
 try dsimp only
 refine aH (AH _ _ (aK [2,4,5,6]) ?_)
 refine N1 10<|NO U U [13] fun T9 Ar=>Rp (ck.cells (ck.mk ln ri (aM.mk e_A e.length e_C) (aM.mk t_A tms.length t_C) (aM.mk (some ⟨b6,0,none⟩) (ln.ag.n+1) (ln.ag.n+1)) (aM.mk none 0 0))) U yI U U<|aH (Ar _ _ (aK [2,4,5,6]) ?_)
 refine N1 13<|NO U U [] fun T10 G=>Rp (ck.cells (ck.mk ln ri (aM.mk e_A e.length e_C) (aM.mk t_A tms.length t_C) (aM.mk (some ⟨b6,0,none⟩) (ln.ag.n+1) (ln.ag.n+1)) (aM.mk (some ⟨b8,0,none⟩) (ln.ag.n+1) (ln.ag.n+1)))) U yI U U<|aH (G _ _ (aK [2,4,5,6]) ?_)
 refine pR ?_
 refine aR (jg (aQ U) (aK [2,4,5,6,1,0,3]) (Ai ⟨((some ⟨b6,0,none⟩),(some ⟨b8,0,none⟩)),trivial⟩))
end
section
open Go.RowKit
theorem DA (l:bf) (kA:OA) (kC:Nat) (az:List RA) (cA:OA) (cC:Nat) (bA:OA) (bC g1:Nat) (bm:Int) (g2:Nat) (hin:eE l az):
 ej Tryz.prog 198 [(vP g1),(vP g2)] [(rd kA l.aJ.length 9 (l.aJ.map ao.cells)),(rd cA l.ai.length 2 (List.zipWith au.cells l.ai az)),(e7 (aU au.gX l.ai az)),(rd bA l.ag.length 4 (l.ag.map bE.cells)),(bZ g1 28 (bK.cells (lp l kA kC cA cC bA bC))),(bZ g2 3 [(vI bm)])] (vI (jG l bm)):=by
 have K:=hin.sD
 have J:=hin.sG
 have H:=hin.oi
 have AA:=hin.sE
 refine bH kr Tryz.func198 U U fun L Q hQ hN=>?_
 try dsimp only
 refine WS fun _ B=>bg 1 U<|RK B<|al fun _ C=>WS fun _ D=>rP 5 [0,1] (mr 4 U (mr 5 U I)) ?_
 refine cU (xs:=[.tmp 7]) (cs:=[(vI bm)]) U cy jd U U U U (by simp [Value.cells]) U U fun G=>?_
 refine rS (CL (ej.eq (iO 0 ((l.ag.length:Int)-1) ([bm]) (some ⟨G,0,none⟩) 1 (by (simp; done))) cT) (ay (aY 0 U U (by simp [bJ]) U)<|aL) U) ?_
 refine rP 1 [] I ?_
 refine RK D<|cM U (bx fun A=>?_) (bw fun A=>?_)
 ·refine WS fun _ E=>rP 1 [] I ?_
  refine RK E<|ar<|Q1 hQ U U U ?_
  exact cI (if_neg om).symm
 refine WK C<|WS fun _ F=>rP 1 [] I ?_
 refine RK F<|ar<|Q1 hQ U U U ?_
 exact cI (if_pos om).symm
end
section
open Go.RowKit
theorem Mj (l:bf) (kA:OA) (kC:Nat) (az:List RA) (cA:OA) (cC:Nat) (bA:OA) (bC:Nat) (r:cE) (sgA:OA) (sgC:Nat) (f:Value) (X:av) (me:Int) (gm:Nat) (hf:DW Tryz.prog f [] [X] (.int .i64 me)) (hin:eE l az) (hsl:r.aj.length≤1000000):
 lu Tryz.prog 197 [(vA (bK.cells (lp l kA kC cA cC bA bC))),(vA (eL.cells (mA r sgA sgC))),(vS (some ⟨gm,0,none⟩) 1 1)] [(rd kA l.aJ.length 9 (l.aJ.map ao.cells)),(rd cA l.ai.length 2 (List.zipWith au.cells l.ai az)),(e7 (aU au.gX l.ai az)),(rd bA l.ag.length 4 (l.ag.map bE.cells)),(rd sgA r.aj.length 2 (r.aj.map aO.cells)),X,(bZ gm 262 [f])] (fun (x:Bool×Int×Nat×(OA)×Nat×(OA)×Nat×(List Nat)×(List FM)×(List Nat)×(OA)×Nat×(List FM)×(List Nat)×(OA)×Nat)=>bif x.1 then (vT [(Value.pointer (some ⟨x.2.2.1,0,none⟩)),(vI 0)]) else (vT [(Value.pointer none),(vI x.2.1)])) (fun (x:Bool×Int×Nat×(OA)×Nat×(OA)×Nat×(List Nat)×(List FM)×(List Nat)×(OA)×Nat×(List FM)×(List Nat)×(OA)×Nat)=>(x.1=true→(eG l r me=0∧wL (ct l r) x.2.2.2.2.2.2.2.2.1∧uv (ct l r) x.2.2.2.2.2.2.2.2.2.2.2.2.1∧x.2.2.2.2.2.2.2.2.2.1.length=x.2.2.2.2.2.2.2.2.1.length∧x.2.2.2.2.2.2.2.2.2.2.2.2.2.1.length=x.2.2.2.2.2.2.2.2.2.2.2.2.1.length∧x.2.2.2.2.2.2.2.1.length=(ei l r.aj r.aj.length).length))∧(x.1=false→(x.2.1=eG l r me∧ ¬ eG l r me=0))) (fun (x:Bool×Int×Nat×(OA)×Nat×(OA)×Nat×(List Nat)×(List FM)×(List Nat)×(OA)×Nat×(List FM)×(List Nat)×(OA)×Nat)=>bif x.1 then [(bZ x.2.2.1 270 (ck.cells (ck.mk (lp l kA kC cA cC bA bC) (mA r sgA sgC) (aM.mk x.2.2.2.1 ((cL l l.ag.length).length) x.2.2.2.2.1) (aM.mk x.2.2.2.2.2.1 ((ei l r.aj r.aj.length).length) x.2.2.2.2.2.2.1) (aM.mk x.2.2.2.2.2.2.2.2.2.2.1 x.2.2.2.2.2.2.2.2.1.length x.2.2.2.2.2.2.2.2.2.2.2.1) (aM.mk x.2.2.2.2.2.2.2.2.2.2.2.2.2.2.1 x.2.2.2.2.2.2.2.2.2.2.2.2.1.length x.2.2.2.2.2.2.2.2.2.2.2.2.2.2.2)))),(own x.2.2.2.1 x.2.2.2.2.1 3 1 ((cL l l.ag.length).map iC)),(own x.2.2.2.2.2.1 x.2.2.2.2.2.2.1 58 1 (List.zipWith gJ (ei l r.aj r.aj.length) x.2.2.2.2.2.2.2.1)),(bo (aU rl (ei l r.aj r.aj.length) x.2.2.2.2.2.2.2.1)),(own x.2.2.2.2.2.2.2.2.2.2.1 x.2.2.2.2.2.2.2.2.2.2.2.1 274 1 (List.zipWith gJ x.2.2.2.2.2.2.2.2.1 x.2.2.2.2.2.2.2.2.2.1)),(bo (aU nK x.2.2.2.2.2.2.2.2.1 x.2.2.2.2.2.2.2.2.2.1)),(own x.2.2.2.2.2.2.2.2.2.2.2.2.2.2.1 x.2.2.2.2.2.2.2.2.2.2.2.2.2.2.2 274 1 (List.zipWith gJ x.2.2.2.2.2.2.2.2.2.2.2.2.1 x.2.2.2.2.2.2.2.2.2.2.2.2.2.1)),(bo (aU nK x.2.2.2.2.2.2.2.2.2.2.2.2.1 x.2.2.2.2.2.2.2.2.2.2.2.2.2.1))] else []):=by
 have B3:=hin.sD
 have B1:=hin.sG
 have Bz:=hin.oi
 have B0:=hin.sE
 have B2:=hin.side
 refine du kr Tryz.func197 U U fun w0 Q hQ hN=>?_
 try dsimp only
 refine WS fun _ Bb=>fV U fun b2=>fV U fun b3=>bg 2 U<|RK Bb<|al fun _ Bc=>WS fun _ Bd=>fE 1 [] (mc 1 U I) U<|rS (CL (Cl l kA kC az cA cC bA bC hin) (bp [2,3,4,5]) U)<|bg 1 U<|RK Bd<|WS fun _ Be=>rP 2 [] I ?_
 refine RK Be<|cM U (bx fun h=>?_) (bw fun h=>?_)
 ·refine WS fun _ Bf=>rP 3 [] I ?_
  refine RK Bf<|ar<|LX hQ (false,(dw l),0,none,0,none,0,[],[],[],none,0,[],[],none,0) [] [] I U (by rfl) U U ?_
  exact rp<|K3 (nV (r:=r) (me:=me) h) h
 refine WK Bc<|al fun _ Bg=>WS fun _ AB=>?_
 have C:dw l=0:=h
 obtain ⟨BL,d⟩:=gK C
 have Bi:=d.head
 unfold gn at Bi
 refine rP 2 [] (mc 0 U I) ?_
 refine cU (xs:=[.tmp 24]) (cs:=[(vI r.Start)]) U cy jd U U U U (by simp [Value.cells]) U U fun BR=>?_
 refine rS (CL (ej.eq (iO 0 86400000 ([r.Start]) (some ⟨BR,0,none⟩) 1 (by (simp; done))) cT) (ay (aY 0 U U (by simp [bJ]) U)<|aL) U) ?_
 refine rP 2 [] I ?_
 refine db (t:=28) U (bx fun BV=>?_) (bw fun BV=>?_)
 ·refine bg 14 U<|RK AB<|aP U<|WS fun _ AM=>rP 2 [] I ?_
  refine RK AM<|ar<|LX hQ (false,51,0,none,0,none,0,[],[],[],none,0,[],[],none,0) [] [] I U (by rfl) U U ?_
  exact rp<|pM (jf (me:=me) C (fun q:fm l r=>by have q1:=q.time; have q2:=q.len; omega))
 refine rP 4 [] (mc 1 U I) ?_
 refine cU (xs:=[.tmp 32]) (cs:=[(vI r.gi)]) U cy jd U U U U (by simp [Value.cells]) U U fun BS=>?_
 refine rS (CL (ej.eq (iO r.Start 86400000 ([r.gi]) (some ⟨BS,0,none⟩) 1 (by (simp; done))) cT) (ay (aY 0 U U (by simp [bJ]) U)<|aL) U) ?_
 refine rP 3 [] I ?_
 refine db (t:=37) U (bx fun BX=>?_) (bw fun BX=>?_)
 ·refine bg 5 U<|RK AB<|aP U<|WS fun _ AN=>rP 2 [] I ?_
  refine RK AN<|ar<|LX hQ (false,51,0,none,0,none,0,[],[],[],none,0,[],[],none,0) [] [] I U (by rfl) U U ?_
  exact rp<|pM (jf (me:=me) C (fun q:fm l r=>by have q1:=q.time; have q2:=q.len; omega))
 refine rP 5 [] (mc 2 U I) ?_
 refine RK AB<|cM U (aT fun BY=>?_) (aS fun BY=>?_)
 ·refine WS fun _ AO=>rP 2 [] I ?_
  refine RK AO<|ar<|LX hQ (false,51,0,none,0,none,0,[],[],[],none,0,[],[],none,0) [] [] I U (by rfl) U U ?_
  exact rp<|pM (jf (me:=me) C (fun q:fm l r=>by have q1:=q.time; have q2:=q.len; omega))
 refine WK Bg<|WS fun _ AP=>rS (SX (bj (xs:=[(0,.const (vI (-1)))]) (cs:=(aO.cells (aO.mk (-1) 0))) U U (bh EY U)) U U)<|AL U FN fun V=>fQ U wK U<|RK AP<|al fun _ AQ=>dR cD [5,6,7,8] [] [] [0,1,2,3,4,5,6,7,8,9,10,11] [] U U U U U<|eS U (LW 4 U cq U U)<|eS U (LW 3 U cq U U)<|eS U (FA 3 U fD U)<|eS U (L1 (vS bA l.ag.length bC) 4 U cq U U)<|eS U (LN U P1)<|e8 U<|cp U fun T18 Az=>?_
 refine wo (n:=l.ag.length) (es:=(List.map oC (List.replicate l.ag.length (none:Option Nat)))) U U U Rh om om (by simp only [maxLen]; omega) (by rw [List.map_replicate]; rfl) U fun B=>?_
 try dsimp only
 refine aH (Az _ _ (aK [1,2,3,4,5,6,7,8,9,10,11,12]) ?_)
 refine cp U fun T20 A0=>rS (SX (bj (xs:=[(0,.tmp 44),(1,.tmp 45),(3,.tmp 49)]) (cs:=(ck.cells (ck.mk (lp l kA kC cA cC bA bC) (mA r sgA sgC) (aM.mk none 0 0) (aM.mk (some ⟨B,0,none⟩) l.ag.length l.ag.length) (aM.mk none 0 0) (aM.mk none 0 0)))) U U (bh R_ U)) U U)<|aH (A0 _ _ (aK [1,2,3,4,5,6,7,8,9,10,11,12]) ?_)
 refine cp U fun T21 A1=>fV U fun Bu=>aH (A1 _ _ (aK [2,3,4,5,6,7,8,9,10,11,12,13]) ?_)
 refine cp U fun T23 A2=>rS (AG U)<|aH (A2 _ _ (aK [2,3,4,5,6,7,8,9,10,11,12,13]) ?_)
 refine fO U<|KK AQ<|al fun _ AR=>WS fun _ AS=>rP 4 [] (mc 6 U I) ?_
 refine RK AS<|aw ?_
 rw [yK]
 refine fY 3 1<|ov ?_
 have E:(0≤l.ag.length)∧(([]:List Nat).length=0):=by exact ⟨Nat.zero_le _,rfl⟩
 refine bO (ι:={z:Nat×(OA)×Nat×(List Nat) // (z.1≤l.ag.length)∧(z.2.2.2.length=z.1)}) [2,3,4,6,7,9,10,54] [4,7,8,9,10,11,12,13,14,15] U U (fun z=>[(55,(vI (z.1.1:Int)))]) (fun z=>[(bo (aU rl (List.replicate z.1.1 ([]:TM)) z.1.2.2.2)),(own z.1.2.1 z.1.2.2.1 3 1 ((cL l z.1.1).map iC)),(bZ Bu 270 (ck.cells (ck.mk (lp l kA kC cA cC bA bC) (mA r sgA sgC) (aM.mk z.1.2.1 ((cL l z.1.1).length) z.1.2.2.1) (aM.mk (some ⟨B,0,none⟩) l.ag.length l.ag.length) (aM.mk none 0 0) (aM.mk none 0 0)))),(own (some ⟨B,0,none⟩) l.ag.length 58 1 (List.map oC (eC z.1.2.2.2 l.ag.length)))]) (fun _=>rfl) (fun _=>rfl) (fun z=>l.ag.length-z.1.1) ⟨(0,none,0,([]:List Nat)),E⟩ (aQ U) (aK [4,7,8,9,10,11,12,13,14,15,0,1,2,3]) ?_
 clear E
 rintro ⟨⟨b,a,c,fb⟩,⟨AC,Y⟩⟩ J26 AK
 try dsimp only at AC Y
 try dsimp only
 have Bj:(eC fb l.ag.length).length=l.ag.length:=qH om
 refine WS fun _ AT=>rP 1 [] I ?_
 refine RK AT<|al fun _ AU=>cM U (aT fun BW=>?_) (aS fun BW=>?_)
 ·refine WK AU<|al fun _ AV=>aw<|WS fun _ AX=>rP 2 [] I ?_
  refine RK AX<|al fun _ AY=>dR cD [12,13,16] [4] [0] [0,1,2,3,4,5,6,7,8,9,10,13] [0,1,2,3,4,5,6,7,8,9,10,11,12,13] U U U U U<|eS U (MV U)<|eS U (MV U)<|eS U (SX (bQ U U) U U)<|eS U (FA 10 U fD U)<|fS U (L1 (vS a ((cL l b).length) c) 12 U cq U U)<|eS U (LW 2 U cq U U)<|eS U (MV U)<|eS U (CL (OR l kA kC az cA cC bA bC (b:Int) hin asm (by exact d.vD) om) (bp [3,4,5,6]) U) ?_
  have B4:=FL BL d.vD b
  have B5:=d.QQ b om
  simp only [Int.toNat_natCast]
  refine eS U (BI U (F8 ⟨om,om⟩))<|eS U (FA 1 U fD U)<|eS U (L1 (vI l.dM) 2 U cq U U) ?_
  refine eS U (CL (O7 (1000*(lV l (b:Int).toNat)) l.dM om (by (simp; omega))) (aL) U) ?_
  refine eS U (SX (bQ U U) U U)<|eS U (FA 10 U fD U)<|e8 U<|iE U fun T33 A3=>cU (xs:=[.tmp 69]) (cs:=[(vI (o5 (1000*(lV l (b:Int).toNat)) l.dM))]) U cy jd U U U U (by simp [Value.cells]) U U fun Bv=>aH (A3 _ _ (aK [1,2,3,4,5,6,7,8,9,10,11,14]) (aK [1,2,3,4,5,6,7,8,9,10,11,12,13,14]) ?_)
  refine cp U fun T35 A4=>?_
  refine c_ (es2:=(List.map iC (cL l (b+1)))) (m':=(cL l (b+1)).length) 12 U U U ph U U (by simp [ep]) (aY (es:=List.map iC [(o5 (1000*(lV l (b:Int).toNat)) l.dM)]) 0 U U (by simp [bJ]) U) (j2 _) (by have:=ep (l:=l) (n:=b); first|omega|(simp; omega)) (by simp only [maxLen,ep]; omega) (by rw [uR]; simp [eg]) (by simp [ep]) U fun e g=>?_
  try dsimp only
  refine aH (A4 _ _ (aK [1,2,3,4,5,6,7,8,9,10,11,14]) ?_)
  refine cp U fun T38 A5=>ji (vs:=[(vS e ((cL l (b+1)).length) g)]) (cs':=(ck.cells (ck.mk (lp l kA kC cA cC bA bC) (mA r sgA sgC) (aM.mk e ((cL l (b+1)).length) g) (aM.mk (some ⟨B,0,none⟩) l.ag.length l.ag.length) (aM.mk none 0 0) (aM.mk none 0 0)))) (C':=[_,_,_,_,_,_,_,_,_,_,_,_,_,(bZ Bu 270 (ck.cells (ck.mk (lp l kA kC cA cC bA bC) (mA r sgA sgC) (aM.mk e ((cL l (b+1)).length) g) (aM.mk (some ⟨B,0,none⟩) l.ag.length l.ag.length) (aM.mk none 0 0) (aM.mk none 0 0)))),_]) 13 U U U Ak U U U U U U U<|aH (A5 _ _ (aK [1,2,3,4,5,6,7,8,9,10,11,14]) ?_)
  refine fO U<|KK AY<|an<|bg 1 U<|rS (SX (bQ U U) U U)<|rP 3 [] (mc 13 U I) ?_
  refine mu (kV:=iV) U U fun J=>?_
  try dsimp only
  obtain ⟨Bn,BN⟩:=aN (eC fb l.ag.length) b om
  have hx41m:(List.map oC (eC fb l.ag.length))[b]? =some (oC Bn):=by rw [fB,BN]; rfl
  refine rS (IA b U (ak (n:=l.ag.length) 15 U sq) Fx dc om om) ?_
  have A6:((eC fb l.ag.length).set b (some J))=(eC (fb++[J]) l.ag.length):=by exact ug om om
  refine eH (k:=b) (o:=0) (vs:=[(Value.map (some J))]) (es':=(List.map oC (eC (fb++[J]) l.ag.length))) (C':=[_,_,_,_,_,_,_,_,_,_,_,_,_,_,_,(own (some ⟨B,0,none⟩) l.ag.length 58 1 (List.map oC (eC (fb++[J]) l.ag.length)))]) 15 U U U NW U U U U hx41m U dc (by exact (List.map_set (f:=oC) (l:=(eC fb l.ag.length)) (i:=b) (a:=(some J))).symm.trans (congrArg _ A6)) U<|aH<|aD<|KK AV<|an<|rP 2 [] I ?_
  refine aH<|CY (X':=aU rl (List.replicate (b+1) ([]:TM)) (fb++[J])) 12 0 U U (Mx Y) ?_
  try dsimp only
  have A7:(vI (((b+1):Nat):Int))=(vI ((b:Int)+1)):=by exact cI om
  refine aR (AK ⟨((b+1),e,g,(fb++[J])),⟨om,by simp; omega⟩⟩ _ _ _ U os (cN 8<|bk U A7<|dx.nil _) (aK [2,3,4,5,6,7,8,9,10,11,0,12,13,14]))
 refine bB<|ae<|ae<|ax<|KK AR<|al fun _ AZ=>WS fun _ Aa=>rP 4 [] (mc 1 U I) ?_
 refine RK Aa<|aw ?_
 rw [show (List.replicate b ([]:TM))=ei l r.aj 0 from by rw [DS,show b=l.ag.length by omega]]
 rw [show cL l b=cL l l.ag.length from by rw [show b=l.ag.length by omega]]
 have E:(0≤r.aj.length)∧(p9 l r.aj 0):=by exact ⟨Nat.zero_le _,zg⟩
 refine bO (ι:={z:Nat // (z≤r.aj.length)∧(p9 l r.aj z)}) [2,3,4,6,7,9,10,83,84] [1,2,3,4,5,6,7,8,9,11,12,13] U U (fun z=>[(85,(vI (z.1:Int)))]) (fun z=>[(bZ V 131 (aO.cells (mH r.aj z.1))),(bo (aU rl (ei l r.aj z.1) fb))]) (fun _=>rfl) (fun _=>rfl) (fun z=>r.aj.length-z.1) ⟨0,E⟩ (aQ U) (aK [1,2,3,4,5,6,7,8,9,11,12,13,0,10]) ?_
 clear E
 rintro ⟨i,⟨BQ,A⟩⟩ J46 T
 try dsimp only
 have Bk:(ei l r.aj i).length=l.ag.length:=jh
 have Bj:(eC fb l.ag.length).length=l.ag.length:=qH om
 refine WS fun _ Ab=>rP 1 [] I ?_
 refine RK Ab<|al fun _ Ac=>bR U (aS fun BZ=>?_) (aT fun BZ=>?_)
 ·refine bB<|ae<|ae<|ax<|KK AZ<|al fun _ An=>al fun _ Ao=>?_
  have j:fm l r:=AW om om A om
  refine an<|bg 3 U<|RK Ao<|aw<|jR 2<|ew fun R81 Ay=>WS fun _ Ap=>rS (SX (b_ (r:= .bool true) U U U gS) U U)<|RK Ap<|al fun _ Aq=>aP U<|WK Aq<|al fun _ Ar=>aw<|WS fun _ As=>rS (Ts 0 0 U O6 U dc U)<|fE 2 [] (mr 8 U I) U<|RK As<|WS fun _ At=>bg 1 U<|rS (SX (sk U U U (hf) (bp [7])) U U)<|bg 1 U<|RK At<|WS fun _ Au=>rP 2 [] I ?_
  refine RK Au<|cM U (bx fun K=>?_) (bw fun K=>?_)
  ·refine WS fun _ Av=>rP 3 [] I ?_
   refine RK Av<|ar<|LX hQ (false,me,0,none,0,none,0,[],[],[],none,0,[],[],none,0) [] [] I U (by rfl) U U ?_
   exact rp<|K3 (qa C j K) K
  refine bY<|aD<|KK Ar<|an<|rS (SX (b_ (r:= .int .i64 1) U U U (ia ⟨dc,dc⟩)) U U)<|rP 1 [] I ?_
  refine RK Ay<|ew fun R89 Br=>WS fun _ Aw=>rS (SX (b_ (r:= .bool false) U U U gS) U U)<|RK Aw<|al fun _ Bq=>aV U<|bB<|ae<|ae<|ax<|KK An<|al fun _ Ax=>?_
  rw [show ei l r.aj i=ei l r.aj r.aj.length from by rw [show i=r.aj.length by omega]]
  have AE:(ei l r.aj r.aj.length).length=l.ag.length:=jh
  rw [show (List.map oC (eC fb l.ag.length))=(List.zipWith gJ (ei l r.aj r.aj.length) fb) from TO om AE]
  rw [show (bZ Bu 270 (ck.cells (ck.mk (lp l kA kC cA cC bA bC) (mA r sgA sgC) (aM.mk a ((cL l l.ag.length).length) c) (aM.mk (some ⟨B,0,none⟩) l.ag.length l.ag.length) (aM.mk none 0 0) (aM.mk none 0 0))))=(bZ Bu 270 (ck.cells (ck.mk (lp l kA kC cA cC bA bC) (mA r sgA sgC) (aM.mk a ((cL l l.ag.length).length) c) (aM.mk (some ⟨B,0,none⟩) ((ei l r.aj r.aj.length).length) l.ag.length) (aM.mk none 0 0) (aM.mk none 0 0)))) from by rw [AE]]
  have BM:=oN BL d j
  have Bs:(cL l l.ag.length).length=l.ag.length:=ep
  refine an<|rP 1 [] I ?_
  refine iQ 10 U U U U (LH (lp l kA kC cA cC bA bC) (mA r sgA sgC) (cL l l.ag.length) (ei l r.aj r.aj.length) a c fb (some ⟨B,0,none⟩) l.ag.length Bu (by exact BM) (by exact ep.symm) (by rw [AE]; omega)) U (eh 9 U U (j6 sm) (eh 11 U U (j6 (by rw [List.length_zipWith]; omega)) (eh 13 U U th ki))) U (fun BO Bh=>?_)
  obtain ⟨G,S,P,R,F,O,N,H⟩:=BO
  refine N4 (X:=[(bZ Bu 270 (ck.cells (ck.mk (lp l kA kC cA cC bA bC) (mA r sgA sgC) (aM.mk a ((cL l l.ag.length).length) c) (aM.mk (some ⟨B,0,none⟩) ((ei l r.aj r.aj.length).length) l.ag.length) (aM.mk P G.length R) (aM.mk N F.length H)))),(own P R 274 1 (List.zipWith gJ G S)),(bo (aU nK G S)),(own N H 274 1 (List.zipWith gJ F O)),(bo (aU nK F O))]) 10 U U ?_
  try dsimp only
  obtain ⟨AD,BH,BJ,BK⟩:=Bh
  dsimp only at AD BH BJ BK
  refine RK Ax<|al fun _ v=>WS fun _ w=>rP 1 [] I ?_
  refine cX (GB (lp l kA kC cA cC bA bC) (mA r sgA sgC) (cL l l.ag.length) (ei l r.aj r.aj.length) a c fb (some ⟨B,0,none⟩) l.ag.length G F S P R O N H Bu (by exact BM) (by (simp; omega)) (by exact ep.symm) (by exact AD) asm) (ay (ak (n:=(cL l l.ag.length).length) 14 U sm)<|ay (ak (n:=(ei l r.aj r.aj.length).length) 15 U (by rw [List.length_zipWith]; omega))<|ay (dW 17 U xG)<|ay (ak (n:=G.length) 1 U (by rw [List.length_zipWith]; omega))<|ay (dW 2 U xG)<|ay (ak (n:=F.length) 3 U (by rw [List.length_zipWith]; omega))<|ay (dW 4 U xG)<|fH 0 U U<|aL) U fun BP Bm=>?_
  obtain ⟨Bo,Bp⟩:=BP
  try dsimp only
  refine rP 2 [] I ?_
  refine RK w<|bR U (aS fun W=>?_) (aT fun W=>?_)
  ·refine WK v<|WS fun _ AA=>rP 3 [] I ?_
   refine RK AA<|ar ?_
   refine LX hQ (true,0,Bu,a,c,(some ⟨B,0,none⟩),l.ag.length,fb,G,S,P,R,F,O,N,H) [1,15,16,18,2,3,4,5] [] I U (by (show List.all _ _=true; simp only [cond_true,fJ,List.all_nil,Iw,RZ,Bool.and_true]; rfl)) U U ?_
   exact ⟨fun _=>⟨lG C j (by first|rfl|exact K) (fun q=>W (congrArg (fun z:List Int=>(z.length:Int)) q)),AD,BH,BJ,BK,dso⟩,MR⟩
  refine WS fun _ y=>rP 2 [] I ?_
  refine RK y<|ar<|LX hQ (false,8,0,none,0,none,0,[],[],[],none,0,[],[],none,0) [] [] I U (by rfl) U U ?_
  exact rp<|pM (pq (me:=me) C j (by first|rfl|exact K) (show jC (ct l r)=[] from jH (Int.natCast_eq_zero.1 W)))
 refine WK Ac<|al fun _ Bt=>aw<|WS fun _ Ad=>rP 1 [] I ?_
 obtain ⟨x,hx⟩:=aN r.aj i om
 have Bl:=bP aO.cells hx
 refine rS (IA i U (aF 6 U) zN dc om om)<|rS (oB i 0 (aO.cells x) U cq (aF 6 U) Bl U dc U U)<|AL U FN fun Bw=>bg 1 U<|fQ U wK U<|RK Ad<|al fun _ p=>WS fun _ L=>rP 6 [0,1] (mc 2 U (mc 0 U I)) ?_
 refine cU (xs:=[.tmp 95]) (cs:=[(vI x.gj)]) U cy jd U U U U (by simp [Value.cells]) U U fun BT=>?_
 refine rS (CL (ej.eq (iO 0 ((l.ag.length:Int)-1) ([x.gj]) (some ⟨BT,0,none⟩) 1 (by (simp; done))) cT) (ay (aY 0 U U (by simp [bJ]) U)<|aL) U) ?_
 refine rP 2 [] I ?_
 refine db (t:=99) U (bx fun Ba=>?_) (bw fun Ba=>?_)
 ·refine bg 27 U<|RK L<|aP U<|WS fun _ Ae=>rP 2 [] I ?_
  refine RK Ae<|ar<|LX hQ (false,51,0,none,0,none,0,[],[],[],none,0,[],[],none,0) [] [] I U (by rfl) U U ?_
  exact rp<|pM (jf (me:=me) C (vK hx (by unfold kb kX; omega)))
 refine rP 2 [] (mc 1 U I) ?_
 refine cU (xs:=[.tmp 101]) (cs:=[(vI x.Read)]) U cy jd U U U U (by simp [Value.cells]) U U fun BU=>?_
 refine rS (CL (ej.eq (iO 0 86400000 ([x.Read]) (some ⟨BU,0,none⟩) 1 (by (simp; done))) cT) (ay (aY 0 U U (by simp [bJ]) U)<|aL) U) ?_
 refine rP 3 [] I ?_
 refine db (t:=106) U (bx fun AF=>?_) (bw fun AF=>?_)
 ·refine bg 20 U<|RK L<|aP U<|WS fun _ Af=>rP 2 [] I ?_
  refine RK Af<|ar<|LX hQ (false,51,0,none,0,none,0,[],[],[],none,0,[],[],none,0) [] [] I U (by rfl) U U ?_
  exact rp<|pM (jf (me:=me) C (vK hx (by unfold kb kX; omega)))
 refine rP 7 [0,1] (mc 2 U (mc 15 U I)) ?_
 refine db (t:=113) U (aT fun AH=>?_) (aS fun AH=>?_)
 ·refine bg 13 U<|RK L<|aP U<|WS fun _ Ag=>rP 2 [] I ?_
  refine RK Ag<|ar<|LX hQ (false,51,0,none,0,none,0,[],[],[],none,0,[],[],none,0) [] [] I U (by rfl) U U ?_
  exact rp<|pM (jf (me:=me) C (vK hx (by unfold kb kX; omega)))
 refine rP 6 [0,1] (mc 2 U (mc 15 U I)) ?_
 refine cb (t:=119) U (aS fun AI=>?_) (aT fun AI=>?_)
 ·refine bg 7 U<|RK L<|aV U<|WK p<|al fun _ u=>WS fun _ Al=>fE 2 [0,1] (mc 4 U (mc 2 U I)) U<|rS (CL (IY l kA kC az cA cC bA bC x hin asm om) (bp [5,6,7,8]) U)<|AL U dh fun By=>fQ U cu U<|RK Al<|WS fun _ Am=>rP 5 [] (mc 0 U I) ?_
  refine RK Am<|bR U (aS fun D=>?_) (aT fun D=>?_)
  ·refine WK u<|an<|rP 1 [] (mc 3 U I) ?_
   refine ji (vs:=(aO.cells x)) (cs':=(aO.cells x)) (C':=[_,_,_,_,_,_,_,_,_,_,_,_,_,_,_,_,(bZ V 131 (aO.cells x)),_]) 16 U U U wK U U U U U U U<|aH<|aD<|KK Bt ?_
   have BD:(aO.cells x)=(aO.cells (mH r.aj (i+1))):=by rw [pE hx]
   rw [BD]
   refine an<|rP 2 [] I ?_
   refine aH ?_
   rw [show (ei l r.aj i)=(ei l r.aj (i+1)) from (w7 hx D).symm]
   have BE:(vI (((i+1):Nat):Int))=(vI ((i:Int)+1)):=by exact cI om
   refine aR (T ⟨(i+1),⟨om,lJ A hx (by unfold kb kX; omega)⟩⟩ _ _ _ U os (cN 9<|bk U BE<|dx.nil _) (aK [4,5,6,7,8,9,10,11,12,13,14,15,16,17]))
  obtain ⟨mb,Z⟩:=aN (ei l r.aj i) ((x.gj).toNat) om
  obtain ⟨ga,M⟩:=aN fb ((x.gj).toNat) om
  refine FC 17 Z M U U U ?_
  try dsimp only
  refine dG cD 10 kr<|lB 1 U<|dS (SX (bQ U U) U U)<|dP 4 [0,1] (mc 16 U (mc 5 U I)) ?_
  have BG:(List.map oC (eC fb l.ag.length))[(x.gj).toNat]? =some (oC (some ga)):=rE (oH M)
  refine dS (IA ((x.gj).toNat) U (ak (n:=l.ag.length) 17 U sq) Fx dc om om) ?_
  refine dS (gF ((x.gj).toNat) 0 (Value.map (some ga)) U cq (ak (n:=(eC fb l.ag.length).length) 17 U sm) BG U dc U)<|mI 2 [] (mc 2 U I) U<|cO<|iu (kV:=iV) (x:=(i:Int)) (C':=[(gZ iV ga (bM df (dK mb (i:Int) (cH l x)))),_,_,_,_,_,_,_,_,_,_,_,_,_,_,_,_,_,_]) 0 U U U U lI (dB n9) U (gr _ _ _ _).symm U<|RK u<|an<|rP 1 [] (mc 5 U I) ?_
  refine ji (vs:=(aO.cells x)) (cs':=(aO.cells x)) (C':=[_,_,_,_,_,_,_,_,_,_,_,_,_,_,_,_,_,_,(bZ V 131 (aO.cells x))]) 18 U U U wK U U U U U U U<|aH<|aD<|KK Bt ?_
  have BB:(aO.cells x)=(aO.cells (mH r.aj (i+1))):=by rw [pE hx]
  rw [BB]
  refine an<|rP 2 [] I ?_
  refine aH ?_
  refine Kq (f:=rl) (ms:=(ei l r.aj i)) (m:=(dK mb (i:Int) (cH l x))) 1 0 (by rw [jh]; omega) M U U U ?_
  rw [yC hx om D Z]
  have BC:(vI (((i+1):Nat):Int))=(vI ((i:Int)+1)):=by exact cI om
  refine aR (T ⟨(i+1),⟨om,lJ A hx (by unfold kb kX; omega)⟩⟩ _ _ _ U os (cN 9<|bk U BC<|dx.nil _) (aK [5,6,7,8,9,10,11,12,13,14,15,16,17,0]))
 refine rP 7 [0,1] (mc 2 U (mc 15 U I)) ?_
 refine RK L<|cM U (aT fun AJ=>?_) (aS fun AJ=>?_)
 ·refine WS fun _ Ah=>rP 2 [] I ?_
  refine RK Ah<|ar<|LX hQ (false,51,0,none,0,none,0,[],[],[],none,0,[],[],none,0) [] [] I U (by rfl) U U ?_
  exact rp<|pM (jf (me:=me) C (vK hx (by unfold kb kX; omega)))
 refine WK p<|al fun _ s=>WS fun _ Ai=>fE 2 [0,1] (mc 4 U (mc 2 U I)) U<|rS (CL (IY l kA kC az cA cC bA bC x hin asm om) (bp [5,6,7,8]) U)<|AL U dh fun Bx=>fQ U cu U<|RK Ai<|WS fun _ Aj=>rP 5 [] (mc 0 U I) ?_
 refine RK Aj<|bR U (aS fun D=>?_) (aT fun D=>?_)
 ·refine WK s<|an<|rP 1 [] (mc 3 U I) ?_
  refine ji (vs:=(aO.cells x)) (cs':=(aO.cells x)) (C':=[_,_,_,_,_,_,_,_,_,_,_,_,_,_,_,_,(bZ V 131 (aO.cells x)),_]) 16 U U U wK U U U U U U U<|aH<|aD<|KK Bt ?_
  have A_:(aO.cells x)=(aO.cells (mH r.aj (i+1))):=by rw [pE hx]
  rw [A_]
  refine an<|rP 2 [] I ?_
  refine aH ?_
  rw [show (ei l r.aj i)=(ei l r.aj (i+1)) from (w7 hx D).symm]
  have BA:(vI (((i+1):Nat):Int))=(vI ((i:Int)+1)):=by exact cI om
  refine aR (T ⟨(i+1),⟨om,lJ A hx (by unfold kb kX; omega)⟩⟩ _ _ _ U os (cN 9<|bk U BA<|dx.nil _) (aK [4,5,6,7,8,9,10,11,12,13,14,15,16,17]))
 obtain ⟨mb,Z⟩:=aN (ei l r.aj i) ((x.gj).toNat) om
 obtain ⟨ga,M⟩:=aN fb ((x.gj).toNat) om
 refine FC 17 Z M U U U ?_
 try dsimp only
 refine dG cD 10 kr<|lB 1 U<|dS (SX (bQ U U) U U)<|dP 4 [0,1] (mc 16 U (mc 5 U I)) ?_
 have BF:(List.map oC (eC fb l.ag.length))[(x.gj).toNat]? =some (oC (some ga)):=rE (oH M)
 refine dS (IA ((x.gj).toNat) U (ak (n:=l.ag.length) 17 U sq) Fx dc om om) ?_
 refine dS (gF ((x.gj).toNat) 0 (Value.map (some ga)) U cq (ak (n:=(eC fb l.ag.length).length) 17 U sm) BF U dc U)<|mI 2 [] (mc 2 U I) U<|cO<|iu (kV:=iV) (x:=(i:Int)) (C':=[(gZ iV ga (bM df (dK mb (i:Int) (cH l x)))),_,_,_,_,_,_,_,_,_,_,_,_,_,_,_,_,_,_]) 0 U U U U lI (dB n9) U (gr _ _ _ _).symm U<|RK s<|an<|rP 1 [] (mc 5 U I) ?_
 refine ji (vs:=(aO.cells x)) (cs':=(aO.cells x)) (C':=[_,_,_,_,_,_,_,_,_,_,_,_,_,_,_,_,_,_,(bZ V 131 (aO.cells x))]) 18 U U U wK U U U U U U U<|aH<|aD<|KK Bt ?_
 have A8:(aO.cells x)=(aO.cells (mH r.aj (i+1))):=by rw [pE hx]
 rw [A8]
 refine an<|rP 2 [] I ?_
 refine aH ?_
 refine Kq (f:=rl) (ms:=(ei l r.aj i)) (m:=(dK mb (i:Int) (cH l x))) 1 0 (by rw [jh]; omega) M U U U ?_
 rw [yC hx om D Z]
 have A9:(vI (((i+1):Nat):Int))=(vI ((i:Int)+1)):=by exact cI om
 refine aR (T ⟨(i+1),⟨om,lJ A hx (by unfold kb kX; omega)⟩⟩ _ _ _ U os (cN 9<|bk U A9<|dx.nil _) (aK [5,6,7,8,9,10,11,12,13,14,15,16,17,0]))
end
section
open Go.RowKit
theorem KP (l:bf) (kA:OA) (kC:Nat) (az:List RA) (cA:OA) (cC:Nat) (bA:OA) (bC:Nat) (r:cE) (sgA:OA) (sgC:Nat) (bq_:Int) (hin:eE l az) (hsl:r.aj.length≤1000000):
 ej Tryz.prog 196 [(vA (bK.cells (lp l kA kC cA cC bA bC))),(vA (eL.cells (mA r sgA sgC))),(vI bq_)] [(rd kA l.aJ.length 9 (l.aJ.map ao.cells)),(rd cA l.ai.length 2 (List.zipWith au.cells l.ai az)),(e7 (aU au.gX l.ai az)),(rd bA l.ag.length 4 (l.ag.map bE.cells)),(rd sgA r.aj.length 2 (r.aj.map aO.cells))] (vT [(vA (aa.cells (eZ l r bq_))),(vI (eU l r bq_))]):=by
 have A2:=hin.sD
 have Av:=hin.sG
 have Aq:=hin.oi
 have At:=hin.sE
 have A0:=hin.side
 refine bH kr Tryz.func196 U U fun w0 Q hQ hN=>?_
 try dsimp only
 refine WS fun _ AF=>fV U fun b2=>fV U fun b3=>uj U U fun b4=>AL U dh fun b5=>bg 1 U<|RK AF<|WS fun _ p=>rP 2 [0,1] (mc 3 U (mc 2 U I)) ?_
 refine rS (FU U)<|cU (xs:=[.tmp 17]) (cs:=[(Value.func (.func 198) [].toArray [(vP b2),(vP b4)].toArray)]) U O6 S9 U U U U (by simp [Value.cells]) U U fun b7=>cX (Mj l kA kC az cA cC bA bC r sgA sgC (Value.func (.func 198) [].toArray [(vP b2),(vP b4)].toArray) (e7 [(rd kA l.aJ.length 9 (l.aJ.map ao.cells)),(rd cA l.ai.length 2 (List.zipWith au.cells l.ai az)),(e7 (aU au.gX l.ai az)),(rd bA l.ag.length 4 (l.ag.map bE.cells)),(bZ b2 28 (bK.cells (lp l kA kC cA cC bA bC))),(bZ b4 3 [(vI bq_)])]) (jG l bq_) b7 (by exact nH (fi:=[]) (ca:=[(vP b2),(vP b4)]) (l3 (DA l kA kC az cA cC bA bC b2 bq_ b4 (by first|assumption|omega)) (bp [0,1,2,3,4,5]))) hin hsl) (lQ [5,6,7,8,9]<|ay (l5 (bp [5,6,7,8,4,2]))<|fH 0 U U<|aL) U fun y8 AW=>?_
 obtain ⟨AX,Al,E,H,AD,g,j,m,B,L,J,K,A,G,d,f⟩:=y8
 cases AX
 ·obtain ⟨AS,he⟩:=AW.2 rfl
  try dsimp only at AS he
  subst AS
  try dsimp only [cond_true,cond_false,List.cons_append,List.nil_append]
  refine bg 5 U<|RK p<|al fun _ Am=>WS fun _ AO=>rP 2 [] I ?_
  refine RK AO<|bR U (bw fun AN=>?_) (bx fun AN=>?_)
  ·exact absurd AN he
  refine WS fun _ AP=>rS (SX (bj (xs:=[]) (cs:=(aa.cells (aa.mk 0 0))) U U (bh gu U)) U U)<|bg 1 U<|tP U cu U<|rP 1 [] I ?_
  refine RK AP<|ar<|lj hQ [0] (mc 1 U I) U ?_
  (have e:=mZ (b:=bq_) he; rw [e.1,e.2]<;>rfl)
 obtain ⟨he,D,C,Ab,Aa,Ae⟩:=AW.1 rfl
 try dsimp only [cond_true,cond_false,List.cons_append,List.nil_append]
 dsimp only at D C Ab Aa Ae
 obtain ⟨AZ,AJ,Ad,Ax⟩:=jY he
 obtain ⟨Af,AU⟩:=gK AZ
 have Ac:=AU.head
 unfold gn at Ac
 have Ag:=oN Af AU AJ
 have Az:=AJ.time
 have Ay:=AJ.len
 have AT:(cL l l.ag.length).length=l.ag.length:=ep
 have AV:(ei l r.aj r.aj.length).length=l.ag.length:=jh
 have Aw:B.length=l.ag.length+1:=by have:=D.len; rw [show (ct l r).n=l.ag.length from ep] at this; exact this
 have Au:A.length=l.ag.length+1:=by have:=C.len; rw [show (ct l r).n=l.ag.length from ep] at this; exact this
 obtain ⟨Ar,As⟩:=EE Ad
 obtain ⟨b,AG⟩: ∃ b:Nat,bq_=(b:Int):=⟨bq_.toNat,om⟩
 rw [AG]
 refine bg 5 U<|RK p<|al fun _ N=>WS fun _ O=>bg 1 U<|rS (SX (b_ (r:= .bool false) U U U nI) U U)<|RK O<|aV U<|WK N<|WS fun _ P=>rS (SX (bj (xs:=[(0,.const (vI 1))]) (cs:=(aa.cells (aa.mk 1 0))) U U (bh gu U)) U U)<|AL U dh fun AK=>fQ U cu U<|RK P<|WS fun _ R=>fE 1 [] (mc 0 U I) U<|AL U dh fun AM=>fQ U cu U<|RK R<|al fun _ T=>WS fun _ AC=>rP 2 [] (mc 12 U I) ?_
 obtain ⟨mf,Y⟩:=aN B b om
 obtain ⟨mb,Z⟩:=aN A (b+1) om
 refine cX (J1 E b) (aL) U fun Ai An=>?_
 obtain ⟨AA,AB⟩:=Ai
 try dsimp only
 refine RK AC<|aw ?_
 refine nz (L0:=[(3,(vP b2)),(4,(vP b3)),(5,(vP b4)),(6,(vP b5)),(7,(vI 0)),(10,(vP AK)),(11,(vP AM))]) (F:=[(own H AD 3 1 ((cL l l.ag.length).map iC)),(own g j 58 1 (List.zipWith gJ (ei l r.aj r.aj.length) m)),(bo (aU rl (ei l r.aj r.aj.length) m)),(own J K 274 1 (List.zipWith gJ B L)),(bo (aU nK B L)),(own d f 274 1 (List.zipWith gJ A G)),(bo (aU nK A G)),(bZ E 270 (ck.cells (ck.mk (lp l kA kC cA cC bA bC) (mA r sgA sgC) (aM.mk H ((cL l l.ag.length).length) AD) (aM.mk g ((ei l r.aj r.aj.length).length) j) (aM.mk J B.length K) (aM.mk d A.length f)))),(bZ AA 259 [(vP E)]),(bZ AB 3 [(vI (b:Int))])]) (fun k (y:aa)=>(ke k y)∧(∀ q∈k,q∈pQ (ct l r) b mf mb)) (fun k y=>[(bZ AM 38 (aa.cells y)),(bZ AK 38 (aa.cells (aa.mk 1 0))),(bZ b5 38 (aa.cells (aa.mk 0 0))),(bZ b4 3 [(vI (b:Int))]),(bZ b3 44 (eL.cells (mA r sgA sgC))),(bZ b2 28 (bK.cells (lp l kA kC cA cC bA bC))),(rd kA l.aJ.length 9 (l.aJ.map ao.cells)).ro,(rd cA l.ai.length 2 (List.zipWith au.cells l.ai az)).ro,(e7 (aU au.gX l.ai az)).ro,(rd bA l.ag.length 4 (l.ag.map bE.cells)).ro,(rd sgA r.aj.length 2 (r.aj.map aO.cells)).ro]) (fun _ (_:Unit)=>False) (fun _ _=>[]) [2,3,13,14,15,16,17,18,19,20,21] [5,6,7,8,9,10,11,4,0,1] mx rfl rfl (HF (lp l kA kC cA cC bA bC) (mA r sgA sgC) (cL l l.ag.length) (ei l r.aj r.aj.length) H AD m g j B A L J K G d f E b AA AB mf mb (by rw [AT]; omega) (by exact Ag) (by rw [AV]; omega) (by exact D) om (by exact C) om (by show r.aj.length≤1000; omega) (by exact Y) (by exact Z)) rfl rfl rfl (by exact ⟨BA,fun q hq=>by cases hq⟩) (by simp only [List.forall_mem_cons,List.not_mem_nil,false_imp_iff,implies_true,and_true]; exact ⟨⟨_,aX (i:=0) rfl,(j6 sm)⟩,⟨_,aX (i:=1) rfl,(j6 (by rw [List.length_zipWith]; omega))⟩,⟨_,aX (i:=2) rfl,th⟩,⟨_,aX (i:=3) rfl,(j6 (by rw [List.length_zipWith]; omega))⟩,⟨_,aX (i:=4) rfl,th⟩,⟨_,aX (i:=5) rfl,(j6 (by rw [List.length_zipWith]; omega))⟩,⟨_,aX (i:=6) rfl,th⟩,⟨_,aX (i:=7) rfl,(bT _)⟩,⟨_,aX (i:=8) rfl,(bT _)⟩,⟨_,aX (i:=9) rfl,(bT _)⟩⟩) (by rintro k x k2 ⟨o,_,rfl,_⟩; rfl) rfl (aQ rfl) ?_ ?_ (fun _ _ _ h=>h.elim) (fun _ _ h=>h.elim)
 ·rintro k x k2 h lr ra rb S w1 K41 Qr42 A1 hx AH AQ X Ah Aj
  obtain ⟨q,hq,rfl,rfl⟩:=hx
  obtain ⟨a,c⟩:=AH
  try dsimp only
  refine an<|AL U dh fun Ao=>fQ U cu U<|aH<|jg (fun _ _ h=>h) (aK [1,0,2,3,4,5,6,7,8,9,10,11,12])<|aR (AQ _ _ ?_)
  refine aw<|al fun _ s=>WS fun _ AR=>rP 2 [0,1] (mc 2 U (mc 3 U I)) ?_
  refine rS (BI U (SU _ _ h (aa.mk 1 0)))<|RK AR<|bR U (bw fun M=>?_) (bx fun M=>?_)
  ·refine WK s<|an<|rP 1 [] (mc 1 U I) ?_
   refine GC U cu U<|aH<|aD ?_
   exact X q.2 _ _ (by refine ⟨zz a (mK hq) ?_,fun z hz=>?_⟩; (first|exact if_neg M|exact if_pos M); (rcases List.mem_append.1 hz with hz|hz; exact c z hz; (rw [List.mem_singleton.1 hz]; exact hq))) (aK [0,2,3,4,5,6,7,8,9,10,11,12])
  refine an<|fE 4 [0,1] (mc 1 U (mc 2 U I)) U<|rS (MN U)<|fE 4 [0,1] (mc 1 U (mc 2 U I)) U<|rS (MX U)<|rS (SX (bj (xs:=[(0,.tmp 40),(1,.tmp 45)]) (cs:=(aa.cells (aa.mk (min q.2.Lo h.Lo) (max q.2.Hi h.Hi)))) U U (bh gu U)) U U)<|tP U cu U<|RK s<|an<|rP 1 [] (mc 1 U I) ?_
  refine GC U cu U<|aH<|aD ?_
  exact X (aa.mk (min q.2.Lo h.Lo) (max q.2.Hi h.Hi)) _ _ (by refine ⟨zz a (mK hq) ?_,fun z hz=>?_⟩; (first|exact if_neg M|exact if_pos M); (rcases List.mem_append.1 hz with hz|hz; exact c z hz; (rw [List.mem_singleton.1 hz]; exact hq))) (aK [0,2,3,4,5,6,7,8,9,10,11,12])
 rintro A4 k h v AI
 obtain ⟨a,c⟩:=AI
 try dsimp only
 refine aD<|KK T<|al fun _ V=>WS fun _ W=>rP 2 [0,1] (mc 11 U (mc 12 U I)) ?_
 refine rS (BI U (tj _ _ h (aa.mk 1 0)))<|RK W<|bR U (aS fun AE=>?_) (aT fun AE=>?_)
 ·refine WK V<|WS fun _ u=>fE 1 [] (mc 11 U I) U<|ji (vs:=(aa.cells h)) (cs':=(aa.cells h)) (C':=[_,_,_,_,_,_,_,_,_,_,_,_,_,(bZ b5 38 (aa.cells h)),_,_,_,_,_,_,_,_]) 13 U U U cu U U U U U U U<|rP 1 [] I ?_
  refine RK u<|ar<|hQ _ _ _ (ox 0 U U<|gY (vs:=[(vA (aa.cells h)),(vI 0)]) ⟨⟨_,U,.inl ⟨_,_,cq,pn (vs:=(aa.cells h)) 13 U U,U,U⟩⟩,U,trivial⟩ fun w hs=>DM ?_ hs)
  show (vT [(vA (aa.cells h)),(vI 0)])=(vT [(vA (aa.cells (eZ l r bq_))),(vI (eU l r bq_))])
  clear hs w hQ hN u W V AC T R P O N p AF
  (rw [AG] at he ⊢; have hh:h=mm l r b:=zn (D.min _ _ Y) (C.max _ _ Z) (D.keys _ _ Y) (C.keys _ _ Z) c v a; (have e:=nQ he (fun q=>AE (hh.trans q)); rw [e.1,e.2,hh]<;>rfl))
 refine WS fun _ t=>rS (SX (bj (xs:=[]) (cs:=(aa.cells (aa.mk 0 0))) U U (bh gu U)) U U)<|ji (vs:=(aa.cells (aa.mk 0 0))) (cs':=(aa.cells (aa.mk 0 0))) (C':=[_,_,_,_,_,_,_,_,_,_,_,_,_,(bZ b5 38 (aa.cells (aa.mk 0 0))),_,_,_,_,_,_,_,_]) 13 U U U cu U U U U U U U<|rP 1 [] I ?_
 refine RK t<|ar<|hQ _ _ _ (ox 0 U U<|gY (vs:=[(vA (aa.cells (aa.mk 0 0))),(vI 6)]) ⟨⟨_,U,.inl ⟨_,_,cq,pn (vs:=(aa.cells (aa.mk 0 0))) 13 U U,U,U⟩⟩,U,trivial⟩ fun w hs=>DM ?_ hs)
 show (vT [(vA (aa.cells (aa.mk 0 0))),(vI 6)])=(vT [(vA (aa.cells (eZ l r bq_))),(vI (eU l r bq_))])
 clear hs w hQ hN t W V AC T R P O N p AF
 (rw [AG] at he ⊢; have hh:h=mm l r b:=zn (D.min _ _ Y) (C.max _ _ Z) (D.keys _ _ Y) (C.keys _ _ Z) c v a; (have e:=qq he (hh.symm.trans AE); rw [e.1,e.2]<;>rfl))
theorem RW (l:bf) (kA:OA) (kC:Nat) (az:List RA) (cA:OA) (cC:Nat) (bA:OA) (bC:Nat) (r:cE) (sgA:OA) (sgC:Nat) (hin:eE l az) (hsl:r.aj.length≤1000000):
 ej Tryz.prog 195 [(vA (bK.cells (lp l kA kC cA cC bA bC))),(vA (eL.cells (mA r sgA sgC)))] [(rd kA l.aJ.length 9 (l.aJ.map ao.cells)),(rd cA l.ai.length 2 (List.zipWith au.cells l.ai az)),(e7 (aU au.gX l.ai az)),(rd bA l.ag.length 4 (l.ag.map bE.cells)),(rd sgA r.aj.length 2 (r.aj.map aO.cells))] (vT [(vA (aa.cells (z5 l r))),(vI (eU l r l.bI))]):=by
 have N:=hin.sD
 have J:=hin.sG
 have H:=hin.oi
 have AA:=hin.sE
 have M:=hin.side
 refine bH kr Tryz.func195 U U fun T Q hQ hN=>?_
 try dsimp only
 refine WS fun _ C=>fV U fun O=>fV U fun P=>AL U dh fun R=>bg 1 U<|RK C<|WS fun _ D=>fE 4 [0,1] (mc 2 U (mc 1 U I)) U<|rS (CL (KP l kA kC az cA cC bA bC r sgA sgC l.bI hin hsl) (bp [3,4,5,6,7]) U)<|bg 3 U<|AL U dh fun S=>fQ U cu U<|bg 1 U<|RK D<|al fun _ E=>WS fun _ F=>rP 2 [] I ?_
 refine RK F<|cM U (bx fun A=>?_) (bw fun A=>?_)
 ·refine WS fun _ G=>rS (SX (bj (xs:=[]) (cs:=(aa.cells (aa.mk 0 0))) U U (bh gu U)) U U)<|bg 1 U<|tP U cu U<|rP 1 [] I ?_
  refine RK G<|ar<|lj hQ [0] (mc 1 U I) U ?_
  (rw [DQ A]<;>rfl)
 refine WK E<|WS fun _ B=>rP 4 [0,1] (mc 0 U (mc 2 U I)) ?_
 have K:=xp A
 have L:=(vj A).time
 refine fE 6 [0,1] (mc 0 U (mc 2 U I)) U<|rS (SX (bj (xs:=[(0,.tmp 24),(1,.tmp 29)]) (cs:=(aa.cells (aa.mk (((eZ l r l.bI).Lo)-r.Start) (((eZ l r l.bI).Hi)-r.Start)))) U U (bh gu U)) U U)<|tP U cu U<|rP 1 [] I ?_
 refine RK B<|ar<|lj hQ [0] (mc 1 U I) U ?_
 (rw [Ar A,A]<;>rfl)
end
section
open Go.RowKit
theorem Oa (l:bf) (kA:OA) (kC:Nat) (az:List RA) (cA:OA) (cC:Nat) (bA:OA) (bC:Nat) (d:aA) (sgA:OA) (sgC:Nat) (hin:eE l az):
 ej Tryz.prog 189 [(vA (bK.cells (lp l kA kC cA cC bA bC))),(vA (br.cells (br.mk d.Out d.eO d.Time (mA d.cx sgA sgC))))] [(rd kA l.aJ.length 9 (l.aJ.map ao.cells)),(rd cA l.ai.length 2 (List.zipWith au.cells l.ai az)),(e7 (aU au.gX l.ai az)),(rd bA l.ag.length 4 (l.ag.map bE.cells)),(rd sgA d.cx.aj.length 2 (d.cx.aj.map aO.cells))] (vT [(vA (aa.cells d.Time)),(vB (decide (d.eO=false∧d.Time=dE∧mw d.cx)))]):=by
 refine bH kr Tryz.func189 U U fun K Q hQ hN=>?_
 try dsimp only
 refine WS fun _ B=>fV U fun H=>fV U fun AA=>AL U dh fun J=>rP 1 [] I ?_
 refine RK B<|al fun _ A=>dR cD [15] [] [] [1,2,3,4,5,6,7] [] U U U U U<|eS U (FA 2 U fD U)<|eS U (LP (aa.cells d.Time) 0 U cq U U U)<|eS U (FA 1 U fD U)<|eS U (L1 (vB d.eO) 0 U cq U U)<|eS U (NT U)<|eS U (MV U)<|q8 (t:=11) U (fun G=>?_) (fun G=>?_)
 rotate_left 1
 ·rw [Bool.not_eq_false'] at G
  refine eS U (OX U)<|eS U (OX U)<|eS U (OX U)<|eS U (OX U)<|eS U (PK U)<|eS U (MV U)<|eS U (OX U)<|eS U (OX U)<|eS U (PK U)<|eS U (AG U)<|e8 U<|cp U fun T10 C=>fQ U cu U<|aH (C _ _ (aK [1,2,3,4,5,6,7]) ?_)
  refine fO U<|KK A<|ar<|lj hQ [0] (mc 0 U I) U ?_
  clear hQ hN C T10 A B
  refine congrArg (fun z=>Value.tuple #[_,vB z]) ?_
  first|rfl|(simp_all [dE]; done)
 rw [Bool.not_eq_true'] at G
 refine eS U (FA 2 U fD U)<|eS U (LP (aa.cells d.Time) 0 U cq U U U)<|eS U (SX (bj (xs:=[]) (cs:=(aa.cells (aa.mk 0 0))) U U (bh gu U)) U U)<|eS U (BI U (tj _ _ d.Time (aa.mk 0 0)))<|eS U (PK U)<|eS U (MV U)<|q8 (t:=17) U (fun D=>?_) (fun D=>?_)
 rotate_left 1
 ·replace D:=DF D
  refine eS U (OX U)<|eS U (OX U)<|eS U (PK U)<|eS U (AG U)<|e8 U<|cp U fun T9 F=>fQ U cu U<|aH (F _ _ (aK [1,2,3,4,5,6,7]) ?_)
  refine fO U<|KK A<|ar<|lj hQ [0] (mc 0 U I) U ?_
  clear hQ hN F T9 A B
  refine congrArg (fun z=>Value.tuple #[_,vB z]) ?_
  first|rfl|(simp_all [dE]; done)
 replace D:=DT D
 refine eS U (LW 0 U cq U U)<|eS U (CL (KG d sgA sgC) (bp [6]) U)<|eS U (PK U)<|eS U (AG U)<|e8 U<|cp U fun T8 E=>fQ U cu U<|aH (E _ _ (aK [1,2,3,4,5,6,7]) ?_)
 refine fO U<|KK A<|ar<|lj hQ [0] (mc 0 U I) U ?_
 clear hQ hN E T8 A B
 refine congrArg (fun z=>Value.tuple #[_,vB z]) ?_
 first|rfl|(simp_all [dE]; done)
theorem NK (l:bf) (kA:OA) (kC:Nat) (az:List RA) (cA:OA) (cC:Nat) (bA:OA) (bC:Nat) (d:aA) (sgA:OA) (sgC:Nat) (hin:eE l az):
 ej Tryz.prog 192 [(vA (bK.cells (lp l kA kC cA cC bA bC))),(vA (br.cells (br.mk d.Out d.eO d.Time (mA d.cx sgA sgC))))] [(rd kA l.aJ.length 9 (l.aJ.map ao.cells)),(rd cA l.ai.length 2 (List.zipWith au.cells l.ai az)),(e7 (aU au.gX l.ai az)),(rd bA l.ag.length 4 (l.ag.map bE.cells)),(rd sgA d.cx.aj.length 2 (d.cx.aj.map aO.cells))] (vT [(vA (aa.cells d.Time)),(vB (decide (iH d.Time∧mw d.cx)))]):=by
 refine bH kr Tryz.func192 U U fun AA Q hQ hN=>?_
 try dsimp only
 refine WS fun _ B=>fV U fun F=>fV U fun G=>AL U dh fun H=>rP 1 [] I ?_
 refine RK B<|al fun _ A=>dR cD [9] [] [] [1,2,3,4,5,6,7] [] U U U U U<|eS U (FA 2 U fD U)<|eS U (LP (aa.cells d.Time) 0 U cq U U U)<|eS U (FA 2 U fD U)<|eS U (LP (aa.cells d.Time) 0 U cq U U U)<|eS U (CL (Fc d.Time) (aL) U)<|eS U (MV U)<|q8 (t:=11) U (fun C=>?_) (fun C=>?_)
 rotate_left 1
 ·replace C:=DF C
  refine eS U (OX U)<|eS U (OX U)<|eS U (PK U)<|eS U (AG U)<|e8 U<|cp U fun T8 E=>fQ U cu U<|aH (E _ _ (aK [1,2,3,4,5,6,7]) ?_)
  refine fO U<|KK A<|ar<|lj hQ [0] (mc 0 U I) U ?_
  clear hQ hN E T8 A B
  refine congrArg (fun z=>Value.tuple #[_,vB z]) ?_
  first|rfl|(simp_all; done)
 replace C:=DT C
 refine eS U (LW 0 U cq U U)<|eS U (CL (KG d sgA sgC) (bp [6]) U)<|eS U (PK U)<|eS U (AG U)<|e8 U<|cp U fun T7 D=>fQ U cu U<|aH (D _ _ (aK [1,2,3,4,5,6,7]) ?_)
 refine fO U<|KK A<|ar<|lj hQ [0] (mc 0 U I) U ?_
 clear hQ hN D T7 A B
 refine congrArg (fun z=>Value.tuple #[_,vB z]) ?_
 first|rfl|(simp_all; done)
theorem M_ (l:bf) (kA:OA) (kC:Nat) (az:List RA) (cA:OA) (cC:Nat) (bA:OA) (bC:Nat) (d:aA) (sgA:OA) (sgC:Nat) (hin:eE l az) (hsl:d.cx.aj.length≤1000000):
 ej Tryz.prog 194 [(vA (bK.cells (lp l kA kC cA cC bA bC))),(vA (br.cells (br.mk d.Out d.eO d.Time (mA d.cx sgA sgC))))] [(rd kA l.aJ.length 9 (l.aJ.map ao.cells)),(rd cA l.ai.length 2 (List.zipWith au.cells l.ai az)),(e7 (aU au.gX l.ai az)),(rd bA l.ag.length 4 (l.ag.map bE.cells)),(rd sgA d.cx.aj.length 2 (d.cx.aj.map aO.cells))] (vT [(vA (aa.cells (z5 l d.cx))),(vB (decide (eU l d.cx l.bI=0∧d.Time=dE)))]):=by
 have K:=hin.sD
 have AA:=hin.sG
 have G:=hin.oi
 have H:=hin.sE
 have J:=hin.side
 refine bH kr Tryz.func194 U U fun P Q hQ hN=>?_
 try dsimp only
 refine WS fun _ C=>fV U fun L=>fV U fun M=>AL U dh fun N=>bg 1 U<|RK C<|WS fun _ D=>fE 2 [] (mc 2 U I) U<|rS (LP (eL.cells (mA d.cx sgA sgC)) 1 U cq U U U)<|rS (CL (RW l kA kC az cA cC bA bC d.cx sgA sgC hin hsl) (bp [3,4,5,6,7]) U)<|bg 3 U<|AL U dh fun O=>fQ U cu U<|rP 1 [] I ?_
 refine RK D<|al fun _ A=>dR cD [9] [] [] [0,2,3,4,5,6,7,8] [] U U U U U<|eS U (LW 0 U cq U U)<|eS U (MV U)<|eS U (BI U mj)<|eS U (MV U)<|q8 (t:=18) U (fun E=>?_) (fun E=>?_)
 rotate_left 1
 ·replace E:=DF E
  refine eS U (OX U)<|eS U (OX U)<|eS U (OX U)<|eS U (OX U)<|eS U (PK U)<|eS U (AG U)<|e8 U<|cp U fun T10 B=>tP U cu U<|aH (B _ _ (aK [0,2,3,4,5,6,7,8]) ?_)
  refine fO U<|KK A<|ar<|lj hQ [0] (mc 1 U I) U ?_
  clear hQ hN B T10 A D C
  refine congrArg (fun z=>Value.tuple #[_,vB z]) ?_
  first|rfl|(simp_all [dE]; done)
 replace E:=DT E
 refine eS U (FA 2 U fD U)<|eS U (LP (aa.cells d.Time) 1 U cq U U U)<|eS U (SX (bj (xs:=[]) (cs:=(aa.cells (aa.mk 0 0))) U U (bh gu U)) U U)<|eS U (BI U (tj _ _ d.Time (aa.mk 0 0)))<|eS U (PK U)<|eS U (AG U)<|e8 U<|cp U fun T9 F=>tP U cu U<|aH (F _ _ (aK [0,2,3,4,5,6,7,8]) ?_)
 refine fO U<|KK A<|ar<|lj hQ [0] (mc 1 U I) U ?_
 clear hQ hN F T9 A D C
 refine congrArg (fun z=>Value.tuple #[_,vB z]) ?_
 first|rfl|(simp_all [dE]; done)
theorem HD (d:aA) (sgA:OA) (sgC g1:Nat):
 ej Tryz.prog 78 [(vA (mG.cells (mG.mk (Value.func (.func 188) [].toArray [].toArray) (Value.func (.func 189) [].toArray [].toArray)))),(vP g1)] [(rd sgA d.cx.aj.length 2 (d.cx.aj.map aO.cells)),(bZ g1 46 (br.cells (br.mk d.Out d.eO d.Time (mA d.cx sgA sgC))))] (vB d.Out):=by
 refine bH kr Tryz.func78 U U fun D Q hQ hN=>?_
 try dsimp only
 refine WS fun _ A=>fV U fun C=>bg 1 U<|RK A<|WS fun _ B=>fE 3 [0,1] (mc 0 U (mr 2 U I)) U<|rS (CL (Q6 d sgA sgC) (bp [1]) U)<|rP 1 [] I ?_
 refine RK B<|ar<|Q1 hQ U U U ?_
 rfl
theorem HB (d:aA) (sgA:OA) (sgC g1:Nat):
 ej Tryz.prog 78 [(vA (mG.cells (mG.mk (Value.func (.func 191) [].toArray [].toArray) (Value.func (.func 192) [].toArray [].toArray)))),(vP g1)] [(rd sgA d.cx.aj.length 2 (d.cx.aj.map aO.cells)),(bZ g1 46 (br.cells (br.mk d.Out d.eO d.Time (mA d.cx sgA sgC))))] (vB d.eO):=by
 refine bH kr Tryz.func78 U U fun D Q hQ hN=>?_
 try dsimp only
 refine WS fun _ A=>fV U fun C=>bg 1 U<|RK A<|WS fun _ B=>fE 3 [0,1] (mc 0 U (mr 2 U I)) U<|rS (CL (SH d sgA sgC) (bp [1]) U)<|rP 1 [] I ?_
 refine RK B<|ar<|Q1 hQ U U U ?_
 rfl
theorem GH (d:aA) (sgA:OA) (sgC g1:Nat):
 ej Tryz.prog 78 [(vA (mG.cells (mG.mk (Value.func (.func 193) [].toArray [].toArray) (Value.func (.func 194) [].toArray [].toArray)))),(vP g1)] [(rd sgA d.cx.aj.length 2 (d.cx.aj.map aO.cells)),(bZ g1 46 (br.cells (br.mk d.Out d.eO d.Time (mA d.cx sgA sgC))))] (vB true):=by
 refine bH kr Tryz.func78 U U fun D Q hQ hN=>?_
 try dsimp only
 refine WS fun _ A=>fV U fun C=>bg 1 U<|RK A<|WS fun _ B=>fE 3 [0,1] (mc 0 U (mr 2 U I)) U<|rS (CL (Q4 d sgA sgC) (bp [1]) U)<|rP 1 [] I ?_
 refine RK B<|ar<|Q1 hQ U U U ?_
 rfl
end
section
open Go.RowKit
theorem we (d:aA) (sgA:OA) (sgC g1:Nat):
 ej Tryz.prog 77 [(vS dF 3 3),(Value.func (.func 78) [].toArray [(vP g1)].toArray)] [(rd dF 3 2 dg),(rd sgA d.cx.aj.length 2 (d.cx.aj.map aO.cells)),(bZ g1 46 (br.cells (br.mk d.Out d.eO d.Time (mA d.cx sgA sgC))))] (vI (oj d)):=by
 refine bH kr Tryz.func77 U U fun b Q hQ hN=>?_
 try dsimp only
 refine WS fun _ F=>bg 1 U<|RK F<|al fun _ AA=>WS fun _ G=>bg 3 U<|RK G<|aw<|jR 4<|ew fun R4 Z=>WS fun _ H=>rS (SX (b_ (r:= .bool true) U U U gS) U U)<|RK H<|al fun _ AB=>aP U<|WK AB<|al fun _ J=>aw<|WS fun _ K=>bg 2 U<|RK K<|WS fun _ L=>rP 3 [] I ?_
 refine rS (IA 0 U (aF 0 U) K2 dc U om)<|rS (oB 0 0 (mG.cells (mG.mk (Value.func (.func 188) [].toArray [].toArray) (Value.func (.func 189) [].toArray [].toArray))) U cq (aF 0 U) (show dg[0]? =some [(Value.func (.func 188) [].toArray [].toArray),(Value.func (.func 189) [].toArray [].toArray)] from U) U dc U U)<|rS (CL (HD d sgA sgC g1) (bp [1,2]) U)<|RK L<|cM U (fun X=>?_) (fun X=>?_)
 ·refine WS fun _ M=>rP 2 [] I ?_
  refine RK M<|ar<|Q1 hQ U U U ?_
  clear hQ hN M L K J AB H G AA F
  refine cI ?_
  simp [oj, *]
 refine bY<|aD<|KK J<|an<|rS (SX (b_ (r:= .int .i64 1) U U U (ia ⟨dc,dc⟩)) U U)<|bg 1 U<|RK Z<|ew fun R12 W=>WS fun _ A=>rS (SX (b_ (r:= .bool true) U U U gS) U U)<|RK A<|al fun _ B=>aP U<|WK B<|al fun _ C=>aw<|WS fun _ D=>bg 2 U<|RK D<|WS fun _ E=>rP 3 [] I ?_
 refine rS (IA 1 U (aF 0 U) K2 dc U om)<|rS (oB 1 0 (mG.cells (mG.mk (Value.func (.func 191) [].toArray [].toArray) (Value.func (.func 192) [].toArray [].toArray))) U cq (aF 0 U) (show dg[1]? =some [(Value.func (.func 191) [].toArray [].toArray),(Value.func (.func 192) [].toArray [].toArray)] from U) U dc U U)<|rS (CL (HB d sgA sgC g1) (bp [1,2]) U)<|RK E<|cM U (fun Y=>?_) (fun Y=>?_)
 ·refine WS fun _ N=>rP 2 [] I ?_
  refine RK N<|ar<|Q1 hQ U U U ?_
  clear hQ hN N E D C B A L K J AB H G AA F
  refine cI ?_
  simp [oj, *]
 refine bY<|aD<|KK C<|an<|rS (SX (b_ (r:= .int .i64 2) U U U (ia ⟨dc,dc⟩)) U U)<|bg 1 U<|RK W<|ew fun R20 a=>WS fun _ O=>rS (SX (b_ (r:= .bool true) U U U gS) U U)<|RK O<|al fun _ P=>aP U<|WK P<|al fun _ V=>aw<|WS fun _ R=>bg 2 U<|RK R<|WS fun _ S=>bg 3 U<|rS (IA 2 U (aF 0 U) K2 dc U om)<|rS (oB 2 0 (mG.cells (mG.mk (Value.func (.func 193) [].toArray [].toArray) (Value.func (.func 194) [].toArray [].toArray))) U cq (aF 0 U) (show dg[2]? =some [(Value.func (.func 193) [].toArray [].toArray),(Value.func (.func 194) [].toArray [].toArray)] from U) U dc U U)<|rS (CL (GH d sgA sgC g1) (bp [1,2]) U)<|RK S<|aP U<|WS fun _ T=>rP 2 [] I ?_
 refine RK T<|ar<|Q1 hQ U U U ?_
 clear hQ hN T S R V P O E D C B A L K J AB H G AA F
 refine cI ?_
 simp [oj, *]
end
section
open Go.RowKit
theorem Tl (d:aA) (sgA:OA) (sgC g1:Nat) (hk:d.Out=true):
 ej Tryz.prog 77 [(vS dF 3 3),(Value.func (.func 78) [].toArray [(vP g1)].toArray)] [(rd dF 3 2 dg),(rd sgA d.cx.aj.length 2 (d.cx.aj.map aO.cells)),(bZ g1 46 (br.cells (br.mk d.Out d.eO d.Time (mA d.cx sgA sgC))))] (vI 0):=by
 have h:=we d sgA sgC g1
 have e:oj d=0:=by simp [oj,hk]
 rw [e] at h
 exact h
theorem Td (d:aA) (sgA:OA) (sgC g1:Nat) (hk:d.Out=false∧d.eO=true):
 ej Tryz.prog 77 [(vS dF 3 3),(Value.func (.func 78) [].toArray [(vP g1)].toArray)] [(rd dF 3 2 dg),(rd sgA d.cx.aj.length 2 (d.cx.aj.map aO.cells)),(bZ g1 46 (br.cells (br.mk d.Out d.eO d.Time (mA d.cx sgA sgC))))] (vI 1):=by
 have h:=we d sgA sgC g1
 have e:oj d=1:=by simp [oj,hk]
 rw [e] at h
 exact h
theorem Tg (d:aA) (sgA:OA) (sgC g1:Nat) (hk:d.Out=false∧d.eO=false):
 ej Tryz.prog 77 [(vS dF 3 3),(Value.func (.func 78) [].toArray [(vP g1)].toArray)] [(rd dF 3 2 dg),(rd sgA d.cx.aj.length 2 (d.cx.aj.map aO.cells)),(bZ g1 46 (br.cells (br.mk d.Out d.eO d.Time (mA d.cx sgA sgC))))] (vI 2):=by
 have h:=we d sgA sgC g1
 have e:oj d=2:=by simp [oj,hk]
 rw [e] at h
 exact h
theorem CI (l:bf) (kA:OA) (kC:Nat) (az:List RA) (cA:OA) (cC:Nat) (bA:OA) (bC:Nat) (d:aA) (sgA:OA) (sgC:Nat) (hin:eE l az) (hsl:d.cx.aj.length≤1000000) (hk:d.Out=true):
 ej Tryz.prog 52 [(vA (bK.cells (lp l kA kC cA cC bA bC))),(vA (br.cells (br.mk d.Out d.eO d.Time (mA d.cx sgA sgC))))] [(rd dF 3 2 dg),(rd kA l.aJ.length 9 (l.aJ.map ao.cells)),(rd cA l.ai.length 2 (List.zipWith au.cells l.ai az)),(e7 (aU au.gX l.ai az)),(rd bA l.ag.length 4 (l.ag.map bE.cells)),(rd sgA d.cx.aj.length 2 (d.cx.aj.map aO.cells))] (vT [(vA (aa.cells (dD l d))),(vB (decide (ig l d)))]):=by
 refine bH kr Tryz.func52 U U fun AA Q hQ hN=>?_
 try dsimp only
 refine WS fun _ A=>fV U fun G=>fV U fun D=>AL U dh fun H=>bg 1 U<|RK A<|WS fun _ B=>rS (SX (ER U U yO) U U)<|rS (FU U)<|rS (CL (Tl d sgA sgC D hk) (Of 3 8 1 U U U U U U) U)<|bg 1 U<|RK B<|al fun _ C=>dG cD 9 kr<|lB 1 U<|dS (SX (Es (k:=0) U U U yO U om) U U)<|dS (nM ((0*2)+1) U (aF 3 U) (Nat.mul_pos om dc) fD U)<|dS (gF 0 1 (Value.func (.func 189) [].toArray [].toArray) U cq (aF 3 U) (show dg[0]? =some [(Value.func (.func 188) [].toArray [].toArray),(Value.func (.func 189) [].toArray [].toArray)] from U) U dc U)<|mI 2 [0,1] (mc 2 U (mc 1 U I)) U<|dS (CL (Oa l kA kC az cA cC bA bC d sgA sgC hin) (bp [4,5,6,7,8]) U)<|lB 2 U<|cO<|fQ U cu U<|rP 1 [] I ?_
 refine RK C<|ar<|lj hQ [0] (mc 0 U I) U ?_
 have E:=Fl (l:=l) hk
 have F:=p7 (l:=l) hk
 simp only [E,F]
theorem Bp (l:bf) (kA:OA) (kC:Nat) (az:List RA) (cA:OA) (cC:Nat) (bA:OA) (bC:Nat) (d:aA) (sgA:OA) (sgC:Nat) (hin:eE l az) (hsl:d.cx.aj.length≤1000000) (hk:d.Out=false∧d.eO=true):
 ej Tryz.prog 52 [(vA (bK.cells (lp l kA kC cA cC bA bC))),(vA (br.cells (br.mk d.Out d.eO d.Time (mA d.cx sgA sgC))))] [(rd dF 3 2 dg),(rd kA l.aJ.length 9 (l.aJ.map ao.cells)),(rd cA l.ai.length 2 (List.zipWith au.cells l.ai az)),(e7 (aU au.gX l.ai az)),(rd bA l.ag.length 4 (l.ag.map bE.cells)),(rd sgA d.cx.aj.length 2 (d.cx.aj.map aO.cells))] (vT [(vA (aa.cells (dD l d))),(vB (decide (ig l d)))]):=by
 refine bH kr Tryz.func52 U U fun AA Q hQ hN=>?_
 try dsimp only
 refine WS fun _ A=>fV U fun G=>fV U fun D=>AL U dh fun H=>bg 1 U<|RK A<|WS fun _ B=>rS (SX (ER U U yO) U U)<|rS (FU U)<|rS (CL (Td d sgA sgC D hk) (Of 3 8 1 U U U U U U) U)<|bg 1 U<|RK B<|al fun _ C=>dG cD 9 kr<|lB 1 U<|dS (SX (Es (k:=1) U U U yO U om) U U)<|dS (nM ((1*2)+1) U (aF 3 U) (Nat.mul_pos om dc) fD U)<|dS (gF 1 1 (Value.func (.func 192) [].toArray [].toArray) U cq (aF 3 U) (show dg[1]? =some [(Value.func (.func 191) [].toArray [].toArray),(Value.func (.func 192) [].toArray [].toArray)] from U) U dc U)<|mI 2 [0,1] (mc 2 U (mc 1 U I)) U<|dS (CL (NK l kA kC az cA cC bA bC d sgA sgC hin) (bp [4,5,6,7,8]) U)<|lB 2 U<|cO<|fQ U cu U<|rP 1 [] I ?_
 refine RK C<|ar<|lj hQ [0] (mc 0 U I) U ?_
 have E:=As (l:=l) hk
 have F:=sV (l:=l) hk
 simp only [E,F]
theorem Cd (l:bf) (kA:OA) (kC:Nat) (az:List RA) (cA:OA) (cC:Nat) (bA:OA) (bC:Nat) (d:aA) (sgA:OA) (sgC:Nat) (hin:eE l az) (hsl:d.cx.aj.length≤1000000) (hk:d.Out=false∧d.eO=false):
 ej Tryz.prog 52 [(vA (bK.cells (lp l kA kC cA cC bA bC))),(vA (br.cells (br.mk d.Out d.eO d.Time (mA d.cx sgA sgC))))] [(rd dF 3 2 dg),(rd kA l.aJ.length 9 (l.aJ.map ao.cells)),(rd cA l.ai.length 2 (List.zipWith au.cells l.ai az)),(e7 (aU au.gX l.ai az)),(rd bA l.ag.length 4 (l.ag.map bE.cells)),(rd sgA d.cx.aj.length 2 (d.cx.aj.map aO.cells))] (vT [(vA (aa.cells (dD l d))),(vB (decide (ig l d)))]):=by
 refine bH kr Tryz.func52 U U fun AA Q hQ hN=>?_
 try dsimp only
 refine WS fun _ A=>fV U fun G=>fV U fun D=>AL U dh fun H=>bg 1 U<|RK A<|WS fun _ B=>rS (SX (ER U U yO) U U)<|rS (FU U)<|rS (CL (Tg d sgA sgC D hk) (Of 3 8 1 U U U U U U) U)<|bg 1 U<|RK B<|al fun _ C=>dG cD 9 kr<|lB 1 U<|dS (SX (Es (k:=2) U U U yO U om) U U)<|dS (nM ((2*2)+1) U (aF 3 U) (Nat.mul_pos om dc) fD U)<|dS (gF 2 1 (Value.func (.func 194) [].toArray [].toArray) U cq (aF 3 U) (show dg[2]? =some [(Value.func (.func 193) [].toArray [].toArray),(Value.func (.func 194) [].toArray [].toArray)] from U) U dc U)<|mI 2 [0,1] (mc 2 U (mc 1 U I)) U<|dS (CL (M_ l kA kC az cA cC bA bC d sgA sgC hin hsl) (bp [4,5,6,7,8]) U)<|lB 2 U<|cO<|fQ U cu U<|rP 1 [] I ?_
 refine RK C<|ar<|lj hQ [0] (mc 0 U I) U ?_
 have E:=vR (l:=l) hk
 have F:=sN (l:=l) hk
 simp only [E,F]
theorem Du (l:bf) (kA:OA) (kC:Nat) (az:List RA) (cA:OA) (cC:Nat) (bA:OA) (bC:Nat) (d:aA) (sgA:OA) (sgC:Nat) (hin:eE l az) (hsl:d.cx.aj.length≤1000000):
 ej Tryz.prog 52 [(vA (bK.cells (lp l kA kC cA cC bA bC))),(vA (br.cells (br.mk d.Out d.eO d.Time (mA d.cx sgA sgC))))] [(rd dF 3 2 dg),(rd kA l.aJ.length 9 (l.aJ.map ao.cells)),(rd cA l.ai.length 2 (List.zipWith au.cells l.ai az)),(e7 (aU au.gX l.ai az)),(rd bA l.ag.length 4 (l.ag.map bE.cells)),(rd sgA d.cx.aj.length 2 (d.cx.aj.map aO.cells))] (vT [(vA (aa.cells (dD l d))),(vB (decide (ig l d)))]):=by
 by_cases ho:d.Out=true
 ·exact CI l kA kC az cA cC bA bC d sgA sgC hin hsl ho
 by_cases hf:d.eO=true
 ·exact Bp l kA kC az cA cC bA bC d sgA sgC hin hsl ⟨by simpa using ho,hf⟩
 ·exact Cd l kA kC az cA cC bA bC d sgA sgC hin hsl ⟨by simpa using ho,by simpa using hf⟩
end
section
open Go.RowKit
theorem Kk (r:cd) (kA:OA) (kC:Nat) (az:List RA) (cA:OA) (cC:Nat) (bA:OA) (bC:Nat) (slA:OA) (slC:Nat) (drA:OA) (drC:Nat) (ha:List cQ) (heA:OA) (heC:Nat) (tz:List RA) (tA:OA) (tC:Nat) (ms:Value) (gw h:Nat) (gm g1 g2:Nat) (hin:fg r az ha) (htz:tz.length=r.aq.length) (hh:h<r.aq.length) (hok:j7 r (h+1)):
 Dd Tryz.prog 79 [(vI (h:Int)),(vP g1),(vP g2)] [(rd kA r.ah.aJ.length 9 (r.ah.aJ.map ao.cells)),(rd cA r.ah.ai.length 2 (List.zipWith au.cells r.ah.ai az)),(e7 (aU au.gX r.ah.ai az)),(rd bA r.ah.ag.length 4 (r.ah.ag.map bE.cells)),(rd slA r.aI.length 1 (r.aI.map iC)),(rd drA r.bD.length 1 (r.bD.map iC)),(rd heA r.aq.length 1 (List.zipWith cz r.aq ha)),(e7 (aU hP r.aq ha)),(rd tA ((cP r).length) 1 (List.zipWith DD (cP r) tz)),(e7 (aU L9 (cP r) tz)),(bZ gw 88 (fR.cells (fR.mk (oy r kA kC cA cC bA bC slA slC drA drC heA heC) (aM.mk tA ((cP r).length) tC) ms))),(bZ g1 80 [(vP gw)]),(bZ g2 58 [(Value.map (some gm))])] (gZ iV gm (bM df (er r.ah r.aq r.aI.length h 0))) (fun (x:Unit)=>(vT [])) (fun (x:Unit)=>True) (fun (x:Unit)=>(gZ iV gm (bM df (er r.ah r.aq r.aI.length (h+1) 0)))):=by
 have v:=hin.line
 have AI:=hin.iN
 have AJ:=hin.has
 have AC:=hin.iM
 have AA:=hin.draw
 have AD:=dH (r:=r)
 refine mF kr Tryz.func79 U U fun w0 Q hQ hN=>?_
 try dsimp only
 refine WS fun _ g=>fE 1 [] (mr 12 U I) U<|rS (SX (bQ U U) U U)<|rP 3 [] (mr 11 U I) ?_
 obtain ⟨ht,B⟩:=aN r.aq h om
 obtain ⟨A,C⟩:=aN ha h om
 have Z:(List.zipWith cz r.aq ha)[h]? =some (cz ht A):=dZ B C
 have s:=hin.oF _ _ _ B C
 have AB:=s.oi
 have N:=hok h ht om B
 obtain ⟨tr,G⟩:=aN (cP r) h om
 obtain ⟨tra,F⟩:=aN tz h om
 have c:(List.zipWith DD (cP r) tz)[h]? =some (DD tr tra):=dZ G F
 refine rS (IA h U (aF 9 U) MD dc om om)<|rS (gF h 0 (vS tra.1 tr.length tra.2) U cq (aF 9 U) c U dc U) ?_
 have AM:=yn B G
 have AF:tr.length=r.aI.length:=by rw [AM,List.length_map]; exact N.1
 have AE:=N.1
 refine rP 2 [] I ?_
 refine RK g<|aw ?_
 have E:(0≤r.aI.length):=by exact Nat.zero_le _
 refine bO (ι:={z:Nat // (z≤r.aI.length)}) [0,1,2,14,15] [1,2,3,4,5,6,7,8,9,10,11,12,13] U U (fun z=>[(16,(vI (z.1:Int)))]) (fun z=>[(gZ iV gm (bM df (er r.ah r.aq r.aI.length h z.1)))]) (fun _=>rfl) (fun _=>rfl) (fun z=>r.aI.length-z.1) ⟨0,E⟩ (aQ U) (aK [1,2,3,4,5,6,7,8,9,10,11,12,13,0]) ?_
 clear E
 rintro ⟨i,u⟩ J2 K
 try dsimp only
 have a:i<r.aI.length→(er r.ah r.aq r.aI.length h i).lookup (i:Int)=fT r.ah r.aq i h:=IS
 refine WS fun _ k=>rP 1 [] I ?_
 refine RK k<|al fun _ m=>bR U (aS fun h5=>?_) (aT fun h5=>?_)
 ·refine bB<|ae<|ae<|ax ?_
  rw [show (er r.ah r.aq r.aI.length h i)=(er r.ah r.aq r.aI.length (h+1) 0) from by rw [show i=r.aI.length by omega]; exact Nw]
  refine LM hN () 13 [] I U U U U ?_
  trivial
 refine WK m<|al fun _ L=>aw<|WS fun _ n=>rP 1 [] I ?_
 obtain ⟨x,hx⟩:=aN tr i om
 have y:=bP aa.cells hx
 refine rS (IA i U (show jc _ (rd tra.1 tr.length 2 (tr.map aa.cells)).holds from (dy 9 U (cj G F (by simp [L9])))) jL dc om om)<|rS (oB i 0 (aa.cells x) U cq (show jc _ (rd tra.1 tr.length 2 (tr.map aa.cells)).holds from (dy 9 U (cj G F (by simp [L9])))) y U dc U U)<|AL U dh fun b8=>bg 1 U<|fQ U cu U<|RK n<|WS fun _ o=>fE 2 [] (mr 13 U I) U<|rS (SX (jX (kV:=iV) (x:=(i:Int)) (l:=(er r.ah r.aq r.aI.length h i)) (f:=df) (z:=(aa.mk 0 0)) U U U lI (dB n9) vo (by exact aF 14 U)) U U)<|bg 3 U<|AL U dh fun AG=>fQ U cu U<|bg 1 U<|RK o<|al fun _ P=>WS fun _ H=>fE 1 [] (mr 13 U I) U<|rS (SX (bQ U U) U U)<|fE 4 [] (mr 12 U I) U<|rS (IA h U (aF 8 U) rj dc om om)<|rS (gF h 0 (vS A.1.1 ht.length A.1.2) U cq (aF 8 U) Z U dc U)<|rP 1 [] I ?_
 obtain ⟨d,hd⟩:=aN ht i om
 obtain ⟨da,p⟩:=aN A.2 i om
 have q:(List.zipWith aA.cells ht A.2)[i]? =some (aA.cells d da):=dZ hd p
 refine rS (IA i U (show jc _ (rd A.1.1 ht.length 7 (List.zipWith aA.cells ht A.2)).holds from (dy 9 U (cj B C cm))) x4 dc om om)<|rS (nM (i*7) U (show jc _ (rd A.1.1 ht.length 7 (List.zipWith aA.cells ht A.2)).holds from (dy 9 U (cj B C cm))) (Nat.mul_pos om dc) fD U)<|rS (gF i 0 (vB d.Out) U cq (show jc _ (rd A.1.1 ht.length 7 (List.zipWith aA.cells ht A.2)).holds from (dy 9 U (cj B C cm))) q U dc U)<|rP 1 [] I ?_
 refine db (t:=39) U (fun J=>?_) (fun J=>?_)
 ·refine bg 3 U<|RK H<|aP U<|WS fun _ R=>rP 2 [] (mr 14 U I) ?_
  have T:(cf (er r.ah r.aq r.aI.length h i) (i:Int))=(er r.ah r.aq r.aI.length h (i+1)):=by exact FZ (by exact GY B hd J)
  refine pz (kV:=iV) (x:=(i:Int)) (C':=[_,_,_,_,_,_,_,_,_,_,_,_,_,_,_,(gZ iV gm (bM df (er r.ah r.aq r.aI.length h (i+1))))]) 15 U U U U lI (dB n9) U ((lD _ _ _).symm.trans (congrArg _ T)) U<|RK R<|bB<|ae<|ax<|KK L<|an<|rP 2 [] I ?_
  refine aH ?_
  have AH:(vI (((i+1):Nat):Int))=(vI ((i:Int)+1)):=by exact cI om
  refine aR (K ⟨(i+1),(by first|omega|(simp only []; omega))⟩ _ _ _ U os (cN 5<|bk U AH<|dx.nil _) (aK [2,3,4,5,6,7,8,9,10,11,12,13,14,15]))
 refine rP 3 [] I ?_
 refine RK H<|cM U (fun D=>?_) (fun D=>?_)
 ·rw [Bool.not_eq_true'] at D
  refine WS fun _ S=>rP 2 [] (mr 14 U I) ?_
  have V:(cf (er r.ah r.aq r.aI.length h i) (i:Int))=(er r.ah r.aq r.aI.length h (i+1)):=by exact FZ (by exact Ek ((a om).symm.trans (Option.not_isSome_iff_eq_none.1 (by rw [D]; decide))))
  refine pz (kV:=iV) (x:=(i:Int)) (C':=[_,_,_,_,_,_,_,_,_,_,_,_,_,_,_,(gZ iV gm (bM df (er r.ah r.aq r.aI.length h (i+1))))]) 15 U U U U lI (dB n9) U ((lD _ _ _).symm.trans (congrArg _ V)) U<|RK S<|bB<|ae<|ax<|KK L<|an<|rP 2 [] I ?_
  refine aH ?_
  have W:(vI (((i+1):Nat):Int))=(vI ((i:Int)+1)):=by exact cI om
  refine aR (K ⟨(i+1),(by first|omega|(simp only []; omega))⟩ _ _ _ U os (cN 5<|bk U W<|dx.nil _) (aK [2,3,4,5,6,7,8,9,10,11,12,13,14,15]))
 rw [Bool.not_eq_false'] at D
 refine WK P<|an ?_
 obtain ⟨O,b⟩:=Option.isSome_iff_exists.1 D
 have M:fT r.ah r.aq i h=some O:=(a om).symm.trans b
 have e:=Ib AM hx hd
 have AK:=zJ (fun j x hj hx=>hok j x om hx) om M
 have w:=FJ (N.2 d (aX hd))
 rw [← e] at w
 rw [show ((List.lookup (i:Int) (er r.ah r.aq r.aI.length h i)).getD (aa.mk 0 0))=O from by rw [b]; rfl]
 refine fE 6 [0,1,2] (mr 14 U (mc 0 U (mc 1 U I))) U<|rS (BI U (sH om om om))<|fE 5 [0,1] (mc 0 U (mc 1 U I)) U<|rS (BI U (sH om om om))<|rP 1 [] I ?_
 refine rS (SX (bj (xs:=[(0,.tmp 52),(1,.tmp 58)]) (cs:=(aa.cells (aa.mk (O.Lo+(x.Lo/10)) (O.Hi+(x.Hi/10))))) U U (bh gu U)) U U) ?_
 have X:(dK (er r.ah r.aq r.aI.length h i) (i:Int) (aa.mk (O.Lo+(x.Lo/10)) (O.Hi+(x.Hi/10))))=(er r.ah r.aq r.aI.length h (i+1)):=by exact Nb om (by rw [M]; rfl) (by rw [e]; exact ES B hd (by rw [J]; decide) M)
 refine iu (kV:=iV) (x:=(i:Int)) (C':=[_,_,_,_,_,_,_,_,_,_,_,_,_,_,_,(gZ iV gm (bM df (er r.ah r.aq r.aI.length h (i+1))))]) 15 U U U U lI (dB n9) U ((gr _ _ _ _).symm.trans (congrArg _ X)) U<|aH<|aD<|KK L<|an<|rP 2 [] I ?_
 refine aH ?_
 have Y:(vI (((i+1):Nat):Int))=(vI ((i:Int)+1)):=by exact cI om
 refine aR (K ⟨(i+1),(by first|omega|(simp only []; omega))⟩ _ _ _ U os (cN 5<|bk U Y<|dx.nil _) (aK [2,3,4,5,6,7,8,9,10,11,12,13,14,15]))
theorem OG (r:cd) (kA:OA) (kC:Nat) (az:List RA) (cA:OA) (cC:Nat) (bA:OA) (bC:Nat) (slA:OA) (slC:Nat) (drA:OA) (drC:Nat) (ha:List cQ) (heA:OA) (heC:Nat) (tz:List RA) (tA:OA) (tC:Nat) (ms:Value) (gw n:Nat) (hin:fg r az ha) (htz:tz.length=r.aq.length) (hn:n≤r.aq.length) (hok:j7 r n):
 lu Tryz.prog 53 [(vP gw),(vI (n:Int))] [(rd kA r.ah.aJ.length 9 (r.ah.aJ.map ao.cells)),(rd cA r.ah.ai.length 2 (List.zipWith au.cells r.ah.ai az)),(e7 (aU au.gX r.ah.ai az)),(rd bA r.ah.ag.length 4 (r.ah.ag.map bE.cells)),(rd slA r.aI.length 1 (r.aI.map iC)),(rd drA r.bD.length 1 (r.bD.map iC)),(rd heA r.aq.length 1 (List.zipWith cz r.aq ha)),(e7 (aU hP r.aq ha)),(rd tA ((cP r).length) 1 (List.zipWith DD (cP r) tz)),(e7 (aU L9 (cP r) tz)),(bZ gw 88 (fR.cells (fR.mk (oy r kA kC cA cC bA bC slA slC drA drC heA heC) (aM.mk tA ((cP r).length) tC) ms)))] (fun (x:Nat)=>(Value.map (some x))) (fun (x:Nat)=>True) (fun (x:Nat)=>[(gZ iV x (bM df (eM r n)))]):=by
 have c:=hin.line
 have m:=hin.iN
 have o:=hin.has
 have e:=hin.iM
 have d:=hin.draw
 have f:=dH (r:=r)
 refine du kr Tryz.func53 U U fun q Q hQ hN=>?_
 try dsimp only
 refine WS fun _ V=>uj U U fun k=>rP 1 [] I ?_
 refine RK V<|WS fun _ W=>mu (kV:=iV) U U fun B=>?_
 try dsimp only
 refine AL U RF fun l=>Gp U NW U U<|RK W<|al fun _ X=>WS fun _ Y=>fE 1 [] (mc 2 U I) U<|rS (SX (bQ U U) U U)<|rP 5 [] (mr 13 U I) ?_
 refine RK Y<|aw ?_
 skip
 have A:(0≤r.aI.length):=by exact Nat.zero_le _
 refine bO (ι:={z:Nat // (z≤r.aI.length)}) [1,2,5,15] [0,2,3,4,5,6,7,8,9,10,11,12,13] U U (fun z=>[(16,(vI (z.1:Int)))]) (fun z=>[(gZ iV B (bM df (er r.ah r.aq z.1 0 0)))]) (fun _=>rfl) (fun _=>rfl) (fun z=>r.aI.length-z.1) ⟨0,A⟩ (aQ U) (aK [0,2,3,4,5,6,7,8,9,10,11,12,13,1]) ?_
 clear A
 rintro ⟨i,a⟩ J8 AA
 try dsimp only
 refine WS fun _ Z=>rP 1 [] I ?_
 refine RK Z<|al fun _ D=>cM U (aT fun S=>?_) (aS fun S=>?_)
 ·refine WK D<|al fun _ E=>aw<|WS fun _ F=>bg 2 U<|RK F<|an<|rP 2 [] (mc 0 U I) ?_
  refine rS (SX (bj (xs:=[]) (cs:=(aa.cells (aa.mk 0 0))) U U (bh gu U)) U U) ?_
  have O:(dK (er r.ah r.aq i 0 0) (i:Int) (aa.mk 0 0))=(er r.ah r.aq (i+1) 0 0):=by exact Ns
  refine iu (kV:=iV) (x:=(i:Int)) (C':=[_,_,_,_,_,_,_,_,_,_,_,_,_,(gZ iV B (bM df (er r.ah r.aq (i+1) 0 0)))]) 13 U U U U lI (dB n9) U ((gr _ _ _ _).symm.trans (congrArg _ O)) U<|aH<|aD<|KK E<|an<|rP 2 [] I ?_
  refine aH ?_
  have P:(vI (((i+1):Nat):Int))=(vI ((i:Int)+1)):=by exact cI om
  refine aR (AA ⟨(i+1),(by first|omega|(simp only []; omega))⟩ _ _ _ U os (cN 4<|bk U P<|dx.nil _) (aK [0,1,2,3,4,5,6,7,8,9,10,11,12,13]))
 refine bB<|ae<|ae<|ax<|KK X<|WS fun _ G=>rS (FU U)<|bg 1 U<|RK G<|al fun _ H=>WS fun _ AB=>rP 2 [] I ?_
 refine RK AB<|aw ?_
 rw [show (er r.ah r.aq i 0 0)=(er r.ah r.aq r.aI.length 0 0) from by rw [show i=r.aI.length by omega]]
 have A:(0≤n):=by exact Nat.zero_le _
 refine bO (ι:={z:Nat // (z≤n)}) [2,5,7,24] [0,1,2,3,4,5,6,7,8,9,10,11,12] U U (fun z=>[(25,(vI (z.1:Int)))]) (fun z=>[(gZ iV B (bM df (er r.ah r.aq r.aI.length z.1 0)))]) (fun _=>rfl) (fun _=>rfl) (fun z=>n-z.1) ⟨0,A⟩ (aQ U) (aK [0,1,2,3,4,5,6,7,8,9,10,11,12,13]) ?_
 clear A
 rintro ⟨h,b⟩ J19 C
 try dsimp only
 refine WS fun _ J=>rP 1 [] I ?_
 refine RK J<|al fun _ K=>bR U (aS fun T=>?_) (aT fun T=>?_)
 ·refine bB<|ae<|ae<|ax<|KK H<|al fun _ N=>?_
  rw [show (er r.ah r.aq r.aI.length h 0)=(eM r n) from by rw [show h=n by omega]; exact ML]
  refine an<|rP 2 [] (mc 0 U I) ?_
  refine RK N<|ar<|LX hQ B [13] [] I U U U U ?_
  trivial
 refine WK K<|al fun _ L=>aw<|WS fun _ M=>bg 2 U<|RK M<|an<|rP 2 [] I ?_
 refine iQ 13 U U U U (Kk r kA kC az cA cC bA bC slA slC drA drC ha heA heC tz tA tC ms gw h B k l hin htz om (by exact fun j x hj hx=>hok j x om hx)) U (eh 2 U U (dI (bT _)) (eh 3 U U (dI (bT _)) (eh 4 U U (dI (bT _)) (eh 5 U U (dI (bT _)) (eh 6 U U (dI (bT _)) (eh 7 U U (dI (bT _)) (eh 8 U U (dI (bT _)) (eh 9 U U (dI (bT _)) (eh 10 U U (dI (bT _)) (eh 11 U U (dI (bT _)) (eh 12 U U (dI (bT _)) (eh 1 U U (bT _) (eh 0 U U (bT _) ki))))))))))))) U (fun p g=>?_)
 try dsimp only
 refine aH<|aD<|KK L<|an<|rP 2 [] I ?_
 refine aH ?_
 have R:(vI (((h+1):Nat):Int))=(vI ((h:Int)+1)):=by exact cI om
 refine aR (C ⟨(h+1),(by first|omega|(simp only []; omega))⟩ _ _ _ U os (cN 4<|bk U R<|dx.nil _) (aK [0,1,2,3,4,5,6,7,8,9,10,11,12,13]))
end
section
open Go.RowKit
theorem oe (r:cd) (kA:OA) (kC:Nat) (az:List RA) (cA:OA) (cC:Nat) (bA:OA) (bC:Nat) (slA:OA) (slC:Nat) (drA:OA) (drC:Nat) (ha:List cQ) (heA:OA) (heC:Nat) (hin:fg r az ha):
 lu Tryz.prog 31 [(vA (bq.cells (oy r kA kC cA cC bA bC slA slC drA drC heA heC)))] [(rd dF 3 2 dg),(rd kA r.ah.aJ.length 9 (r.ah.aJ.map ao.cells)),(rd cA r.ah.ai.length 2 (List.zipWith au.cells r.ah.ai az)),(e7 (aU au.gX r.ah.ai az)),(rd bA r.ah.ag.length 4 (r.ah.ag.map bE.cells)),(rd slA r.aI.length 1 (r.aI.map iC)),(rd drA r.bD.length 1 (r.bD.map iC)),(rd heA r.aq.length 1 (List.zipWith cz r.aq ha)),(e7 (aU hP r.aq ha))] (fun (x:Bool×Int×Nat×Nat×(OA)×Nat×(List RA))=>bif x.1 then (vT [(Value.pointer (some ⟨x.2.2.1,0,none⟩)),(vI 0)]) else (vT [(Value.pointer none),(vI x.2.1)])) (fun (x:Bool×Int×Nat×Nat×(OA)×Nat×(List RA))=>(x.1=true→(bX r=0∧x.2.2.2.2.2.2.length=r.aq.length))∧(x.1=false→(x.2.1=bX r∧ ¬ bX r=0))) (fun (x:Bool×Int×Nat×Nat×(OA)×Nat×(List RA))=>bif x.1 then [(bZ x.2.2.1 88 (fR.cells (fR.mk (oy r kA kC cA cC bA bC slA slC drA drC heA heC) (aM.mk x.2.2.2.2.1 ((cP r).length) x.2.2.2.2.2.1) (Value.map (some x.2.2.2.1))))),(own x.2.2.2.2.1 x.2.2.2.2.2.1 85 1 (List.zipWith DD (cP r) x.2.2.2.2.2.2)),(bo (aU De (cP r) x.2.2.2.2.2.2)),(gZ iV x.2.2.2.1 (bM df (aB r)))] else []):=by
 have BA:=hin.line
 have BU:=hin.iN
 have BV:=hin.has
 have BK:=hin.iM
 have BI:=hin.draw
 have Aj:=dH (r:=r)
 refine du kr Tryz.func31 U U fun w0 Q hQ hN=>?_
 try dsimp only
 refine WS fun _ A1=>fV U fun b2=>bg 2 U<|RK A1<|al fun _ A2=>WS fun _ A3=>bg 1 U<|rS (LP (bK.cells (lp r.ah kA kC cA cC bA bC)) 0 U cq U U U)<|rS (CL (Cl r.ah kA kC az cA cC bA bC asm) (bp [2,3,4,5]) U)<|bg 1 U<|RK A3<|WS fun _ A4=>rP 2 [] I ?_
 refine RK A4<|cM U (bx fun B=>?_) (bw fun B=>?_)
 ·refine WS fun _ A5=>rP 3 [] I ?_
  refine RK A5<|ar<|LX hQ (false,(dw r.ah),0,0,none,0,[]) [] [] I U (by rfl) U U ?_
  exact rp<|K3 (yz B) B
 refine WK A2<|WS fun _ A6=>fE 4 [] (mc 0 U I) U<|RK A6<|WS fun _ A7=>rP 2 [] (mc 0 U I) ?_
 refine cX (wX drA r.bD.length drC) (aL) U fun An BL=>?_
 try dsimp only
 refine cX (w6 r.bD drA drC An asm) (bp [8,0]) U fun BH BM=>?_
 obtain ⟨BO,BT⟩:=BH
 try dsimp only
 refine bg 1 U<|RK A7<|al fun _ e=>WS fun _ H=>rP 1 [] I ?_
 refine cU (xs:=[.tmp 29]) (cs:=[(vI (r.aI.length:Int))]) U cy jd U U U U (by simp [Value.cells]) U U fun Ao=>?_
 refine rS (CL (ej.eq (j_ 1 5 ([(r.aI.length:Int)]) (some ⟨Ao,0,none⟩) 1 (by (simp; done))) cT) (ay (aY 0 U U (by simp [bJ]) U)<|aL) U) ?_
 refine rP 2 [] I ?_
 refine db (t:=33) U (bx fun As=>?_) (bw fun As=>?_)
 ·refine bg 26 U<|RK H<|aP U<|WS fun _ f=>rP 2 [] I ?_
  refine RK f<|ar<|LX hQ (false,60,0,0,none,0,[]) [] [] I U (by rfl) U U ?_
  exact rp<|pM (kq B (fun q:eW r=>by have q1:=q.num; have q2:=q.xT; have q3:=q.nh; have q4:=q.ym; omega))
 refine rP 6 [] I ?_
 refine db (t:=39) U (bx fun At=>?_) (bw fun At=>?_)
 ·refine bg 20 U<|RK H<|aP U<|WS fun _ g=>rP 2 [] I ?_
  refine RK g<|ar<|LX hQ (false,60,0,0,none,0,[]) [] [] I U (by rfl) U U ?_
  exact rp<|pM (kq B (fun q:eW r=>by have q1:=q.num; have q2:=q.xT; have q3:=q.nh; have q4:=q.ym; omega))
 refine rP 2 [] (mc 3 U I) ?_
 refine cU (xs:=[.tmp 41]) (cs:=[(vI r.ed)]) U cy jd U U U U (by simp [Value.cells]) U U fun Ap=>?_
 refine rS (CL (ej.eq (j_ 0 5 ([r.ed]) (some ⟨Ap,0,none⟩) 1 (by (simp; done))) cT) (ay (aY 0 U U (by simp [bJ]) U)<|aL) U) ?_
 refine rP 3 [] I ?_
 refine db (t:=46) U (bx fun Au=>?_) (bw fun Au=>?_)
 ·refine bg 13 U<|RK H<|aP U<|WS fun _ k=>rP 2 [] I ?_
  refine RK k<|ar<|LX hQ (false,60,0,0,none,0,[]) [] [] I U (by rfl) U U ?_
  exact rp<|pM (kq B (fun q:eW r=>by have q1:=q.num; have q2:=q.xT; have q3:=q.nh; have q4:=q.ym; omega))
 refine rP 3 [] (mc 4 U I) ?_
 refine cU (xs:=[.tmp 49]) (cs:=[(vI (r.aq.length:Int))]) U cy jd U U U U (by simp [Value.cells]) U U fun Aq=>?_
 refine rS (CL (ej.eq (j_ 1 3 ([(r.aq.length:Int)]) (some ⟨Aq,0,none⟩) 1 (by (simp; done))) cT) (ay (aY 0 U U (by simp [bJ]) U)<|aL) U) ?_
 refine rP 3 [] I ?_
 refine db (t:=54) U (bx fun Av=>?_) (bw fun Av=>?_)
 ·refine bg 5 U<|RK H<|aP U<|WS fun _ l=>rP 2 [] I ?_
  refine RK l<|ar<|LX hQ (false,60,0,0,none,0,[]) [] [] I U (by rfl) U U ?_
  exact rp<|pM (kq B (fun q:eW r=>by have q1:=q.num; have q2:=q.xT; have q3:=q.nh; have q4:=q.ym; omega))
 refine fE 2 [] (mc 5 U I) U<|rS (CL (j_ 0 9999 r.aI slA slC asm) (bp [11]) U)<|rP 2 [] I ?_
 refine RK H<|cM U (fun N=>?_) (fun N=>?_)
 ·rw [Bool.not_eq_true'] at N
  refine WS fun _ m=>rP 2 [] I ?_
  refine RK m<|ar<|LX hQ (false,60,0,0,none,0,[]) [] [] I U (by rfl) U U ?_
  exact rp<|pM (kq B (fun q:eW r=>by exact absurd (q.ins.symm.trans N) dc))
 rw [Bool.not_eq_false'] at N
 refine WK e<|al fun _ o=>WS fun _ p=>?_
 have BW:(dj r.bD).length=r.aI.length:=by rw [gD]; omega
 refine rP 2 [] I ?_
 refine RK p<|aw ?_
 have A:(0≤r.aI.length)∧(qJ r 0):=by exact ⟨Nat.zero_le _,DE⟩
 refine bO (ι:={z:Nat // (z≤r.aI.length)∧(qJ r z)}) [1,5,6,60] [3,5,6,7,8,9,10,11,12,13,14] U U (fun z=>[(61,(vI (z.1:Int)))]) (fun z=>[]) (fun _=>rfl) (fun _=>rfl) (fun z=>r.aI.length-z.1) ⟨0,A⟩ (aQ U) (aK [3,5,6,7,8,9,10,11,12,13,14]) ?_
 clear A
 rintro ⟨i,⟨A_,J⟩⟩ J28 V
 try dsimp only
 refine WS fun _ s=>rP 1 [] I ?_
 refine RK s<|al fun _ w=>cM U (aT fun Ax=>?_) (aS fun Ax=>?_)
 ·refine WK w<|al fun _ W=>aw<|WS fun _ AA=>bg 2 U<|RK AA<|al fun _ O=>dG cD 24 kr<|dP 2 [] I ?_
  obtain ⟨x,hx⟩:=aN (dj r.bD) i om
  have BB:=bP iC hx
  refine dS (IA i U (ak (n:=r.bD.length) 0 U sq) cy dc om om) ?_
  refine dS (gF i 0 (vI x) U cq (ak (n:=(dj r.bD).length) 0 U sm) BB U dc U)<|dP 3 [] I ?_
  refine ja (t:=70) U (bx fun S=>?_) (bw fun S=>?_)
  ·refine lB 17 U<|cO<|RK O<|aP U<|WS fun _ AB=>rP 2 [] I ?_
   refine RK AB<|ar<|LX hQ (false,60,0,0,none,0,[]) [] [] I U (by rfl) U U ?_
   exact rp<|pM (kq B (fun q:eW r=>by exact absurd (q.drawn hx) S))
  refine dP 3 [] I ?_
  refine jo (t:=73) U (aS fun Ay=>?_) (aT fun Ay=>?_)
  ·refine lB 14 U<|cO<|RK O<|aV U<|bY<|aD<|KK W<|an<|rP 2 [] I ?_
   refine aH ?_
   have Ad:(vI (((i+1):Nat):Int))=(vI ((i:Int)+1)):=by exact cI om
   refine aR (V ⟨(i+1),⟨om,wu J hx S (fun u v hu hv hw=>by omega)⟩⟩ _ _ _ U os (cN 4<|bk U Ad<|dx.nil _) (aK [0,1,2,3,4,5,6,7,8,9,10]))
  refine dP 3 [] (mc 1 U I) ?_
  obtain ⟨y,hy⟩:=aN r.aI i om
  have BC:=bP iC hy
  refine dS (IA i U (aF 7 U) cy dc om om)<|dS (gF i 0 (vI y) U cq (aF 7 U) BC U dc U)<|dP 4 [] (mc 1 U I) ?_
  obtain ⟨z,hz⟩:=aN r.aI (i-1) om
  have BD:=bP iC hz
  refine dS (IA (i-1) U (aF 7 U) cy dc om om)<|dS (gF (i-1) 0 (vI z) U cq (aF 7 U) BD U dc U)<|dP 3 [] I ?_
  refine cO<|RK O<|bR U (aS fun Az=>?_) (aT fun Az=>?_)
  ·refine bY<|aD<|KK W<|an<|rP 2 [] I ?_
   refine aH ?_
   have Ac:(vI (((i+1):Nat):Int))=(vI ((i:Int)+1)):=by exact cI om
   refine aR (V ⟨(i+1),⟨om,wu J hx S (fun u v hu hv hw=>by (rw [hy] at hu; cases hu; rw [hz] at hw; cases hw; omega))⟩⟩ _ _ _ rfl os (cN 4<|bk rfl Ac<|dx.nil _) (aK [0,1,2,3,4,5,6,7,8,9,10]))
  refine WS fun _ AC=>rP 2 [] I ?_
  refine RK AC<|ar<|LX hQ (false,60,0,0,none,0,[]) [] [] I U (by rfl) U U ?_
  exact rp<|pM (kq B (fun q:eW r=>by have q1:=(q.ids i y hy).2 z om hz; omega))
 refine bB<|ae<|ae<|ax<|KK o<|WS fun _ AE=>fE 1 [] (mc 1 U I) U<|rS (SX (bj (xs:=[(0,.tmp 89)]) (cs:=(fR.cells (fR.mk (oy r kA kC cA cC bA bC slA slC drA drC heA heC) (aM.mk none 0 0) (Value.map none)))) U U (bh UO U)) U U)<|fV U fun L=>bg 1 U<|RK AE<|al fun _ AF=>WS fun _ AG=>rP 4 [] (mc 2 U I) ?_
 refine RK AG<|aw<|fY 85 1<|ov ?_
 have A:(0≤r.aq.length)∧(([]:List RA).length=0)∧(j7 r 0):=by exact ⟨Nat.zero_le _,rfl,xr⟩
 refine bO (ι:={z:Nat×(List RA)×(OA)×Nat // (z.1≤r.aq.length)∧(z.2.1.length=z.1)∧(j7 r z.1)}) [1,5,8,93,94] [3,4,5,6,7,8,9,10,11,12,13] U U (fun z=>[(95,(vI (z.1.1:Int)))]) (fun z=>[(bo (aU De (gH r z.1.1) z.1.2.1)),(own z.1.2.2.1 z.1.2.2.2 85 1 (List.map sC (List.zipWith Bs (gH r z.1.1) z.1.2.1))),(bZ L 88 (fR.cells (fR.mk (oy r kA kC cA cC bA bC slA slC drA drC heA heC) (aM.mk z.1.2.2.1 ((List.zipWith Bs (gH r z.1.1) z.1.2.1).length) z.1.2.2.2) (Value.map none))))]) (fun _=>rfl) (fun _=>rfl) (fun z=>r.aq.length-z.1.1) ⟨(0,([]:List RA),none,0),A⟩ (aQ U) (aK [3,4,5,6,7,8,9,10,11,12,13,0,1,2]) ?_
 clear A
 rintro ⟨⟨h,tz,a,c⟩,⟨T,C,E⟩⟩ J42 Z
 try dsimp only at T C E
 try dsimp only
 refine WS fun _ AH=>rP 1 [] I ?_
 refine RK AH<|al fun _ AI=>bR U (aS fun A0=>?_) (aT fun A0=>?_)
 ·refine bB<|ae<|ae<|ax<|KK AF<|al fun _ Aa=>?_
  have A9:gH r h=cP r:=by unfold cP; rw [show h=r.aq.length by omega]
  have Ak:tz.length=r.aq.length:=by omega
  rw [A9,zC,show (List.zipWith Bs (cP r) tz).length=(cP r).length from by rw [List.length_zipWith]; omega]
  have X:eW r:=JF (n:=i) om om om om om N J E om
  refine an<|rP 5 [] (mc 1 U I) ?_
  refine cX (OG r kA kC az cA cC bA bC slA slC drA drC ha heA heC tz a c (Value.map none) L r.aq.length hin asm om (by exact X.AD)) (lQ [3,4,5,6,7,8,9,10]<|ay (ak (n:=(cP r).length) 12 U (mM (by rw [Aj]; exact Ak)))<|ay (dW 11 U td)<|fH 13 U U<|aL) U fun K BN=>?_
  try dsimp only
  refine rS (SX (bQ U U) U U)<|rP 1 [] I ?_
  refine ji (vs:=[(Value.map (some K))]) (cs':=(fR.cells (fR.mk (oy r kA kC cA cC bA bC slA slC drA drC heA heC) (aM.mk a ((cP r).length) c) (Value.map (some K))))) (C':=[_,_,_,_,_,_,_,_,_,_,_,_,_,_,(bZ L 88 (fR.cells (fR.mk (oy r kA kC cA cC bA bC slA slC drA drC heA heC) (aM.mk a ((cP r).length) c) (Value.map (some K)))))]) 14 U U U NW U U U U U U U<|RK Aa<|al fun _ Ab=>?_
  rw [show eM r r.aq.length=aB r from rfl]
  refine an<|rP 3 [] I ?_
  refine RK Ab<|ar ?_
  refine LX hQ (true,0,L,K,a,c,tz) [14,13,12,0] [] I U (by (show List.all _ _=true; simp only [cond_true,fJ,List.all_nil,xZ,Bool.and_true]; rfl)) U U ?_
  exact ⟨fun _=>⟨Cs B X,Ak⟩,MR⟩
 refine WK AI<|al fun _ AJ=>aw<|WS fun _ AK=>?_
 obtain ⟨ht,D⟩:=aN r.aq h om
 obtain ⟨G,BE⟩:=aN ha h om
 have Ai:(List.zipWith cz r.aq ha)[h]? =some (cz ht G):=dZ D BE
 refine rS (IA h U (aF 9 U) rj dc om om)<|rS (gF h 0 (vS G.1.1 ht.length G.1.2) U cq (aF 9 U) Ai U dc U)<|rP 1 [] I ?_
 refine RK AK<|al fun _ AM=>WS fun _ AN=>?_
 have Ah:=hin.oF _ _ _ D BE
 have BJ:=Ah.oi
 refine rP 4 [] I ?_
 refine RK AN<|cM U (bx fun Y=>?_) (bw fun Y=>?_)
 ·refine WS fun _ AO=>rP 2 [] I ?_
  refine RK AO<|ar<|LX hQ (false,60,0,0,none,0,[]) [] [] I U (by rfl) U U ?_
  exact rp<|pM (kq B (fun q:eW r=>by have q1:=(q.oF ht (aX D)).1; omega))
 refine WK AM<|WS fun _ AP=>bg 1 U<|RK AP<|al fun _ AQ=>WS fun _ AR=>rP 3 [] I ?_
 refine RK AR<|aw<|fY 38 2 ?_
 have A:(0≤ht.length)∧(nP r.ah ht 0):=by exact ⟨Nat.zero_le _,uV⟩
 refine bO (ι:={z:Nat×(OA)×Nat // (z.1≤ht.length)∧(nP r.ah ht z.1)}) [1,5,8,10,93,94,95,103,104] [1,2,3,4,5,6,7,8,9,10,11,12,13,14] U U (fun z=>[(11,(vS z.1.2.1 (((ht.take z.1.1).map (dD r.ah)).length) z.1.2.2)),(105,(vI (z.1.1:Int)))]) (fun z=>[(own z.1.2.1 z.1.2.2 38 2 (((ht.take z.1.1).map (dD r.ah)).map aa.cells))]) (fun _=>rfl) (fun _=>rfl) (fun z=>ht.length-z.1.1) ⟨(0,none,0),A⟩ (aQ U) (aK [1,2,3,4,5,6,7,8,9,10,11,12,13,14,0]) ?_
 clear A
 rintro ⟨⟨j,la,lc⟩,⟨Al,F⟩⟩ J53 b
 try dsimp only at Al F
 try dsimp only
 refine WS fun _ AS=>rP 1 [] I ?_
 refine RK AS<|al fun _ AT=>bR U (aS fun Aw=>?_) (aT fun Aw=>?_)
 ·refine bB<|ae<|ae<|ax<|KK AQ<|an<|bg 2 U<|rS (SX (bQ U U) U U)<|rP 2 [] (mc 13 U I) ?_
  rw [show ((ht.take j).map (dD r.ah))=ht.map (dD r.ah) from by rw [List.take_of_length_le om]]
  refine rP 1 [] I ?_
  refine cU (xs:=[.tmp 128]) (cs:=[(vS la ((ht.map (dD r.ah)).length) lc)]) U MD Ta U U U U (by simp [Value.cells]) U U fun BS=>?_
  refine c_ (es2:=(List.map sC (List.zipWith Bs (gH r (h+1)) (tz++[(la,lc)])))) (m':=(List.zipWith Bs (gH r (h+1)) (tz++[(la,lc)])).length) 13 U U U QV U U sm (aY (es:=List.map sC [(aM.mk la ((ht.map (dD r.ah)).length) lc)]) 0 U U (by simp [yx]) U) (JP _) (by rw [List.length_zipWith,kM om]; omega) (by rw [List.length_zipWith,kM om]; simp only [maxLen]; omega) (by rw [sU D C,List.map_append]; rfl) (by rw [sU D C]; simp) U fun P R=>?_
  try dsimp only
  refine rS (SX (bQ U U) U U)<|bg 1 U<|ji (vs:=[(vS P ((List.zipWith Bs (gH r (h+1)) (tz++[(la,lc)])).length) R)]) (cs':=(fR.cells (fR.mk (oy r kA kC cA cC bA bC slA slC drA drC heA heC) (aM.mk P ((List.zipWith Bs (gH r (h+1)) (tz++[(la,lc)])).length) R) (Value.map none)))) (C':=[_,_,_,_,_,_,_,_,_,_,_,_,_,_,(bZ L 88 (fR.cells (fR.mk (oy r kA kC cA cC bA bC slA slC drA drC heA heC) (aM.mk P ((List.zipWith Bs (gH r (h+1)) (tz++[(la,lc)])).length) R) (Value.map none)))),_]) 14 U U U TE U U U U U U U<|aH<|aD<|KK AJ<|an<|rP 2 [] I ?_
  refine aH<|CY (X':=aU De (gH r (h+1)) (tz++[(la,lc)])) 12 15 U U (CK (a:=(la,lc)) D C) ?_
  have Af:(vI (((h+1):Nat):Int))=(vI ((h:Int)+1)):=by exact cI om
  refine aR (Z ⟨((h+1),(tz++[(la,lc)]),P,R),⟨om,by simp; omega,w9 E D (F3 om F om)⟩⟩ _ _ _ U os (cN 5<|bk U Af<|dx.nil _) (aK [2,3,4,5,6,7,8,9,10,11,12,0,13,14]))
 refine WK AT<|al fun _ AU=>aw<|WS fun _ AV=>?_
 obtain ⟨d,hd⟩:=aN ht j om
 obtain ⟨da,Ag⟩:=aN G.2 j om
 have A8:(List.zipWith aA.cells ht G.2)[j]? =some (aA.cells d da):=dZ hd Ag
 refine rS (IA j U (show jc _ (rd G.1.1 ht.length 7 (List.zipWith aA.cells ht G.2)).holds from (dy 10 U (cj D BE cm))) x4 dc om om)<|rS (oB j 0 (br.cells (br.mk d.Out d.eO d.Time (eL.mk d.cx.Start d.cx.gi (aM.mk da.1 d.cx.aj.length da.2)))) U cq (show jc _ (rd G.1.1 ht.length 7 (List.zipWith aA.cells ht G.2)).holds from (dy 10 U (cj D BE cm))) A8 U dc U U)<|AL U No fun BP=>fQ U QG U<|RK AV<|WS fun _ AW=>bg 1 U<|rS (LP (bK.cells (lp r.ah kA kC cA cC bA bC)) 2 U cq U U U)<|rP 1 [] (mc 0 U I) ?_
 have BX:=Ah.sig d (aX hd)
 refine rS (CL (Du r.ah kA kC az cA cC bA bC d da.1 da.2 asm asm) (lQ [3,4,5,6,7]<|ay (show jc _ (rd da.1 d.cx.aj.length 2 (d.cx.aj.map aO.cells)).holds from (dy 11 U (cj D BE (cS _ (cj hd Ag (by simp [aA.gX]))))))<|aL) U)<|bg 3 U<|AL U dh fun BQ=>fQ U cu U<|bg 1 U<|RK AW<|al fun _ AX=>WS fun _ AY=>rP 2 [] I ?_
 refine RK AY<|bR U (bw fun M=>?_) (bx fun M=>?_)
 ·refine WK AX<|an<|rP 2 [] (mc 0 U I) ?_
  refine cU (xs:=[.tmp 119]) (cs:=(aa.cells (dD r.ah d))) U jL dh U U U U (by simp [Value.cells,aa.aW]) U U fun BR=>?_
  refine c_ (es2:=(List.map aa.cells ((ht.take (j+1)).map (dD r.ah)))) (m':=((ht.take (j+1)).map (dD r.ah)).length) 17 U U U DG U U sm (aY (es:=List.map aa.cells [(dD r.ah d)]) 0 U U (by simp [aa.aW]) U) (gU _) (by simp only [List.length_map,List.length_take]; omega) (by simp only [maxLen,List.length_map,List.length_take]; omega) (by rw [List.take_add_one,hd]; simp) sq U fun Am Ar=>?_
  try dsimp only
  refine bg 1 U<|aH<|aD<|KK AU<|an<|rP 2 [] I ?_
  refine aH ?_
  have Ae:(vI (((j+1):Nat):Int))=(vI ((j:Int)+1)):=by exact cI om
  refine aR (b ⟨((j+1),Am,Ar),⟨om,u0 F hd M⟩⟩ _ _ _ U os (cN 10<|bk U Ae<|dx.nil _) (aK [3,4,5,6,7,8,9,10,11,12,13,14,15,16,17]))
 refine WS fun _ AZ=>rP 2 [] I ?_
 refine RK AZ<|ar<|LX hQ (false,60,0,0,none,0,[]) [] [] I U (by rfl) U U ?_
 exact rp<|pM (kq B (fun q:eW r=>by exact M ((q.oF ht (aX D)).2 d (aX hd))))
end
section
open Go.RowKit
theorem Dw (l:List Int) (lA:OA) (lC:Nat) (hlen:l.length=1):
 Dd Tryz.prog 56 [(vS lA 1 lC)] [] (own lA lC 3 1 (l.map iC)) (fun (x:Unit)=>(vS lA 1 lC)) (fun (x:Unit)=>True) (fun (x:Unit)=>(own lA lC 3 1 (l.map iC))):=by
 refine mF kr Tryz.func56 U U fun E Q hQ hN=>?_
 try dsimp only
 refine WS fun _ A=>bg 1 U<|RK A<|al fun _ D=>WS fun _ B=>bg 2 U<|rS (SX (b_ (r:= .bool true) U U U gS) U U)<|RK B<|aP U<|WS fun _ C=>rP 2 [] I ?_
 refine RK C<|ar<|LM hQ () 0 [] I U U U U ?_
 trivial
theorem Dk (l:List Int) (lA:OA) (lC:Nat) (hlen:l.length=2):
 Dd Tryz.prog 56 [(vS lA 2 lC)] [] (own lA lC 3 1 (l.map iC)) (fun (x:(List Int))=>(vS lA (H3 l) lC)) (fun (x:(List Int))=>True) (fun (x:(List Int))=>(own lA lC 3 1 (x.map iC))):=by
 refine mF kr Tryz.func56 U U fun c Q hQ hN=>?_
 try dsimp only
 refine WS fun _ M=>bg 1 U<|RK M<|al fun _ N=>WS fun _ O=>bg 2 U<|rS (SX (b_ (r:= .bool false) U U U gS) U U)<|RK O<|aV U<|WK N<|al fun _ P=>WS fun _ R=>bg 1 U<|RK R<|aw<|jR 3<|ew fun R6 V=>al fun _ S=>WS fun _ T=>bg 3 U<|rS (SX (b_ (r:= .bool true) U U U gS) U U)<|RK T<|aP U<|WK S<|al fun _ AA=>aw<|al fun _ B=>dG cD 10 kr<|dP 2 [] I ?_
 obtain ⟨x,hx⟩:=aN l 1 om
 have W:=bP iC hx
 refine dS (IA 1 U (ak (n:=2) 0 U sq) cy dc U om) ?_
 refine dS (gF 1 0 (vI x) U cq (ak (n:=l.length) 0 U sm) W U dc U)<|dP 2 [] I ?_
 refine dS (SX (b_ (r:= .int .i64 0) U U U (rz ⟨dc,dc⟩)) U U) ?_
 obtain ⟨y,hy⟩:=aN l 0 om
 have X:=bP iC hy
 refine dS (IA 0 U (ak (n:=2) 0 U sq) cy dc U om) ?_
 refine dS (gF 0 0 (vI y) U cq (ak (n:=l.length) 0 U sm) X U dc U)<|dP 1 [] I ?_
 refine cO<|RK B<|bR U (aS fun A=>?_) (aT fun A=>?_)
 ·refine bY<|aD<|KK AA<|an<|bg 1 U<|rS (SX (b_ (r:= .int .i64 2) U U U (ia ⟨dc,dc⟩)) U U)<|bg 1 U<|RK V<|ew fun R19 b=>al fun _ Z=>WS fun _ AB=>bg 3 U<|rS (SX (b_ (r:= .bool false) U U U gS) U U)<|RK AB<|aV U<|bB<|ae<|ae<|ax<|KK P<|WS fun _ J=>rP 2 [] I ?_
  refine RK J<|ar ?_
  refine LM hQ l 0 [] I U U U ?_ ?_
  ·(rw [Ce hlen hy hx A,hlen]; rfl)
  ·trivial
 refine WS fun _ C=>rP 2 [] I ?_
 refine rS (Vh 1 U cy U os) ?_
 refine bg 1 U<|RK C<|al fun _ D=>WS fun _ E=>bg 1 U<|RK E<|aw<|jR 2<|ew fun R14 a=>al fun _ Y=>WS fun _ F=>rP 4 [] I ?_
 refine RK F<|cM U (aT fun L=>?_) (aS fun L=>?_)
 ·exfalso; omega
 refine bB<|ae<|ae<|ax<|KK D<|WS fun _ G=>rP 2 [] I ?_
 refine rS (Vh 1 U cy U os) ?_
 refine NU (k:=1) 0 rfl rfl ph (by intro v hv; simp [Value.cells] at hv; subst hv; rfl) rfl os om ?_
 try dsimp only
 rw [show (own lA lC 3 1 ((l.map iC).take 1))=(own lA lC 3 1 ((l.take 1).map iC)) from by rw [List.map_take]]
 refine RK G<|WS fun _ H=>Ln 0 U fun K=>?_
 simp only [List.length_map,List.length_take] at K
 refine bg 2 U<|rS (Un 1 U cy U om)<|rP 1 [] I ?_
 refine RK H<|ar ?_
 refine LM hQ (l.take 1) 0 [] I U U U ?_ ?_
 ·(rw [zu hlen hy hx A]; rfl)
 ·trivial
end
section
open Go.RowKit
theorem zE (r:cd) (kA:OA) (kC:Nat) (az:List RA) (cA:OA) (cC:Nat) (bA:OA) (bC:Nat) (slA:OA) (slC:Nat) (drA:OA) (drC:Nat) (ha:List cQ) (heA:OA) (heC:Nat) (a:Int) (gq:Nat) (hin:fg r az ha):
 lu Tryz.prog 34 [(vA (bq.cells (oy r kA kC cA cC bA bC slA slC drA drC heA heC))),(vS (some ⟨gq,0,none⟩) 1 1)] [(rd dF 3 2 dg),(rd kA r.ah.aJ.length 9 (r.ah.aJ.map ao.cells)),(rd cA r.ah.ai.length 2 (List.zipWith au.cells r.ah.ai az)),(e7 (aU au.gX r.ah.ai az)),(rd bA r.ah.ag.length 4 (r.ah.ag.map bE.cells)),(rd slA r.aI.length 1 (r.aI.map iC)),(rd drA r.bD.length 1 (r.bD.map iC)),(rd heA r.aq.length 1 (List.zipWith cz r.aq ha)),(e7 (aU hP r.aq ha)),(bZ gq 3 [(vI a)])] (fun (x:Bool×Int×Nat×Nat×(OA)×Nat×(List RA)×(OA)×Nat)=>bif x.1 then (vT [(Value.pointer (some ⟨x.2.2.1,0,none⟩)),(vS x.2.2.2.2.2.2.2.1 1 x.2.2.2.2.2.2.2.2),(vI 0)]) else (vT [(Value.pointer none),(vS none 0 0),(vI x.2.1)])) (fun (x:Bool×Int×Nat×Nat×(OA)×Nat×(List RA)×(OA)×Nat)=>(x.1=true→(jy r a=0∧x.2.2.2.2.2.2.1.length=r.aq.length))∧(x.1=false→(x.2.1=jy r a∧ ¬ jy r a=0))) (fun (x:Bool×Int×Nat×Nat×(OA)×Nat×(List RA)×(OA)×Nat)=>bif x.1 then [(bZ x.2.2.1 88 (fR.cells (fR.mk (oy r kA kC cA cC bA bC slA slC drA drC heA heC) (aM.mk x.2.2.2.2.1 ((cP r).length) x.2.2.2.2.2.1) (Value.map (some x.2.2.2.1))))),(own x.2.2.2.2.1 x.2.2.2.2.2.1 85 1 (List.zipWith DD (cP r) x.2.2.2.2.2.2.1)),(bo (aU De (cP r) x.2.2.2.2.2.2.1)),(gZ iV x.2.2.2.1 (bM df (aB r))),(own x.2.2.2.2.2.2.2.1 x.2.2.2.2.2.2.2.2 38 2 ([(aG (aB r) a)].map aa.cells))] else []):=by
 have y:=hin.line
 have AN:=hin.iN
 have AO:=hin.has
 have AF:=hin.iM
 have AE:=hin.draw
 have g:=dH (r:=r)
 refine du kr Tryz.func34 U U fun w0 Q hQ hN=>?_
 try dsimp only
 refine WS fun _ w=>fV U fun b2=>bg 3 U<|RK w<|WS fun _ N=>rP 1 [] (mc 0 U I) ?_
 refine cX (oe r kA kC az cA cC bA bC slA slC drA drC ha heA heC hin) (bp [1,2,3,4,5,6,7,8,9]) U fun y4 j=>?_
 obtain ⟨k,AM,F,E,m,B,C⟩:=y4
 cases k
 ·obtain ⟨e,he⟩:=j.2 rfl
  try dsimp only at e he
  subst e
  try dsimp only [cond_true,cond_false,List.cons_append,List.nil_append]
  refine bg 5 U<|RK N<|al fun _ AB=>WS fun _ H=>rP 2 [] I ?_
  refine RK H<|bR U (bw fun G=>?_) (bx fun G=>?_)
  ·exact absurd G he
  refine WS fun _ AR=>rP 4 [] I ?_
  refine RK AR<|ar<|LX hQ (false,(bX r),0,0,none,0,[],none,0) [] [] I U (by rfl) U U ?_
  exact rp<|K3 (H7 (i:=a) he) he
 obtain ⟨he,h⟩:=j.1 rfl
 try dsimp only [cond_true,cond_false,List.cons_append,List.nil_append]
 refine bg 5 U<|RK N<|al fun _ J=>WS fun _ K=>bg 1 U<|rS (SX (b_ (r:= .bool false) U U U nI) U U)<|RK K<|aV U<|WK J<|al fun _ L=>WS fun _ A=>rP 2 [] I ?_
 refine rS (CL (ej.eq (Ao r kA kC az cA cC bA bC slA slC drA drC ha heA heC C m B (Value.map (some E)) F ([a]) (some ⟨gq,0,none⟩) 1 hin (by (simp; done))) cT) (lQ [6,7,8,9,10,11,12,13]<|ay (ak (n:=(cP r).length) 1 U (mM (by rw [g]; exact h)))<|ay (dW 2 U td)<|fH 0 U U<|ay (oc 14 U U (by simp [bJ]) U)<|aL) U) ?_
 refine rP 2 [] I ?_
 refine db (t:=26) U (bx fun v=>?_) (bw fun v=>?_)
 ·refine bg 3 U<|bg 4 U<|bg 2 U<|RK A<|aP U<|WS fun _ M=>rP 3 [] I ?_
  refine RK M<|ar<|LX hQ (false,2,0,0,none,0,[],none,0) [] [] I U (by rfl) U U ?_
  exact rp<|pM (Im (i:=a) he om)
 refine rP 1 [] I ?_
 refine cX (wX (some ⟨gq,0,none⟩) 1 1) (aL) U fun q AG=>?_
 try dsimp only
 refine cX (w6 ([a]) (some ⟨gq,0,none⟩) 1 q (by (simp; done))) (ay (oc 15 U U (by simp [bJ]) U)<|fH 0 U U<|aL) U fun AA AH=>?_
 obtain ⟨o,s⟩:=AA
 try dsimp only
 try dsimp only
 refine iQ 0 U U U U (Dw (dj ([a])) o s (by (simp; done))) U ki U (fun AP AI=>?_)
 try dsimp only
 refine bg 3 U<|rS (SX (b_ (r:= .bool false) U U U gS) U U)<|bg 1 U<|RK A<|aV U<|WK L<|WS fun _ O=>bg 1 U<|RK O<|al fun _ P=>WS fun _ R=>bg 3 U<|RK R<|aw<|jR 2<|ew fun R33 d=>WS fun _ S=>rS (SX (b_ (r:= .bool true) U U U gS) U U)<|RK S<|al fun _ T=>aP U<|WK T<|al fun _ AQ=>aw<|WS fun _ V=>rS (Ts 0 0 U cy U dc U)<|fE 2 [] (mr 16 U I) U<|RK V<|WS fun _ W=>bg 1 U<|rS (SX (bQ U U) U U)<|fE 3 [] (mc 2 U I) U<|rS (SX (jX (kV:=iV) (x:=a) (l:=(aB r)) (f:=df) (z:=(aa.mk 0 0)) U U U lI (dB n9) vo (by exact aF 5 U)) U U)<|bg 3 U<|AL U dh fun AJ=>fQ U cu U<|rP 1 [] I ?_
 refine RK W<|al fun _ X=>WS fun _ Y=>?_
 rw [show ((List.lookup a (aB r)).getD (aa.mk 0 0))=(aG (aB r) a) from rfl]
 refine rP 2 [] I ?_
 refine RK Y<|cM U (fun D=>?_) (fun D=>?_)
 ·rw [Bool.not_eq_true'] at D
  refine WS fun _ Z=>rP 3 [] I ?_
  refine RK Z<|ar<|LX hQ (false,6,0,0,none,0,[],none,0) [] [] I U (by rfl) U U ?_
  exact rp<|pM (uA (i:=a) he om asm)
 rw [Bool.not_eq_false'] at D
 refine WK X<|an<|rP 2 [] (mc 0 U I) ?_
 refine cU (xs:=[.tmp 54]) (cs:=(aa.cells (aG (aB r) a))) U jL dh U U U U (by simp [Value.cells,aa.aW]) U U fun AK=>dT 38 2<|c_ (es2:=(List.map aa.cells ([(aG (aB r) a)]))) (m':=([(aG (aB r) a)]).length) 0 U U U DG U U sm (aY (es:=List.map aa.cells [(aG (aB r) a)]) 1 U U (by simp [aa.aW]) U) (gU _) sm (by simp [maxLen]) sm sm U fun p u=>?_
 try dsimp only
 refine bg 1 U<|aH<|aD<|KK AQ<|an<|rS (SX (b_ (r:= .int .i64 1) U U U (ia ⟨dc,dc⟩)) U U)<|bg 1 U<|RK d<|ew fun R46 AD=>WS fun _ b=>rS (SX (b_ (r:= .bool false) U U U gS) U U)<|RK b<|al fun _ AC=>aV U<|bB<|ae<|ae<|ax<|KK P<|WS fun _ c=>rP 5 [] I ?_
 refine RK c<|ar ?_
 refine LX hQ (true,0,F,E,m,B,C,p,u) [5,6,7,8,0] [] I U (by (show List.all _ _=true; simp only [cond_true,fJ,List.all_nil,xZ,Bool.and_true]; rfl)) U U ?_
 exact ⟨fun _=>⟨Fi he om asm,h⟩,MR⟩
end
section
open Go.RowKit
theorem yM (r:cd) (kA:OA) (kC:Nat) (az:List RA) (cA:OA) (cC:Nat) (bA:OA) (bC:Nat) (slA:OA) (slC:Nat) (drA:OA) (drC:Nat) (ha:List cQ) (heA:OA) (heC:Nat) (a b:Int) (gq:Nat) (hin:fg r az ha):
 lu Tryz.prog 34 [(vA (bq.cells (oy r kA kC cA cC bA bC slA slC drA drC heA heC))),(vS (some ⟨gq,0,none⟩) 2 2)] [(rd dF 3 2 dg),(rd kA r.ah.aJ.length 9 (r.ah.aJ.map ao.cells)),(rd cA r.ah.ai.length 2 (List.zipWith au.cells r.ah.ai az)),(e7 (aU au.gX r.ah.ai az)),(rd bA r.ah.ag.length 4 (r.ah.ag.map bE.cells)),(rd slA r.aI.length 1 (r.aI.map iC)),(rd drA r.bD.length 1 (r.bD.map iC)),(rd heA r.aq.length 1 (List.zipWith cz r.aq ha)),(e7 (aU hP r.aq ha)),(bZ gq 3 [(vI a),(vI b)])] (fun (x:Bool×Int×Nat×Nat×(OA)×Nat×(List RA)×(OA)×Nat)=>bif x.1 then (vT [(Value.pointer (some ⟨x.2.2.1,0,none⟩)),(vS x.2.2.2.2.2.2.2.1 2 x.2.2.2.2.2.2.2.2),(vI 0)]) else (vT [(Value.pointer none),(vS none 0 0),(vI x.2.1)])) (fun (x:Bool×Int×Nat×Nat×(OA)×Nat×(List RA)×(OA)×Nat)=>(x.1=true→(nc r a b=0∧x.2.2.2.2.2.2.1.length=r.aq.length))∧(x.1=false→(x.2.1=nc r a b∧ ¬ nc r a b=0))) (fun (x:Bool×Int×Nat×Nat×(OA)×Nat×(List RA)×(OA)×Nat)=>bif x.1 then [(bZ x.2.2.1 88 (fR.cells (fR.mk (oy r kA kC cA cC bA bC slA slC drA drC heA heC) (aM.mk x.2.2.2.2.1 ((cP r).length) x.2.2.2.2.2.1) (Value.map (some x.2.2.2.1))))),(own x.2.2.2.2.1 x.2.2.2.2.2.1 85 1 (List.zipWith DD (cP r) x.2.2.2.2.2.2.1)),(bo (aU De (cP r) x.2.2.2.2.2.2.1)),(gZ iV x.2.2.2.1 (bM df (aB r))),(own x.2.2.2.2.2.2.2.1 x.2.2.2.2.2.2.2.2 38 2 ([(aG (aB r) a),(aG (aB r) b)].map aa.cells))] else []):=by
 have AK:=hin.line
 have Ad:=hin.iN
 have Ae:=hin.has
 have AR:=hin.iM
 have AQ:=hin.draw
 have v:=dH (r:=r)
 refine du kr Tryz.func34 U U fun w0 Q hQ hN=>?_
 try dsimp only
 refine WS fun _ AJ=>fV U fun b2=>bg 3 U<|RK AJ<|WS fun _ N=>rP 1 [] (mc 0 U I) ?_
 refine cX (oe r kA kC az cA cC bA bC slA slC drA drC ha heA heC hin) (bp [1,2,3,4,5,6,7,8,9]) U fun y4 y=>?_
 obtain ⟨AA,Ab,F,E,AB,C,D⟩:=y4
 cases AA
 ·obtain ⟨u,he⟩:=y.2 rfl
  try dsimp only at u he
  subst u
  try dsimp only [cond_true,cond_false,List.cons_append,List.nil_append]
  refine bg 5 U<|RK N<|al fun _ AN=>WS fun _ H=>rP 2 [] I ?_
  refine RK H<|bR U (bw fun G=>?_) (bx fun G=>?_)
  ·exact absurd G he
  refine WS fun _ Ah=>rP 4 [] I ?_
  refine RK Ah<|ar<|LX hQ (false,(bX r),0,0,none,0,[],none,0) [] [] I U (by rfl) U U ?_
  exact rp<|K3 (LC (a:=a) (b:=b) he) he
 obtain ⟨he,w⟩:=y.1 rfl
 try dsimp only [cond_true,cond_false,List.cons_append,List.nil_append]
 refine bg 5 U<|RK N<|al fun _ J=>WS fun _ K=>bg 1 U<|rS (SX (b_ (r:= .bool false) U U U nI) U U)<|RK K<|aV U<|WK J<|al fun _ L=>WS fun _ B=>rP 2 [] I ?_
 refine rS (CL (ej.eq (Ao r kA kC az cA cC bA bC slA slC drA drC ha heA heC D AB C (Value.map (some E)) F ([a,b]) (some ⟨gq,0,none⟩) 2 hin (by (simp; done))) q6) (lQ [6,7,8,9,10,11,12,13]<|ay (ak (n:=(cP r).length) 1 U (mM (by rw [v]; exact w)))<|ay (dW 2 U td)<|fH 0 U U<|ay (oc 14 U U (by simp [bJ]) U)<|aL) U) ?_
 refine rP 2 [] I ?_
 refine db (t:=26) U (bx fun AH=>?_) (bw fun AH=>?_)
 ·refine bg 3 U<|bg 4 U<|bg 2 U<|RK B<|aP U<|WS fun _ M=>rP 3 [] I ?_
  refine RK M<|ar<|LX hQ (false,2,0,0,none,0,[],none,0) [] [] I U (by rfl) U U ?_
  exact rp<|pM (BZ (a:=a) (b:=b) he om)
 refine rP 1 [] I ?_
 refine cX (wX (some ⟨gq,0,none⟩) 2 2) (aL) U fun AE AS=>?_
 try dsimp only
 refine cX (w6 ([a,b]) (some ⟨gq,0,none⟩) 2 AE (by (simp; done))) (ay (oc 15 U U (by simp [bJ]) U)<|fH 0 U U<|aL) U fun AM AT=>?_
 obtain ⟨AC,AF⟩:=AM
 try dsimp only
 try dsimp only
 refine iQ 0 U U U U (Dk (dj ([a,b])) AC AF (by (simp; done))) U ki U (fun Af AU=>?_)
 try dsimp only
 refine rP 3 [] I ?_
 have Ac:=JZ a b
 refine rP 2 [] I ?_
 refine RK B<|cM U (aT fun AI=>?_) (aS fun AI=>?_)
 ·refine WS fun _ O=>rP 3 [] I ?_
  refine RK O<|ar<|LX hQ (false,2,0,0,none,0,[],none,0) [] [] I U (by rfl) U U ?_
  exact rp<|pM (BZ (a:=a) (b:=b) he om)
 refine WK L<|WS fun _ P=>bg 1 U<|RK P<|al fun _ R=>WS fun _ S=>bg 3 U<|RK S<|aw<|jR 3<|ew fun R35 q=>WS fun _ T=>rS (SX (b_ (r:= .bool true) U U U gS) U U)<|RK T<|al fun _ Ag=>aP U<|WK Ag<|al fun _ V=>aw<|WS fun _ W=>rS (Ts 0 0 U cy U dc U)<|fE 2 [] (mr 16 U I) U<|RK W<|WS fun _ X=>bg 1 U<|rS (SX (bQ U U) U U)<|fE 3 [] (mc 2 U I) U<|rS (SX (jX (kV:=iV) (x:=a) (l:=(aB r)) (f:=df) (z:=(aa.mk 0 0)) U U U lI (dB n9) vo (by exact aF 5 U)) U U)<|bg 3 U<|AL U dh fun AW=>fQ U cu U<|rP 1 [] I ?_
 refine RK X<|al fun _ Y=>WS fun _ Z=>?_
 rw [show ((List.lookup a (aB r)).getD (aa.mk 0 0))=(aG (aB r) a) from rfl]
 refine rP 2 [] I ?_
 refine RK Z<|cM U (fun A=>?_) (fun A=>?_)
 ·rw [Bool.not_eq_true'] at A
  refine WS fun _ c=>rP 3 [] I ?_
  refine RK c<|ar<|LX hQ (false,6,0,0,none,0,[],none,0) [] [] I U (by rfl) U U ?_
  exact rp<|pM (yJ (a:=a) (b:=b) he om (by exact .inl asm))
 rw [Bool.not_eq_false'] at A
 refine WK Y<|an<|rP 2 [] (mc 0 U I) ?_
 refine cU (xs:=[.tmp 54]) (cs:=(aa.cells (aG (aB r) a))) U jL dh U U U U (by simp [Value.cells,aa.aW]) U U fun AX=>dT 38 2<|c_ (es2:=(List.map aa.cells ([(aG (aB r) a)]))) (m':=([(aG (aB r) a)]).length) 0 U U U DG U U sm (aY (es:=List.map aa.cells [(aG (aB r) a)]) 1 U U (by simp [aa.aW]) U) (gU _) sm (by simp [maxLen]) sm sm U fun AV Aa=>?_
 try dsimp only
 refine bg 1 U<|aH<|aD<|KK V<|an<|rS (SX (b_ (r:= .int .i64 1) U U U (ia ⟨dc,dc⟩)) U U)<|bg 1 U<|RK q<|ew fun R48 s=>WS fun _ d=>rS (SX (b_ (r:= .bool true) U U U gS) U U)<|RK d<|al fun _ e=>aP U<|WK e<|al fun _ g=>aw<|WS fun _ h=>rS (Ts 1 1 U cy U dc U)<|fE 2 [] (mr 19 U I) U<|RK h<|WS fun _ i=>bg 1 U<|rS (SX (bQ U U) U U)<|fE 3 [] (mc 5 U I) U<|rS (SX (jX (kV:=iV) (x:=b) (l:=(aB r)) (f:=df) (z:=(aa.mk 0 0)) U U U lI (dB n9) vo (by exact aF 8 U)) U U)<|bg 3 U<|AL U dh fun AY=>fQ U cu U<|rP 1 [] I ?_
 refine RK i<|al fun _ j=>WS fun _ k=>?_
 rw [show ((List.lookup b (aB r)).getD (aa.mk 0 0))=(aG (aB r) b) from rfl]
 refine rP 2 [] I ?_
 refine RK k<|cM U (fun A=>?_) (fun A=>?_)
 ·rw [Bool.not_eq_true'] at A
  refine WS fun _ m=>rP 3 [] I ?_
  refine RK m<|ar<|LX hQ (false,6,0,0,none,0,[],none,0) [] [] I U (by rfl) U U ?_
  exact rp<|pM (yJ (a:=a) (b:=b) he om (by exact .inr asm))
 rw [Bool.not_eq_false'] at A
 refine WK j<|an<|rP 2 [] (mc 0 U I) ?_
 refine cU (xs:=[.tmp 54]) (cs:=(aa.cells (aG (aB r) b))) U jL dh U U U U (by simp [Value.cells,aa.aW]) U U fun AZ=>c_ (es2:=(List.map aa.cells ([(aG (aB r) a),(aG (aB r) b)]))) (m':=([(aG (aB r) a),(aG (aB r) b)]).length) 2 U U U DG U U sm (aY (es:=List.map aa.cells [(aG (aB r) b)]) 0 U U (by simp [aa.aW]) U) (gU _) sm (by simp [maxLen]) sm sm U fun AD AG=>?_
 try dsimp only
 refine bg 1 U<|aH<|aD<|KK g<|an<|rS (SX (b_ (r:= .int .i64 2) U U U (ia ⟨dc,dc⟩)) U U)<|bg 1 U<|RK s<|ew fun R61 AP=>WS fun _ o=>rS (SX (b_ (r:= .bool false) U U U gS) U U)<|RK o<|al fun _ AO=>aV U<|bB<|ae<|ae<|ax<|KK R<|WS fun _ p=>rP 5 [] I ?_
 refine RK p<|ar ?_
 refine LX hQ (true,0,F,E,AB,C,D,AD,AG) [7,8,9,10,2] [] I U (by (show List.all _ _=true; simp only [cond_true,fJ,List.all_nil,xZ,Bool.and_true]; rfl)) U U ?_
 exact ⟨fun _=>⟨Ms he om asm asm,w⟩,MR⟩
end
section
open Go.RowKit
theorem IB (m:lS) (gm g1:Nat):
 Ez Tryz.prog 83 [] [(vP g1)] [(gZ iV gm (bM vB m)),(bZ g1 62 [(Value.map (some gm))])] ([]:List Int) (fun ys x ys'=> ∃ n zs,(ys++[n]++zs).Perm (m.map (·.1))∧x=[vI n]∧ys'=ys++[n]) (fun ys=>ys.Perm (m.map (·.1))):=by
 refine tD kr Tryz.func83 U U fun l J Z A0 S Q hY M L hQ hN=>?_
 try dsimp only
 refine WS fun _ O=>rP 1 [] (mr 2 U I) ?_
 refine iG (kV:=iV) (m:=bM vB m) 1 U U xY U ⟨U,fun h=>h⟩ (by exact jF 1 U) U fun V=>?_
 try dsimp only
 refine RK O<|aw ?_
 have G:(oo m m ([]:List Int))∧(∀ p∈m,p∈m)∧(J ([]:List Int) A0)∧(Fo A0 S A0):=by exact ⟨vn,fun p hp=>hp,M,L⟩
 refine bO (ι:={z:lS×(List Int)×av // (oo m z.1 z.2.1)∧(∀ p∈z.1,p∈m)∧(J z.2.1 z.2.2)∧(Fo A0 S z.2.2)}) [0,1,5] [2,3] U U (fun z=>[]) (fun z=>[(yd iV V gm (bM vB m) (bM vB z.1.1) none),z.1.2.2]) (fun _=>rfl) (fun _=>rfl) (fun z=>z.1.1.length) ⟨(m,([]:List Int),A0),G⟩ (dx.nil _) (aK [2,3,0,1]) ?_
 clear G
 rintro ⟨⟨left,ys,A⟩,⟨B,H,C,D⟩⟩ J3 N
 try dsimp only at B H C D
 try dsimp only
 refine WS fun _ AB=>g7 (dB n9).inj (f:=Value.bool) 2 U U U U (fun T=>?_) (fun x y hm hn=>?_)
 ·refine rP 1 [] I ?_
  refine RK AB<|al fun _ AA=>aV U<|bB<|ae<|ae<|ax ?_
  refine hN _ _ _ (gY (vs:=[]) trivial fun w hs=>LK 3 U (by rw [T] at B; exact xW B) C D hs)
 try dsimp only
 refine bg 1 U<|RK AB<|al fun _ P=>aP U<|WK P<|aw<|WS fun _ R=>rS (SX (g8 2 U U U) U U)<|bg 2 U<|RK R<|WS fun _ K=>rP 2 [] I ?_
 refine ku (k:=ys) (k':=(ys++[(x)])) 3 (by first|exact hsz|exact Nat.le_refl _) hY C D U U U (by exact ⟨x,_,n8 hn hm B,U,U⟩) U U (fun B9 F E=>?_) (fun B9 F E=>?_)
 rotate_left 1
 ·refine rP 1 [] I ?_
  refine RK K<|aP U<|ar ?_
  refine hQ _ _ _ (gY (vs:=[]) trivial fun w hs=>rv 3 U F E hs)
 refine rP 1 [] I ?_
 refine RK K<|aV U<|bY<|aD<|fj 2 U dA U ?_
 refine aR (N ⟨((cf left x),(ys++[(x)]),B9),⟨n8 hn hm B,dC H,F,E⟩⟩ _ _ _ U (cW hm) (aQ U) (aK [0,1,2,3]))
theorem M0 (gm:Nat):
 lu Tryz.prog 59 [(Value.map (some gm))] [] (fun (x:Nat)=>(Value.func (.func 83) [].toArray [(vP x)].toArray)) (fun (x:Nat)=>True) (fun (x:Nat)=>[(bZ x 62 [(Value.map (some gm))])]):=by
 refine du kr Tryz.func59 U U fun D Q hQ hN=>?_
 try dsimp only
 refine WS fun _ A=>uj U U fun C=>bg 1 U<|RK A<|WS fun _ B=>rS (FU U)<|rP 1 [] I ?_
 refine RK B<|ar<|LX hQ C [0] [] I U U U U ?_
 trivial
end
section
open Go.RowKit
theorem HQ (m:lS) (gm g1:Nat) (hlen:m.length≤12):
 lu Tryz.prog 85 [(vS none 0 0),(Value.func (.func 83) [].toArray [(vP g1)].toArray)] [(gZ iV gm (bM vB m)),(bZ g1 62 [(Value.map (some gm))])] (fun (x:(List Int)×(OA)×Nat)=>(vS x.2.1 x.1.length x.2.2)) (fun (x:(List Int)×(OA)×Nat)=>x.1.Perm (m.map (·.1))) (fun (x:(List Int)×(OA)×Nat)=>[(own x.2.1 x.2.2 3 1 (x.1.map iC))]):=by
 refine du kr Tryz.func85 U U fun X Q hQ hN=>?_
 try dsimp only
 refine WS fun _ AB=>uj U U fun N=>bg 1 U<|RK AB<|al fun _ J=>WS fun _ K=>rP 1 [] I ?_
 refine RK K<|aw<|kB 1 U (by exact fun _ h=>h)<|kB 3 U (by exact fun _ h=>h)<|fY 3 1 ?_
 refine nz (L0:=[(2,(vP N))]) (F:=[(gZ iV gm (bM vB m)).ro,(bZ g1 62 [(Value.map (some gm))]).ro]) (fun k (y:(OA)×Nat)=>(∃ zs,(k++zs).Perm (m.map (·.1)))) (fun k y=>[(own y.1 y.2 3 1 (k.map iC)),(bZ N 29 [(vS y.1 k.length y.2)]),(gZ iV gm (bM vB m)).ro]) (fun _ (_:Unit)=>False) (fun _ _=>[]) [0,3,4] [2,1] (none,0) rfl rfl (IB m gm g1) rfl rfl rfl (by exact ⟨_,List.Perm.refl _⟩) (by simp only [List.forall_mem_cons,List.not_mem_nil,false_imp_iff,implies_true,and_true]; exact ⟨⟨_,sm,(dI (bT _))⟩,⟨_,sm,(dI (bT _))⟩⟩) (by rintro k x AA ⟨n,zs,_,rfl,_⟩; rfl) rfl (aQ rfl) ?_ ?_ (fun _ _ _ h=>h.elim) (fun _ _ h=>h.elim)
 rotate_left 1
 ·rintro V k ⟨a,c⟩ E A
  have B:=A
  try dsimp only at B
  try dsimp only
  refine aD<|KK J<|WS fun _ C=>rP 2 [] (mc 4 U I) ?_
  refine RK C<|ar<|hQ _ _ _ (ox 0 U U<|gY (vs:=[(vS a k.length c)]) ⟨U,trivial⟩ fun w hs=>I_ (k,a,c) [3] ?_ ?_ U U U hs)
  ·rfl
  ·first|exact E|exact hys
 rintro k x AA ⟨a,c⟩ l ra rb S Y K5 Qr6 T hx G L D O P
 obtain ⟨n,zs,hn,rfl,rfl⟩:=hx; have M:=hn.length_eq; simp only [List.length_append,List.length_map,List.length_singleton] at M
 have B:=G
 try dsimp only at B
 try dsimp only
 refine an<|rP 1 [] I ?_
 refine aH<|aR (L _ _ ?_)
 refine aw<|an<|rP 2 [] (mc 2 U I) ?_
 refine cU (xs:=[.tmp 9]) (cs:=[(vI n)]) U cy jd U U U U (by simp [Value.cells]) U U fun W=>?_
 refine c_ (es2:=(List.map iC (k++[n]))) (m':=(k++[n]).length) 2 U U U ph U U sm (aY (es:=List.map iC [n]) 0 U U (by simp [bJ]) U) (j2 _) os (by simp only [maxLen]; omega) sm sm U fun R H=>?_
 try dsimp only
 refine UM U Ak U U<|aH<|aD ?_
 exact D (R,H) _ _ (by exact ⟨_,hn⟩) (aK [1,2,3,4])
end
section
open Go.RowKit
theorem D4 (m:lS) (gm g1:Nat) (hlen:m.length≤12):
 lu Tryz.prog 63 [(Value.func (.func 83) [].toArray [(vP g1)].toArray)] [(gZ iV gm (bM vB m)),(bZ g1 62 [(Value.map (some gm))])] (fun (x:(List Int)×(OA)×Nat)=>(vS x.2.1 x.1.length x.2.2)) (fun (x:(List Int)×(OA)×Nat)=>x.1.Perm (m.map (·.1))) (fun (x:(List Int)×(OA)×Nat)=>[(own x.2.1 x.2.2 3 1 (x.1.map iC))]):=by
 refine du kr Tryz.func63 U U fun AA Q hQ hN=>?_
 try dsimp only
 refine WS fun _ A=>bg 1 U<|RK A<|WS fun _ B=>rP 1 [] I ?_
 refine cX (HQ m gm g1 hlen) (bp [0,1]) U fun H C=>?_
 obtain ⟨E,F,G⟩:=H
 try dsimp only
 have D:=C
 refine rP 1 [] I ?_
 refine RK B<|ar<|LX hQ (E,F,G) [0] [] I U U U U ?_
 first|exact hfin|exact D
theorem GQ (m:lS) (gm g1:Nat) (hlen:m.length≤12):
 lu Tryz.prog 41 [(Value.func (.func 83) [].toArray [(vP g1)].toArray)] [(gZ iV gm (bM vB m)),(bZ g1 62 [(Value.map (some gm))])] (fun (x:(OA)×Nat)=>(vS x.1 m.length x.2)) (fun (x:(OA)×Nat)=>True) (fun (x:(OA)×Nat)=>[(own x.1 x.2 3 1 ((dj (m.map (·.1))).map iC))]):=by
 refine du kr Tryz.func41 U U fun M Q hQ hN=>?_
 try dsimp only
 refine WS fun _ E=>bg 1 U<|RK E<|WS fun _ F=>rP 1 [] I ?_
 refine cX (D4 m gm g1 hlen) (bp [0,1]) U fun L H=>?_
 obtain ⟨AA,J,K⟩:=L
 try dsimp only
 have D:=H
 refine bg 1 U<|RK F<|WS fun _ G=>rP 1 [] I ?_
 have B:=D.length_eq
 simp only [List.length_map] at B
 refine iQ 0 U U U U (zY AA J K om) U ki U (fun ms C=>?_)
 try dsimp only
 refine RK G<|WS fun _ A=>?_
 obtain rfl:=qk (C.1.trans D) C.2
 skip
 refine rP 2 [] I ?_
 refine RK A<|ar ?_
 refine LX hQ (J,K) [0] [] I U U U ?_ ?_
 ·first|rfl|(rw [B]; rfl)
 ·trivial
end
section
open Go.RowKit
theorem I5 (m:lS) (gm:Nat):
 lu Tryz.prog 57 [(Value.map (some gm))] [(gZ iV gm (bM vB m))] (fun (x:Nat)=>(Value.map (some x))) (fun (x:Nat)=>True) (fun (x:Nat)=>[(gZ iV x (bM vB m))]):=by
 refine du Ul Tryz.func57 U U fun F Q hQ hN=>?_
 try dsimp only
 refine WS fun _ A=>bg 1 U<|RK A<|al fun _ B=>WS fun _ C=>bg 1 U<|rS (SX (b_ (r:= .bool false) U U U (QA xY)) U U)<|RK C<|aV U<|WK B<|WS fun _ D=>rP 1 [] I ?_
 refine rS (SX (MB U U xY) U U)<|K7 (kV:=iV) (fn:=Tryz.f81) U U Tryz.func81 U U U kr (by exact jF 0 U) U fun E=>?_
 try dsimp only
 refine rS (SX (Ri U U xY) U U)<|rP 1 [] I ?_
 refine RK D<|ar<|LX hQ E [0] [] I U U U U ?_
 trivial
end
section
open Go.RowKit
theorem Ha (r:cd) (kA:OA) (kC:Nat) (cA:OA) (cC:Nat) (bA:OA) (bC:Nat) (slA:OA) (slC:Nat) (drA:OA) (drC:Nat) (heA:OA) (heC:Nat) (tA:OA) (tN tC:Nat) (gs gw:Nat) (m:gk) (i:Int) (g1 g2:Nat) (hb: ∀ p∈m,0≤p.2.Lo∧p.2.Lo≤p.2.Hi∧p.2.Hi≤30000000):
 Ez Tryz.prog 82 [] [(vP g1),(vP g2)] [(bZ gw 88 (fR.cells (fR.mk (oy r kA kC cA cC bA bC slA slC drA drC heA heC) (aM.mk tA tN tC) (Value.map (some gs))))),(gZ iV gs (bM df m)),(bZ g1 80 [(vP gw)]),(bZ g2 3 [(vI i)])] ([]:List Int) (fun ys x ys'=> ∃ n,n∈(iP m i (aG m i))∧x=[vI n]∧ys'=ys++[n]) (fun ys=> ∀ n,n∈ys↔n∈(iP m i (aG m i))):=by
 have BF:=gP (i:=i) hb
 refine tD kr Tryz.func82 U U fun l J Z A0 w0 Q hY An Am hQ hN=>?_
 try dsimp only
 refine al fun _ Ao=>dR cD [6,7] [] [] [0,1,2,3,4] [] U U U U U<|eS U (Tw 3 U cq U)<|eS U (SX (bQ U U) U U)<|eS U (FA 12 U fD U)<|eS U (HZ (Value.map (some gs)) 1 U cq U U)<|eS U (Tw 4 U cq U)<|eS U (SX (jS (kV:=iV) (x:=i) (l:=m) (f:=df) (z:=(aa.mk 0 0)) U U U lI (dB n9) vo (by exact jF 2 U)) U U)<|e8 U<|cp U fun T2 Aq=>AL U dh fun b3=>aH (Aq _ _ (aK [1,2,3,4,5]) ?_)
 refine cp U fun T4 Ar=>fQ U cu U<|aH (Ar _ _ (aK [1,2,3,4,5]) ?_)
 refine fO U<|KK Ao<|al fun _ Ap=>WS fun _ AR=>?_
 rw [show ((List.lookup i m).getD (aa.mk 0 0))=(aG m i) from rfl]
 refine rP 3 [] (mc 0 U I) ?_
 refine ku (k:=([]:List Int)) (k':=(([]:List Int)++[((aG m i).Lo)])) 1 (by first|exact hsz|exact Nat.le_refl _) hY An Am U U U (by exact ⟨_,cm ..,U,U⟩) U U (fun B7 u s=>?_) (fun B7 u s=>?_)
 rotate_left 1
 ·refine rP 1 [] I ?_
  refine RK AR<|aP U<|ar ?_
  refine hQ _ _ _ (gY (vs:=[]) trivial fun w hs=>rv 1 U u s hs)
 refine bg 1 U<|RK AR<|aV U<|WK Ap<|WS fun _ AA=>fE 1 [] (mr 4 U I) U<|rS (SX (bQ U U) U U)<|rP 2 [] (mr 2 U I) ?_
 refine iG (kV:=iV) (m:=bM df m) 3 U U lI U ⟨U,fun h=>h⟩ (by exact jF 3 U) U fun At=>?_
 try dsimp only
 refine RK AA<|aw ?_
 have j:(ze m i (aG m i) m (([]:List Int)++[((aG m i).Lo)]))∧(∀ p∈m,p∈m)∧(J (([]:List Int)++[((aG m i).Lo)]) B7)∧(Fo A0 w0 B7):=by exact ⟨H_,fun p hp=>hp,asm,asm⟩
 refine bO (ι:={z:gk×(List Int)×av // (ze m i (aG m i) z.1 z.2.1)∧(∀ p∈z.1,p∈m)∧(J z.2.1 z.2.2)∧(Fo A0 w0 z.2.2)}) [0,1,2,4,24] [1,3,4,5,6] U U (fun z=>[]) (fun z=>[(yd iV At gs (bM df m) (bM df z.1.1) none),z.1.2.2]) (fun _=>rfl) (fun _=>rfl) (fun z=>z.1.1.length) ⟨(m,(([]:List Int)++[((aG m i).Lo)]),B7),j⟩ (dx.nil _) (aK [1,3,4,5,6,0,2]) ?_
 clear j
 rintro ⟨⟨left,ys,A⟩,⟨D,B,E,F⟩⟩ J12 G
 try dsimp only at D B E F
 try dsimp only
 refine WS fun _ o=>g7 (dB n9).inj (f:=df) 5 U U U U (fun q=>?_) (fun x y hm hn=>?_)
 ·refine rP 1 [] I ?_
  refine RK o<|al fun _ Au=>aV U<|bB<|ae<|ae<|ax ?_
  refine hN _ _ _ (gY (vs:=[]) trivial fun w hs=>LK 6 U (by rw [q] at D; exact MI D) E F hs)
 try dsimp only
 refine bg 1 U<|RK o<|al fun _ AB=>aP U<|WK AB<|aw<|WS fun _ AC=>rS (SX (g8 5 U U U) U U)<|bg 2 U<|AL U dh fun BE=>bg 1 U<|fQ U cu U<|RK AC<|WS fun _ AD=>rP 1 [] I ?_
 have As:=hb _ (B _ hm)
 dsimp only at As
 refine fE 5 [] (mc 0 U I) U<|rS (SX (bj (xs:=[(0,.tmp 32),(1,.tmp 35)]) (cs:=[(vI (y.Lo+1)),(vI (y.Hi+1))]) U U (bh SW U)) U U)<|bg 1 U<|RK AD<|aw<|jR 3<|ew fun R19 c=>WS fun _ AE=>rS (SX (b_ (r:= .bool true) U U U gS) U U)<|RK AE<|al fun _ AF=>aP U<|WK AF<|al fun _ X=>aw<|WS fun _ AG=>rS (SX (qZ (v:=(vI (y.Lo+1))) 0 U U U FT cq U dc U) U U)<|bg 1 U<|RK AG<|WS fun _ M=>rP 4 [] (mr 5 U I) ?_
 refine cb (t:=43) U (bw fun q=>?_) (bx fun q=>?_)
 ·refine bg 14 U<|RK M<|aV U<|bY<|aD<|KK X<|an<|rS (SX (b_ (r:= .int .i64 1) U U U (ia ⟨dc,dc⟩)) U U)<|bg 1 U<|RK c<|ew fun R73 g=>WS fun _ AV=>rS (SX (b_ (r:= .bool true) U U U gS) U U)<|RK AV<|al fun _ AW=>aP U<|WK AW<|al fun _ b=>aw<|WS fun _ AX=>rS (SX (qZ (v:=(vI (y.Hi+1))) 1 U U U FT cq U dc U) U U)<|bg 1 U<|RK AX<|WS fun _ P=>rP 4 [] (mr 5 U I) ?_
  refine cb (t:=43) U (bw fun Ak=>?_) (bx fun Ak=>?_)
  ·refine bg 14 U<|RK P<|aV U<|bY<|aD<|KK b<|an<|rS (SX (b_ (r:= .int .i64 2) U U U (ia ⟨dc,dc⟩)) U U)<|rP 1 [] I ?_
   refine RK g<|ew fun R91 BC=>WS fun _ Aa=>rS (SX (b_ (r:= .bool false) U U U gS) U U)<|RK Aa<|al fun _ A4=>aV U<|bB<|ae<|ae<|ax<|aD<|fj 6 U dA U ?_
   refine aR (G ⟨((cf left x),ys,A),⟨k7 hn hm B D (fun n C=>by first|exact C|(simp [C]; done)) (fun n C=>by exact .inl C) (fun L n C K=>by simp only [eu,List.not_mem_nil,or_false] at C; rcases C with rfl|rfl<;>first|(simp; done)|(exfalso; omega)),dC B,E,F⟩⟩ _ _ _ rfl (cW hm) (aQ rfl) (aK [1,2,3,4,5,6,7]))
  refine fE 5 [] (mc 1 U I) U<|cU (xs:=[.tmp 48]) (cs:=[(vI (y.Hi+1))]) U cy jd U U U U (by simp [Value.cells]) U U fun Ae=>rS (CL (ej.eq (j_ ((aG m i).Lo) ((aG m i).Hi) ([(y.Hi+1)]) (some ⟨Ae,0,none⟩) 1 om) cT) (ay (aY 0 U U (by simp [bJ]) U)<|aL) U)<|rP 2 [] I ?_
  refine cb (t:=52) U (aS fun Al=>?_) (aT fun Al=>?_)
  ·refine bg 5 U<|RK P<|aV U<|bY<|aD<|KK b<|an<|rS (SX (b_ (r:= .int .i64 2) U U U (ia ⟨dc,dc⟩)) U U)<|rP 1 [] I ?_
   refine RK g<|ew fun R88 BB=>WS fun _ AZ=>rS (SX (b_ (r:= .bool false) U U U gS) U U)<|RK AZ<|al fun _ A3=>aV U<|bB<|ae<|ae<|ax<|aD<|fj 7 U dA U ?_
   refine aR (G ⟨((cf left x),ys,A),⟨k7 hn hm B D (fun n C=>by first|exact C|(simp [C]; done)) (fun n C=>by exact .inl C) (fun L n C K=>by simp only [eu,List.not_mem_nil,or_false] at C; rcases C with rfl|rfl<;>first|(simp; done)|(exfalso; omega)),dC B,E,F⟩⟩ _ _ _ rfl (cW hm) (aQ rfl) (aK [2,3,4,5,6,7,8]))
  refine rP 2 [] I ?_
  refine ku (k:=ys) (k':=(ys++[((y.Hi+1))])) 8 (by first|exact hsz|exact Nat.le_refl _) hY E F U U U (by exact ⟨_,l0 (B _ hm) dso (by first|exact .inl rfl|exact .inr U) om,U,U⟩) U U (fun B82 W T=>?_) (fun B82 W T=>?_)
  rotate_left 1
  ·refine rP 2 [] I ?_
   refine RK P<|aP U<|ar ?_
   refine hQ _ _ _ (gY (vs:=[]) trivial fun w hs=>rv 8 U W T hs)
  refine bg 2 U<|RK P<|aV U<|bY<|aD<|KK b<|an<|rS (SX (b_ (r:= .int .i64 2) U U U (ia ⟨dc,dc⟩)) U U)<|rP 1 [] I ?_
  refine RK g<|ew fun R85 BA=>WS fun _ AY=>rS (SX (b_ (r:= .bool false) U U U gS) U U)<|RK AY<|al fun _ A2=>aV U<|bB<|ae<|ae<|ax<|aD<|fj 7 U dA U ?_
  refine aR (G ⟨((cf left x),(ys++[((y.Hi+1))]),B82),⟨k7 hn hm B D (fun n C=>by first|exact C|(simp [C]; done)) (fun n C=>by (simp only [kJ,bW] at C; rcases C with C|rfl<;>first|exact .inl C|exact .inr (l0 (B _ hm) dso sm om))) (fun L n C K=>by simp only [eu,List.not_mem_nil,or_false] at C; rcases C with rfl|rfl<;>first|(simp; done)|(exfalso; omega)),dC B,W,T⟩⟩ _ _ _ rfl (cW hm) (aQ rfl) (aK [2,3,4,5,6,7,8]))
 refine rP 5 [] (mc 1 U I) ?_
 refine cU (xs:=[.tmp 48]) (cs:=[(vI (y.Lo+1))]) U cy jd U U U U (by simp [Value.cells]) U U fun Ab=>?_
 refine rS (CL (ej.eq (j_ ((aG m i).Lo) ((aG m i).Hi) ([(y.Lo+1)]) (some ⟨Ab,0,none⟩) 1 (by (simp; done))) cT) (ay (aY 0 U U (by simp [bJ]) U)<|aL) U) ?_
 refine rP 2 [] I ?_
 refine cb (t:=52) U (aS fun Af=>?_) (aT fun Af=>?_)
 ·refine bg 5 U<|RK M<|aV U<|bY<|aD<|KK X<|an<|rS (SX (b_ (r:= .int .i64 1) U U U (ia ⟨dc,dc⟩)) U U)<|bg 1 U<|RK c<|ew fun R52 e=>WS fun _ AO=>rS (SX (b_ (r:= .bool true) U U U gS) U U)<|RK AO<|al fun _ AP=>aP U<|WK AP<|al fun _ a=>aw<|WS fun _ AQ=>rS (SX (qZ (v:=(vI (y.Hi+1))) 1 U U U FT cq U dc U) U U)<|bg 1 U<|RK AQ<|WS fun _ O=>rP 4 [] (mr 6 U I) ?_
  refine cb (t:=43) U (bw fun Ai=>?_) (bx fun Ai=>?_)
  ·refine bg 14 U<|RK O<|aV U<|bY<|aD<|KK a<|an<|rS (SX (b_ (r:= .int .i64 2) U U U (ia ⟨dc,dc⟩)) U U)<|rP 1 [] I ?_
   refine RK e<|ew fun R70 A_=>WS fun _ AU=>rS (SX (b_ (r:= .bool false) U U U gS) U U)<|RK AU<|al fun _ A1=>aV U<|bB<|ae<|ae<|ax<|aD<|fj 7 U dA U ?_
   refine aR (G ⟨((cf left x),ys,A),⟨k7 hn hm B D (fun n C=>by first|exact C|(simp [C]; done)) (fun n C=>by exact .inl C) (fun L n C K=>by simp only [eu,List.not_mem_nil,or_false] at C; rcases C with rfl|rfl<;>first|(simp; done)|(exfalso; omega)),dC B,E,F⟩⟩ _ _ _ rfl (cW hm) (aQ rfl) (aK [2,3,4,5,6,7,8]))
  refine rP 5 [] (mc 2 U I) ?_
  refine cU (xs:=[.tmp 48]) (cs:=[(vI (y.Hi+1))]) U cy jd U U U U (by simp [Value.cells]) U U fun Ad=>?_
  refine rS (CL (ej.eq (j_ ((aG m i).Lo) ((aG m i).Hi) ([(y.Hi+1)]) (some ⟨Ad,0,none⟩) 1 (by (simp; done))) cT) (ay (aY 0 U U (by simp [bJ]) U)<|aL) U) ?_
  refine rP 2 [] I ?_
  refine cb (t:=52) U (aS fun Aj=>?_) (aT fun Aj=>?_)
  ·refine bg 5 U<|RK O<|aV U<|bY<|aD<|KK a<|an<|rS (SX (b_ (r:= .int .i64 2) U U U (ia ⟨dc,dc⟩)) U U)<|rP 1 [] I ?_
   refine RK e<|ew fun R67 A9=>WS fun _ AT=>rS (SX (b_ (r:= .bool false) U U U gS) U U)<|RK AT<|al fun _ Az=>aV U<|bB<|ae<|ae<|ax<|aD<|fj 8 U dA U ?_
   refine aR (G ⟨((cf left x),ys,A),⟨k7 hn hm B D (fun n C=>by first|exact C|(simp [C]; done)) (fun n C=>by exact .inl C) (fun L n C K=>by simp only [eu,List.not_mem_nil,or_false] at C; rcases C with rfl|rfl<;>first|(simp; done)|(exfalso; omega)),dC B,E,F⟩⟩ _ _ _ rfl (cW hm) (aQ rfl) (aK [3,4,5,6,7,8,9]))
  refine rP 2 [] I ?_
  refine ku (k:=ys) (k':=(ys++[((y.Hi+1))])) 9 (by first|exact hsz|exact Nat.le_refl _) hY E F U U U (by exact ⟨_,l0 (B _ hm) dso (by first|exact .inl rfl|exact .inr U) om,U,U⟩) U U (fun B61 V S=>?_) (fun B61 V S=>?_)
  rotate_left 1
  ·refine rP 2 [] I ?_
   refine RK O<|aP U<|ar ?_
   refine hQ _ _ _ (gY (vs:=[]) trivial fun w hs=>rv 9 U V S hs)
  refine bg 2 U<|RK O<|aV U<|bY<|aD<|KK a<|an<|rS (SX (b_ (r:= .int .i64 2) U U U (ia ⟨dc,dc⟩)) U U)<|rP 1 [] I ?_
  refine RK e<|ew fun R64 A8=>WS fun _ AS=>rS (SX (b_ (r:= .bool false) U U U gS) U U)<|RK AS<|al fun _ Ay=>aV U<|bB<|ae<|ae<|ax<|aD<|fj 8 U dA U ?_
  refine aR (G ⟨((cf left x),(ys++[((y.Hi+1))]),B61),⟨k7 hn hm B D (fun n C=>by first|exact C|(simp [C]; done)) (fun n C=>by (simp only [kJ,bW] at C; rcases C with C|rfl<;>first|exact .inl C|exact .inr (l0 (B _ hm) dso sm om))) (fun L n C K=>by simp only [eu,List.not_mem_nil,or_false] at C; rcases C with rfl|rfl<;>first|(simp; done)|(exfalso; omega)),dC B,V,S⟩⟩ _ _ _ rfl (cW hm) (aQ rfl) (aK [3,4,5,6,7,8,9]))
 refine rP 2 [] I ?_
 refine ku (k:=ys) (k':=(ys++[((y.Lo+1))])) 8 (by first|exact hsz|exact Nat.le_refl _) hY E F U U U (by exact ⟨_,l0 (B _ hm) dso (by first|exact .inl rfl|exact .inr U) om,U,U⟩) U U (fun B28 BG H=>?_) (fun B28 BG H=>?_)
 rotate_left 1
 ·refine rP 2 [] I ?_
  refine RK M<|aP U<|ar ?_
  refine hQ _ _ _ (gY (vs:=[]) trivial fun w hs=>rv 8 U BG H hs)
 refine bg 2 U<|RK M<|aV U<|bY<|aD<|KK X<|an<|rS (SX (b_ (r:= .int .i64 1) U U U (ia ⟨dc,dc⟩)) U U)<|bg 1 U<|RK c<|ew fun R31 d=>WS fun _ AH=>rS (SX (b_ (r:= .bool true) U U U gS) U U)<|RK AH<|al fun _ AI=>aP U<|WK AI<|al fun _ Y=>aw<|WS fun _ AJ=>rS (SX (qZ (v:=(vI (y.Hi+1))) 1 U U U FT cq U dc U) U U)<|bg 1 U<|RK AJ<|WS fun _ N=>rP 4 [] (mr 6 U I) ?_
 refine cb (t:=43) U (bw fun Ag=>?_) (bx fun Ag=>?_)
 ·refine bg 14 U<|RK N<|aV U<|bY<|aD<|KK Y<|an<|rS (SX (b_ (r:= .int .i64 2) U U U (ia ⟨dc,dc⟩)) U U)<|rP 1 [] I ?_
  refine RK d<|ew fun R49 A7=>WS fun _ AN=>rS (SX (b_ (r:= .bool false) U U U gS) U U)<|RK AN<|al fun _ Ax=>aV U<|bB<|ae<|ae<|ax<|aD<|fj 7 U dA U ?_
  refine aR (G ⟨((cf left x),(ys++[((y.Lo+1))]),B28),⟨k7 hn hm B D (fun n C=>by first|exact C|(simp [C]; done)) (fun n C=>by (simp only [kJ,bW] at C; rcases C with C|rfl<;>first|exact .inl C|exact .inr (l0 (B _ hm) dso sm om))) (fun L n C K=>by simp only [eu,List.not_mem_nil,or_false] at C; rcases C with rfl|rfl<;>first|(simp; done)|(exfalso; omega)),dC B,BG,H⟩⟩ _ _ _ rfl (cW hm) (aQ rfl) (aK [2,3,4,5,6,7,8]))
 refine rP 5 [] (mc 2 U I) ?_
 refine cU (xs:=[.tmp 48]) (cs:=[(vI (y.Hi+1))]) U cy jd U U U U (by simp [Value.cells]) U U fun Ac=>?_
 refine rS (CL (ej.eq (j_ ((aG m i).Lo) ((aG m i).Hi) ([(y.Hi+1)]) (some ⟨Ac,0,none⟩) 1 (by (simp; done))) cT) (ay (aY 0 U U (by simp [bJ]) U)<|aL) U) ?_
 refine rP 2 [] I ?_
 refine cb (t:=52) U (aS fun Ah=>?_) (aT fun Ah=>?_)
 ·refine bg 5 U<|RK N<|aV U<|bY<|aD<|KK Y<|an<|rS (SX (b_ (r:= .int .i64 2) U U U (ia ⟨dc,dc⟩)) U U)<|rP 1 [] I ?_
  refine RK d<|ew fun R46 A6=>WS fun _ AM=>rS (SX (b_ (r:= .bool false) U U U gS) U U)<|RK AM<|al fun _ Aw=>aV U<|bB<|ae<|ae<|ax<|aD<|fj 8 U dA U ?_
  refine aR (G ⟨((cf left x),(ys++[((y.Lo+1))]),B28),⟨k7 hn hm B D (fun n C=>by first|exact C|(simp [C]; done)) (fun n C=>by (simp only [kJ,bW] at C; rcases C with C|rfl<;>first|exact .inl C|exact .inr (l0 (B _ hm) dso sm om))) (fun L n C K=>by simp only [eu,List.not_mem_nil,or_false] at C; rcases C with rfl|rfl<;>first|(simp; done)|(exfalso; omega)),dC B,BG,H⟩⟩ _ _ _ rfl (cW hm) (aQ rfl) (aK [3,4,5,6,7,8,9]))
 refine rP 2 [] I ?_
 refine ku (k:=(ys++[((y.Lo+1))])) (k':=((ys++[((y.Lo+1))])++[((y.Hi+1))])) 9 (by first|exact hsz|exact Nat.le_refl _) hY BG H U U U (by exact ⟨_,l0 (B _ hm) dso (by first|exact .inl rfl|exact .inr U) om,U,U⟩) U U (fun B40 BD R=>?_) (fun B40 BD R=>?_)
 rotate_left 1
 ·refine rP 2 [] I ?_
  refine RK N<|aP U<|ar ?_
  refine hQ _ _ _ (gY (vs:=[]) trivial fun w hs=>rv 9 U BD R hs)
 refine bg 2 U<|RK N<|aV U<|bY<|aD<|KK Y<|an<|rS (SX (b_ (r:= .int .i64 2) U U U (ia ⟨dc,dc⟩)) U U)<|rP 1 [] I ?_
 refine RK d<|ew fun R43 A5=>WS fun _ AK=>rS (SX (b_ (r:= .bool false) U U U gS) U U)<|RK AK<|al fun _ Av=>aV U<|bB<|ae<|ae<|ax<|aD<|fj 8 U dA U ?_
 refine aR (G ⟨((cf left x),((ys++[((y.Lo+1))])++[((y.Hi+1))]),B40),⟨k7 hn hm B D (fun n C=>by first|exact C|(simp [C]; done)) (fun n C=>by (simp only [kJ,bW] at C; rcases C with (C|rfl)|rfl<;>first|exact .inl C|exact .inr (l0 (B _ hm) dso sm om))) (fun L n C K=>by simp only [eu,List.not_mem_nil,or_false] at C; rcases C with rfl|rfl<;>first|(simp; done)|(exfalso; omega)),dC B,BD,R⟩⟩ _ _ _ rfl (cW hm) (aQ rfl) (aK [3,4,5,6,7,8,9]))
theorem Kn (gw:Nat) (i:Int):
 lu Tryz.prog 58 [(vP gw),(vI i)] [] (fun (x:Nat×Nat)=>(Value.func (.func 82) [].toArray [(Value.pointer (some ⟨x.1,0,none⟩)),(Value.pointer (some ⟨x.2,0,none⟩))].toArray)) (fun (x:Nat×Nat)=>True) (fun (x:Nat×Nat)=>[(bZ x.1 80 [(vP gw)]),(bZ x.2 3 [(vI i)])]):=by
 refine du kr Tryz.func58 U U fun E Q hQ hN=>?_
 try dsimp only
 refine WS fun _ A=>uj U U fun C=>uj U U fun D=>bg 1 U<|RK A<|WS fun _ B=>rS (FU U)<|rP 1 [] I ?_
 refine RK B<|ar<|LX hQ (C,D) [1,0] [] I U U U U ?_
 trivial
end
section
open Go.RowKit
theorem Am (r:cd) (kA:OA) (kC:Nat) (cA:OA) (cC:Nat) (bA:OA) (bC:Nat) (slA:OA) (slC:Nat) (drA:OA) (drC:Nat) (heA:OA) (heC:Nat) (tA:OA) (tN tC:Nat) (gs gw:Nat) (m:gk) (i:Int) (hb: ∀ p∈m,0≤p.2.Lo∧p.2.Lo≤p.2.Hi∧p.2.Hi≤30000000) (hi:m.lookup i≠none) (hm12:m.length≤12):
 lu Tryz.prog 36 [(vP gw),(vI i)] [(bZ gw 88 (fR.cells (fR.mk (oy r kA kC cA cC bA bC slA slC drA drC heA heC) (aM.mk tA tN tC) (Value.map (some gs))))),(gZ iV gs (bM df m))] (fun (x:(OA)×Nat)=>(vS x.1 ((di m i (aG m i)).length) x.2)) (fun (x:(OA)×Nat)=>True) (fun (x:(OA)×Nat)=>[(own x.1 x.2 3 1 ((di m i (aG m i)).map iC))]):=by
 refine du kr Tryz.func36 U U fun w0 Q hQ hN=>?_
 try dsimp only
 refine WS fun _ Ap=>uj U U fun b2=>uj U U fun b3=>rP 1 [] I ?_
 refine RK Ap<|WS fun _ Aq=>mu (kV:=iV) U U fun Aw=>?_
 try dsimp only
 refine AL U Ut fun b6=>Gp U UG U U<|RK Aq<|al fun _ Ar=>WS fun _ As=>fE 1 [] (mc 3 U I) U<|rS (SX (bQ U U) U U)<|fE 2 [] (mr 4 U I) U<|rS (SX (x7 U U lI (by exact jF 5 U)) U U)<|rP 1 [] I ?_
 refine RK As<|aw ?_
 have A:(0≤m.length)∧(hU ([]:lS) (fun u=>1≤u∧u≤(0:Int))):=by exact ⟨Nat.zero_le _,Da fun k=>by omega⟩
 refine bO (ι:={z:Nat×lS // (z.1≤m.length)∧(hU z.2 (fun u=>1≤u∧u≤(z.1:Int)))}) [2,3,5,20] [0,2,3,4,5] U U (fun z=>[(21,(vI (z.1.1:Int)))]) (fun z=>[(gZ iV Aw (bM vB z.1.2))]) (fun _=>rfl) (fun _=>rfl) (fun z=>m.length-z.1.1) ⟨(0,([]:lS)),A⟩ (aQ U) (aK [0,2,3,4,5,1]) ?_
 clear A
 rintro ⟨⟨n,nv⟩,⟨j,K⟩⟩ J9 Ao
 try dsimp only at j K
 try dsimp only
 refine WS fun _ AD=>rP 1 [] I ?_
 refine RK AD<|al fun _ AE=>cM U (aT fun Ak=>?_) (aS fun Ak=>?_)
 ·refine WK AE<|al fun _ AF=>aw<|WS fun _ AG=>bg 2 U<|RK AG<|an<|fE 3 [] (mc 0 U I) U<|iu (kV:=iV) (x:=((n:Int)+1)) (C':=[_,_,_,_,_,(gZ iV Aw (bM vB (dK nv ((n:Int)+1) true)))]) 5 U U U U xY (dB n9) U (gr _ _ _ _).symm U<|aH<|aD<|KK AF<|an<|rP 2 [] I ?_
  refine aH ?_
  have Af:(vI (((n+1):Nat):Int))=(vI ((n:Int)+1)):=by exact cI om
  refine aR (Ao ⟨((n+1),(dK nv ((n:Int)+1) true)),⟨om,(Bb K om).su fun k=>by omega⟩⟩ _ _ _ U os (cN 4<|bk U Af<|dx.nil _) (aK [0,1,2,3,4,5]))
 refine bB<|ae<|ae<|ax<|KK Ar<|WS fun _ AH=>rP 1 [] (mc 0 U I) ?_
 refine cX (I5 nv Aw) (bp [5]) U fun G A8=>?_
 try dsimp only
 refine bg 1 U<|RK AH<|al fun _ AI=>WS fun _ AJ=>rP 2 [0,1] (mc 3 U (mc 2 U I)) ?_
 refine cX (Kn gw i) (aL) U fun A0 A9=>?_
 obtain ⟨Z,c⟩:=A0
 try dsimp only
 refine RK AJ<|aw<|kB 6 U (by exact fun _ h=>h)<|kB 8 U (by exact fun _ h=>h) ?_
 refine nz (L0:=[(2,(vP b2)),(3,(vP b3)),(5,(vP b6)),(7,(Value.map (some G)))]) (F:=[(bZ gw 88 (fR.cells (fR.mk (oy r kA kC cA cC bA bC slA slC drA drC heA heC) (aM.mk tA tN tC) (Value.map (some gs))))).ro,(gZ iV gs (bM df m)).ro,(bZ Z 80 [(vP gw)]),(bZ c 3 [(vI i)])]) (fun k (y:lS)=>(hU y (tS m i k))) (fun k y=>[(gZ iV G (bM vB nv)),(bZ b6 62 [(Value.map (some Aw))]),(bZ b3 3 [(vI i)]),(bZ b2 80 [(vP gw)]),(bZ gw 88 (fR.cells (fR.mk (oy r kA kC cA cC bA bC slA slC drA drC heA heC) (aM.mk tA tN tC) (Value.map (some gs))))).ro,(gZ iV gs (bM df m)).ro,(gZ iV Aw (bM vB y))]) (fun _ (_:Unit)=>False) (fun _ _=>[]) [4,5,6,7,8,9,10] [1,0,2,3] nv rfl rfl (Ha r kA kC cA cC bA bC slA slC drA drC heA heC tA tN tC gs gw m i Z c (by exact hb)) rfl rfl rfl (by exact JT (K.su fun k=>by omega)) (by simp only [List.forall_mem_cons,List.not_mem_nil,false_imp_iff,implies_true,and_true]; exact ⟨⟨_,sm,(dI (bT _))⟩,⟨_,sm,(dI (bT _))⟩,⟨_,sm,(bT _)⟩,⟨_,sm,(bT _)⟩⟩) (by rintro k x k2 ⟨n,_,rfl,_⟩; rfl) rfl (aQ rfl) ?_ ?_ (fun _ _ _ h=>h.elim) (fun _ _ h=>h.elim)
 rotate_left 1
 ·rintro BJ k nw Ag g
  have T:=g
  try dsimp only
  refine aD<|KK AI<|al fun _ Aa=>WS fun _ Ab=>rP 1 [] (mc 6 U I) ?_
  refine uO 11 U U xY U U fun Ay=>?_
  try dsimp only
  refine RK Ab<|aw ?_
  have A:(∀ p∈nw,p∈nw)∧(hU nv (fun u=>(1≤u∧u≤(m.length:Int))∧ ¬ (tS m i k u∧u ∉ nw.map (·.1)))):=by exact ⟨fun p hp=>hp,K.su fun u=>⟨fun q=>⟨om,fun z=>z.2 ((T.2 u).2 z.1)⟩,fun q=>by omega⟩⟩
  refine bO (ι:={z:lS×lS // (∀ p∈z.1,p∈nw)∧(hU z.2 (fun u=>(1≤u∧u≤(m.length:Int))∧ ¬ (tS m i k u∧u ∉ z.1.map (·.1))))}) [7,68] [0,1,2,9,10] U U (fun z=>[]) (fun z=>[(gZ iV G (bM vB z.1.2)),(yD iV Ay Aw (bM vB nw) (bM vB z.1.1) none)]) (fun _=>rfl) (fun _=>rfl) (fun z=>z.1.1.length) ⟨(nw,nv),A⟩ (dx.nil _) (aK [0,1,2,9,10,5,11]) ?_
  clear A
  rintro ⟨⟨left,rk⟩,⟨A3,J⟩⟩ J55 AC
  try dsimp only at A3 J
  try dsimp only
  refine WS fun _ X=>rY (dB n9).inj (f:=Value.bool) 6 U U U U (fun An=>?_) (fun u v Ah BC=>?_)
  rotate_left 1
  ·try dsimp only
   refine bg 1 U<|RK X<|al fun _ Ad=>aP U<|WK Ad<|aw<|WS fun _ Ae=>rS (SX (sr 6 U U U) U U)<|bg 2 U<|RK Ae<|an<|rP 2 [] I ?_
   refine pz (kV:=iV) (x:=u) (C':=[_,_,_,_,_,(gZ iV G (bM vB (cf rk u))),_]) 5 U U U U xY (dB n9) U (lD _ _ _).symm U<|aH<|aD<|fj 6 U xq U ?_
   refine aR (AC ⟨((cf left u),(cf rk u)),⟨dC A3,NL A3 T Ah J⟩⟩ _ _ _ U (cW Ah) (aQ U) (aK [0,1,2,3,4,5,6]))
  refine rP 1 [] I ?_
  refine RK X<|al fun _ A7=>aV U<|bB<|ae<|ae<|ax<|KK Aa<|WS fun _ Ac=>?_
  have Ai:hU rk (fun u=>(1≤u∧u≤(m.length:Int))∧ ¬ tS m i k u):=J.su fun u=>⟨fun q=>⟨q.1,fun z=>q.2 ⟨z,by rw [An]; simp⟩⟩,fun q=>⟨q.1,fun z=>q.2 z.1⟩⟩
  have Y:dj (rk.map (·.1))=(di m i (aG m i)):=Ef hi Ag Ai
  have BE:rk.length≤m.length:=JK Ai fun k q=>q.1
  have At:rk.length=(di m i (aG m i)).length:=by rw [← Y]; simp
  refine rP 1 [] I ?_
  refine cX (M0 G) (aL) U fun Aj A_=>?_
  try dsimp only
  refine cX (GQ rk G Aj om) (bp [6,0]) U fun A1 BA=>?_
  obtain ⟨o,AA⟩:=A1
  try dsimp only
  rw [Y]
  refine rP 1 [] I ?_
  refine RK Ac<|ar<|hQ _ _ _ (ox 2 U U<|gY (vs:=[(vS o rk.length AA)]) ⟨U,trivial⟩ fun w hs=>I_ (o,AA) [0] ?_ ?_ U U U hs)
  ·(rw [← At]; rfl)
  ·trivial
 rintro k x k2 nw l ra rb S w1 K26 Qr27 BH hx e AK d Az A2
 obtain ⟨n,BD,rfl,rfl⟩:=hx
 have T:=e
 try dsimp only
 refine an<|rP 1 [] I ?_
 refine aH<|aR (AK _ _ ?_)
 refine aw<|WS fun _ AM=>bg 2 U<|RK AM<|al fun _ AN=>WS fun _ AO=>fE 1 [] (mc 4 U I) U<|rS (SX (bQ U U) U U)<|rP 2 [] (mr 5 U I) ?_
 refine iG (kV:=iV) (m:=bM df m) 6 U U lI U ⟨U,fun h=>h⟩ (by exact jF 6 U) U fun Ax=>?_
 try dsimp only
 refine RK AO<|aw ?_
 have A:((1:Int)+(gE m i n:Int)=1+(gE m i n:Int))∧((1:Int)+(jt m i n:Int)=1+(jt m i n:Int))∧(∀ p∈m,p∈m)∧(1≤(1:Int)∧1≤(1:Int)):=by exact ⟨rfl,rfl,fun p hp=>hp,om⟩
 refine bO (ι:={z:gk×Int×Int // (z.2.1+(gE z.1 i n:Int)=1+(gE m i n:Int))∧(z.2.2+(jt z.1 i n:Int)=1+(jt m i n:Int))∧(∀ p∈z.1,p∈m)∧(1≤z.2.1∧1≤z.2.2)}) [2,3,5,7,8,38] [1,2,3,4,5,6,7,8] U U (fun z=>[(9,(vI z.1.2.1)),(10,(vI z.1.2.2))]) (fun z=>[(yd iV Ax gs (bM df m) (bM df z.1.1) none)]) (fun _=>rfl) (fun _=>rfl) (fun z=>z.1.1.length) ⟨(m,(1:Int),(1:Int)),A⟩ (aQ U) (aK [1,2,3,4,5,6,7,8,0]) ?_
 clear A
 rintro ⟨⟨left,s,t⟩,⟨C,D,B,R⟩⟩ J33 L
 try dsimp only at C D B R
 try dsimp only
 have Au:=vL (m:=m) (i:=i) (n:=n)
 have Av:=zO (m:=m) (i:=i) (n:=n)
 refine WS fun _ V=>g7 (dB n9).inj (f:=df) 8 U U U U (fun P=>?_) (fun x y hm hn=>?_)
 ·refine bg 1 U<|RK V<|al fun _ A6=>aV U<|bB<|ae<|ae<|ax<|KK AN<|WS fun _ AP=>rP 2 [] I ?_
  refine RK AP<|aw ?_
  have A:(s≤s∧(s≤t+1∨s=s))∧(hU nw (fun u=>tS m i k u∧ ¬ (s≤u∧u<s))):=by exact ⟨⟨Int.le_refl _,.inr rfl⟩,T.su fun u=>⟨fun q=>⟨q,fun z=>by omega⟩,fun q=>q.1⟩⟩
  refine bO (ι:={z:Int×lS // (s≤z.1∧(z.1≤t+1∨z.1=s))∧(hU z.2 (fun u=>tS m i k u∧ ¬ (s≤u∧u<z.1)))}) [2,3,5,7,8,9,10] [0,1,2,3,4,5,6,8] U U (fun z=>[(13,(vI z.1.1))]) (fun z=>[(gZ iV Aw (bM vB z.1.2))]) (fun _=>rfl) (fun _=>rfl) (fun z=>(t+1-z.1.1).toNat) ⟨(s,nw),A⟩ (aQ U) (aK [0,1,2,3,4,5,6,8,7]) ?_
  clear A
  rintro ⟨⟨q,n2⟩,⟨N,H⟩⟩ J37 AB
  try dsimp only at N H
  try dsimp only
  have Au:=vL (m:=m) (i:=i) (n:=n)
  have Av:=zO (m:=m) (i:=i) (n:=n)
  have BF:s=1+(gE m i n:Int):=by rw [P] at C; simp only [uq] at C; omega
  have BG:t=1+(jt m i n:Int):=by rw [P] at D; simp only [wY] at D; omega
  refine al fun _ AQ=>WS fun _ AR=>rP 3 [] I ?_
  refine RK AR<|bR U (aS fun Al=>?_) (aT fun Al=>?_)
  ·refine bB<|ae<|ae<|ax<|aD ?_
   exact d n2 _ _ (by exact Lt (a:=s) (b:=t) (by rw [P,uq] at C; omega) (by rw [P,wY] at D; omega) (H.su fun u=>⟨fun z=>⟨z.1,fun w=>z.2 om⟩,fun z=>⟨z.1,fun w=>z.2 om⟩⟩)) (aK [0,1,2,3,4,5,6,8])
  refine WK AQ<|al fun _ AS=>aw<|an<|fE 2 [] (mc 2 U I) U<|pz (kV:=iV) (x:=q) (C':=[_,_,_,_,_,_,_,_,(gZ iV Aw (bM vB (cf n2 q)))]) 8 U U U U xY (dB n9) U (lD _ _ _).symm U<|aH<|aD<|KK AS<|an<|rP 3 [] I ?_
  refine aH ?_
  refine aR (AB ⟨((q+1),(cf n2 q)),⟨om,DH N.1 H⟩⟩ _ _ _ U dso (aQ U) (aK [0,1,2,3,4,5,6,7,8]))
 try dsimp only
 refine bg 1 U<|RK V<|al fun _ AT=>aP U<|WK AT<|aw<|WS fun _ AU=>rS (SX (g8 8 U U U) U U)<|bg 2 U<|AL U dh fun BB=>bg 1 U<|fQ U cu U<|RK AU<|al fun _ AV=>WS fun _ AW=>rP 3 [] (mc 4 U I) ?_
 refine RK AW<|cM U (aT fun E=>?_) (aS fun E=>?_)
 ·refine bB<|ae<|ax<|fj 9 U dA U ?_
  refine aR (L ⟨((cf left x),s,t),(by refine ⟨?_,?_,dC B,?_⟩<;>dsimp only <;>first|omega|(rw [← jw hn hm E]; omega)|(rw [← ks hn hm E]; omega))⟩ _ _ _ U (cW hm) (aQ U) (aK [1,2,3,4,5,6,7,8,9]))
 refine WK AV<|al fun _ W=>WS fun _ AX=>rP 4 [] (mc 0 U I) ?_
 refine RK AX<|bR U (aS fun O=>?_) (aT fun O=>?_)
 ·refine WK W<|WS fun _ AZ=>rP 4 [] (mc 0 U I) ?_
  refine RK AZ<|bR U (aS fun M=>?_) (aT fun M=>?_)
  ·refine bY<|aD<|fj 9 U dA U ?_
   refine aR (L ⟨((cf left x),s,t),(by refine ⟨?_,?_,dC B,?_⟩<;>dsimp only <;>first|omega|(have:=jP hn hm E O; omega)|(have:=kZ hn hm E M; omega))⟩ _ _ _ U (cW hm) (aQ U) (aK [1,2,3,4,5,6,7,8,9]))
  refine an<|rP 3 [] I ?_
  refine aH<|aD<|fj 9 U dA U ?_
  refine aR (L ⟨((cf left x),s,(t+1)),(by refine ⟨?_,?_,dC B,?_⟩<;>dsimp only <;>first|omega|(have:=jP hn hm E O; omega)|(have:=j1 hn hm E M; omega))⟩ _ _ _ U (cW hm) (aQ U) (aK [1,2,3,4,5,6,7,8,9]))
 refine an<|bg 3 U<|RK W<|WS fun _ AY=>rP 4 [] (mc 0 U I) ?_
 refine RK AY<|bR U (aS fun M=>?_) (aT fun M=>?_)
 ·refine bY<|aD<|fj 9 U dA U ?_
  refine aR (L ⟨((cf left x),(s+1),t),(by refine ⟨?_,?_,dC B,?_⟩<;>dsimp only <;>first|omega|(have:=iY hn hm E O; omega)|(have:=kZ hn hm E M; omega))⟩ _ _ _ U (cW hm) (aQ U) (aK [1,2,3,4,5,6,7,8,9]))
 refine an<|rP 3 [] I ?_
 refine aH<|aD<|fj 9 U dA U ?_
 refine aR (L ⟨((cf left x),(s+1),(t+1)),(by refine ⟨?_,?_,dC B,?_⟩<;>dsimp only <;>first|omega|(have:=iY hn hm E O; omega)|(have:=j1 hn hm E M; omega))⟩ _ _ _ U (cW hm) (aQ U) (aK [1,2,3,4,5,6,7,8,9]))
end
section
open Go.RowKit
theorem FR (i:Int) (r:cd) (kA:OA) (kC:Nat) (az:List RA) (cA:OA) (cC:Nat) (bA:OA) (bC:Nat) (slA:OA) (slC:Nat) (drA:OA) (drC:Nat) (ha:List cQ) (heA:OA) (heC:Nat) (hin:fg r az ha):
 lu Tryz.prog 15 [(vA (bq.cells (oy r kA kC cA cC bA bC slA slC drA drC heA heC))),(vI i)] [(rd dF 3 2 dg),(rd kA r.ah.aJ.length 9 (r.ah.aJ.map ao.cells)),(rd cA r.ah.ai.length 2 (List.zipWith au.cells r.ah.ai az)),(e7 (aU au.gX r.ah.ai az)),(rd bA r.ah.ag.length 4 (r.ah.ag.map bE.cells)),(rd slA r.aI.length 1 (r.aI.map iC)),(rd drA r.bD.length 1 (r.bD.map iC)),(rd heA r.aq.length 1 (List.zipWith cz r.aq ha)),(e7 (aU hP r.aq ha))] (fun (x:(OA)×Nat)=>(vT [(vS x.1 ((fU r i).length) x.2),(vI (jy r i))])) (fun (x:(OA)×Nat)=>True) (fun (x:(OA)×Nat)=>[(own x.1 x.2 3 1 ((fU r i).map iC))]):=by
 have V:=hin.line
 have k:=hin.iN
 have l:=hin.has
 have c:=hin.iM
 have Z:=hin.draw
 have d:=dH (r:=r)
 refine du kr Tryz.func15 U U fun o Q hQ hN=>?_
 try dsimp only
 refine WS fun _ AA=>fV U fun n=>bg 2 U<|RK AA<|WS fun _ G=>rP 2 [] (mc 0 U I) ?_
 refine cU (xs:=[.tmp 11]) (cs:=[(vI i)]) U cy jd U U U U (by simp [Value.cells]) U U fun h=>cX (zE r kA kC az cA cC bA bC slA slC drA drC ha heA heC i h hin) (bp [2,3,4,5,6,7,8,9,10,0]) U fun m L=>?_
 obtain ⟨M,j,T,S,N,O,zK,f,g⟩:=m
 cases M
 ·obtain ⟨H,he⟩:=L.2 rfl
  try dsimp only at H he
  subst H
  try dsimp only [cond_true,cond_false,List.cons_append,List.nil_append]
  refine bg 7 U<|RK G<|al fun _ Y=>WS fun _ B=>rP 2 [] I ?_
  refine RK B<|bR U (bw fun A=>?_) (bx fun A=>?_)
  ·exact absurd A he
  refine WS fun _ C=>dT 3 1 ?_
  rw [show (own none 0 3 1 ([]:List (List Value)))=own none 0 3 1 ((fU r i).map iC) from by rw [oD he]; rfl]
  refine bg 1 U<|rP 2 [] I ?_
  refine RK C<|ar ?_
  refine LX hQ (none,0) [0] [] I U U U ?_ ?_
  ·(rw [oD he]; rfl)
  ·trivial
 obtain ⟨he,W⟩:=L.1 rfl
 try dsimp only [cond_true,cond_false,List.cons_append,List.nil_append]
 try dsimp only at W
 obtain ⟨J,a,AB⟩:=ud he
 have K:=lP J
 have b:=nE J
 refine bg 7 U<|RK G<|al fun _ D=>WS fun _ E=>bg 1 U<|rS (SX (b_ (r:= .bool false) U U U nI) U U)<|RK E<|aV U<|WK D<|WS fun _ F=>rP 2 [] I ?_
 refine cX (Am r kA kC cA cC bA bC slA slC drA drC heA heC N ((cP r).length) O S T (aB r) i (by exact K) (by exact AB) om) (bp [0,3]) U fun X e=>?_
 obtain ⟨P,R⟩:=X
 try dsimp only
 rw [show (di (aB r) i (aG (aB r) i))=fU r i from (yP he).symm]
 refine rP 2 [] I ?_
 refine RK F<|ar ?_
 refine LX hQ (P,R) [0] [] I U U U ?_ ?_
 ·(rw [he]; rfl)
 ·trivial
theorem KD (a b:Int) (r:cd) (kA:OA) (kC:Nat) (az:List RA) (cA:OA) (cC:Nat) (bA:OA) (bC:Nat) (slA:OA) (slC:Nat) (drA:OA) (drC:Nat) (ha:List cQ) (heA:OA) (heC:Nat) (hin:fg r az ha):
 ej Tryz.prog 12 [(vA (bq.cells (oy r kA kC cA cC bA bC slA slC drA drC heA heC))),(vI a),(vI b)] [(rd dF 3 2 dg),(rd kA r.ah.aJ.length 9 (r.ah.aJ.map ao.cells)),(rd cA r.ah.ai.length 2 (List.zipWith au.cells r.ah.ai az)),(e7 (aU au.gX r.ah.ai az)),(rd bA r.ah.ag.length 4 (r.ah.ag.map bE.cells)),(rd slA r.aI.length 1 (r.aI.map iC)),(rd drA r.bD.length 1 (r.bD.map iC)),(rd heA r.aq.length 1 (List.zipWith cz r.aq ha)),(e7 (aU hP r.aq ha))] (vT [(Value.int .u8 (vt r a b)),(vI (nc r a b))]):=by
 have M:=hin.line
 have k:=hin.iN
 have l:=hin.has
 have V:=hin.iM
 have R:=hin.draw
 have W:=dH (r:=r)
 refine bH kr Tryz.func12 U U fun p Q hQ hN=>?_
 try dsimp only
 refine WS fun _ L=>fV U fun o=>bg 2 U<|RK L<|WS fun _ H=>rP 3 [] (mc 0 U I) ?_
 refine cU (xs:=[.tmp 13,.tmp 14]) (cs:=[(vI a),(vI b)]) U cy jd U U U U (by simp [Value.cells]) U U fun d=>cX (yM r kA kC az cA cC bA bC slA slC drA drC ha heA heC a b d hin) (bp [2,3,4,5,6,7,8,9,10,0]) U fun m J=>?_
 obtain ⟨K,e,g,f,Z,c,zK,X,Y⟩:=m
 cases K
 ·obtain ⟨AB,he⟩:=J.2 rfl
  try dsimp only at AB he
  subst AB
  try dsimp only [cond_true,cond_false,List.cons_append,List.nil_append]
  refine bg 7 U<|RK H<|al fun _ P=>WS fun _ C=>rP 2 [] I ?_
  refine RK C<|bR U (bw fun B=>?_) (bx fun B=>?_)
  ·exact absurd B he
  refine WS fun _ D=>rP 3 [] I ?_
  refine RK D<|ar<|Q2 hQ U U U U ?_
  (rw [show vt r a b=0 from if_neg he]; done)
 obtain ⟨he,O⟩:=J.1 rfl
 try dsimp only [cond_true,cond_false,List.cons_append,List.nil_append]
 try dsimp only at O
 obtain ⟨N,S,T,AA⟩:=yq he
 have A:=lP N
 have h:=gP (i:=a) A
 have j:=gP (i:=b) A
 refine bg 7 U<|RK H<|al fun _ E=>WS fun _ F=>bg 1 U<|rS (SX (b_ (r:= .bool false) U U U nI) U U)<|RK F<|aV U<|WK E<|al fun _ G=>dG cD 21 kr<|dP 1 [] I ?_
 refine dS (IA 0 U (ak (n:=2) 4 U sq) jL dc U om) ?_
 refine dS (nM ((0*2)+1) U (ak (n:=([(aG (aB r) a),(aG (aB r) b)]).length) 4 U sm) (Nat.succ_pos _) fD U)<|dS (gF 0 1 (vI ((aG (aB r) a).Hi)) U cq (ak (n:=([(aG (aB r) a),(aG (aB r) b)]).length) 4 U sm) (show ([(aG (aB r) a),(aG (aB r) b)].map aa.cells)[0]? =some [(vI ((aG (aB r) a).Lo)),(vI ((aG (aB r) a).Hi))] from U) U dc U)<|dP 1 [] I ?_
 refine dS (IA 1 U (ak (n:=2) 4 U sq) jL dc U om) ?_
 refine dS (nM (1*2) U (ak (n:=([(aG (aB r) a),(aG (aB r) b)]).length) 4 U sm) (Nat.succ_pos _) fD U)<|dS (gF 1 0 (vI ((aG (aB r) b).Lo)) U cq (ak (n:=([(aG (aB r) a),(aG (aB r) b)]).length) 4 U sm) (show ([(aG (aB r) a),(aG (aB r) b)].map aa.cells)[1]? =some [(vI ((aG (aB r) b).Lo)),(vI ((aG (aB r) b).Hi))] from U) U dc U)<|dP 2 [] I ?_
 refine dS (IA 0 U (ak (n:=2) 4 U sq) jL dc U om) ?_
 refine dS (nM (0*2) U (ak (n:=([(aG (aB r) a),(aG (aB r) b)]).length) 4 U sm) (Nat.succ_pos _) fD U)<|dS (gF 0 0 (vI ((aG (aB r) a).Lo)) U cq (ak (n:=([(aG (aB r) a),(aG (aB r) b)]).length) 4 U sm) (show ([(aG (aB r) a),(aG (aB r) b)].map aa.cells)[0]? =some [(vI ((aG (aB r) a).Lo)),(vI ((aG (aB r) a).Hi))] from U) U dc U)<|dP 1 [] I ?_
 refine dS (IA 1 U (ak (n:=2) 4 U sq) jL dc U om) ?_
 refine dS (nM ((1*2)+1) U (ak (n:=([(aG (aB r) a),(aG (aB r) b)]).length) 4 U sm) (Nat.succ_pos _) fD U)<|dS (gF 1 1 (vI ((aG (aB r) b).Hi)) U cq (ak (n:=([(aG (aB r) a),(aG (aB r) b)]).length) 4 U sm) (show ([(aG (aB r) a),(aG (aB r) b)].map aa.cells)[1]? =some [(vI ((aG (aB r) b).Lo)),(vI ((aG (aB r) b).Hi))] from U) U dc U)<|lB 1 U<|dS (CL (wq (decide (((aG (aB r) a).Hi)<((aG (aB r) b).Lo))) (decide (((aG (aB r) a).Lo)<((aG (aB r) b).Hi)))) (aL) U)<|dP 2 [] I ?_
 refine cO<|RK G<|ar<|Q2 hQ U U U U ?_
 (rw [he,show vt r a b=B1 _ _ from if_pos he,← MH])
theorem Qj (a b:Int) (r:cd) (kA:OA) (kC:Nat) (az:List RA) (cA:OA) (cC:Nat) (bA:OA) (bC:Nat) (slA:OA) (slC:Nat) (drA:OA) (drC:Nat) (ha:List cQ) (heA:OA) (heC:Nat) (hin:fg r az ha):
 ej Tryz.prog 13 [(vA (bq.cells (oy r kA kC cA cC bA bC slA slC drA drC heA heC))),(vI a),(vI b)] [(rd dF 3 2 dg),(rd kA r.ah.aJ.length 9 (r.ah.aJ.map ao.cells)),(rd cA r.ah.ai.length 2 (List.zipWith au.cells r.ah.ai az)),(e7 (aU au.gX r.ah.ai az)),(rd bA r.ah.ag.length 4 (r.ah.ag.map bE.cells)),(rd slA r.aI.length 1 (r.aI.map iC)),(rd drA r.bD.length 1 (r.bD.map iC)),(rd heA r.aq.length 1 (List.zipWith cz r.aq ha)),(e7 (aU hP r.aq ha))] (vT [(Value.int .u8 (qs r a b)),(vI (nc r a b))]):=by
 have T:=hin.line
 have q:=hin.iN
 have s:=hin.has
 have d:=hin.iM
 have X:=hin.draw
 have e:=dH (r:=r)
 refine bH kr Tryz.func13 U U fun w Q hQ hN=>?_
 try dsimp only
 refine WS fun _ P=>fV U fun v=>bg 2 U<|RK P<|WS fun _ J=>rP 3 [] (mc 0 U I) ?_
 refine cU (xs:=[.tmp 14,.tmp 15]) (cs:=[(vI a),(vI b)]) U cy jd U U U U (by simp [Value.cells]) U U fun l=>cX (yM r kA kC az cA cC bA bC slA slC drA drC ha heA heC a b l hin) (bp [2,3,4,5,6,7,8,9,10,0]) U fun u N=>?_
 obtain ⟨O,m,p,o,h,j,zK,f,g⟩:=u
 cases O
 ·obtain ⟨M,he⟩:=N.2 rfl
  try dsimp only at M he
  subst M
  try dsimp only [cond_true,cond_false,List.cons_append,List.nil_append]
  refine bg 7 U<|RK J<|al fun _ W=>WS fun _ E=>rP 2 [] I ?_
  refine RK E<|bR U (bw fun D=>?_) (bx fun D=>?_)
  ·exact absurd D he
  refine WS fun _ F=>rP 3 [] I ?_
  refine RK F<|ar<|Q2 hQ U U U U ?_
  (rw [show qs r a b=0 from if_neg he]; done)
 obtain ⟨he,V⟩:=N.1 rfl
 try dsimp only [cond_true,cond_false,List.cons_append,List.nil_append]
 try dsimp only at V
 obtain ⟨AA,Y,Z,c⟩:=yq he
 have B:=lP AA
 have R:=gP (i:=a) B
 have S:=gP (i:=b) B
 refine bg 7 U<|RK J<|al fun _ G=>WS fun _ H=>rP 1 [] I ?_
 refine rS (SX (b_ (r:= .bool false) U U U nI) U U)<|RK H<|aV U<|WK G<|al fun _ AB=>dR cD [19,20] [] [] [0,1,2,3,4,5,6,7,8,9,10,11,12,13,14,15] [] U U U U U<|eS U (MV U) ?_
 refine eS U (IA 0 U (ak (n:=2) 4 U sq) jL dc U om) ?_
 refine eS U (nM (0*2) U (ak (n:=([(aG (aB r) a),(aG (aB r) b)]).length) 4 U sm) (Nat.succ_pos _) fD U)<|eS U (gF 0 0 (vI ((aG (aB r) a).Lo)) U cq (ak (n:=([(aG (aB r) a),(aG (aB r) b)]).length) 4 U sm) (show ([(aG (aB r) a),(aG (aB r) b)].map aa.cells)[0]? =some [(vI ((aG (aB r) a).Lo)),(vI ((aG (aB r) a).Hi))] from U) U dc U)<|eS U (MV U) ?_
 refine eS U (IA 1 U (ak (n:=2) 4 U sq) jL dc U om) ?_
 refine eS U (nM (1*2) U (ak (n:=([(aG (aB r) a),(aG (aB r) b)]).length) 4 U sm) (Nat.succ_pos _) fD U)<|eS U (gF 1 0 (vI ((aG (aB r) b).Lo)) U cq (ak (n:=([(aG (aB r) a),(aG (aB r) b)]).length) 4 U sm) (show ([(aG (aB r) a),(aG (aB r) b)].map aa.cells)[1]? =some [(vI ((aG (aB r) b).Lo)),(vI ((aG (aB r) b).Hi))] from U) U dc U)<|eS U (MX U)<|eS U (MV U) ?_
 refine eS U (IA 0 U (ak (n:=2) 4 U sq) jL dc U om) ?_
 refine eS U (nM ((0*2)+1) U (ak (n:=([(aG (aB r) a),(aG (aB r) b)]).length) 4 U sm) (Nat.succ_pos _) fD U)<|eS U (gF 0 1 (vI ((aG (aB r) a).Hi)) U cq (ak (n:=([(aG (aB r) a),(aG (aB r) b)]).length) 4 U sm) (show ([(aG (aB r) a),(aG (aB r) b)].map aa.cells)[0]? =some [(vI ((aG (aB r) a).Lo)),(vI ((aG (aB r) a).Hi))] from U) U dc U)<|eS U (MV U) ?_
 refine eS U (IA 1 U (ak (n:=2) 4 U sq) jL dc U om) ?_
 refine eS U (nM ((1*2)+1) U (ak (n:=([(aG (aB r) a),(aG (aB r) b)]).length) 4 U sm) (Nat.succ_pos _) fD U)<|eS U (gF 1 1 (vI ((aG (aB r) b).Hi)) U cq (ak (n:=([(aG (aB r) a),(aG (aB r) b)]).length) 4 U sm) (show ([(aG (aB r) a),(aG (aB r) b)].map aa.cells)[1]? =some [(vI ((aG (aB r) b).Lo)),(vI ((aG (aB r) b).Hi))] from U) U dc U)<|eS U (MN U)<|eS U (SX (bj (xs:=[(0,.tmp 32),(1,.tmp 41)]) (cs:=(aa.cells (aa.mk (max ((aG (aB r) a).Lo) ((aG (aB r) b).Lo)) (min ((aG (aB r) a).Hi) ((aG (aB r) b).Hi))))) U U (bh gu U)) U U)<|e8 U<|cp U fun T22 K=>AL U dh fun k=>aH (K _ _ (aK [1,2,3,4,5,6,7,8,9,10,11,12,13,14,15,16]) ?_)
 refine cp U fun T24 L=>fQ U cu U<|aH (L _ _ (aK [1,2,3,4,5,6,7,8,9,10,11,12,13,14,15,16]) ?_)
 refine fO U<|KK AB<|al fun _ A=>dG cD 22 kr<|dP 1 [] I ?_
 refine dS (IA 0 U (ak (n:=2) 5 U sq) jL dc U om) ?_
 refine dS (oB 0 0 (aa.cells (aG (aB r) a)) U cq (ak (n:=([(aG (aB r) a),(aG (aB r) b)]).length) 5 U sm) (show ([(aG (aB r) a),(aG (aB r) b)].map aa.cells)[0]? =some [(vI ((aG (aB r) a).Lo)),(vI ((aG (aB r) a).Hi))] from U) U dc U U)<|dP 1 [] I ?_
 refine dS (IA 1 U (ak (n:=2) 5 U sq) jL dc U om) ?_
 refine dS (oB 1 0 (aa.cells (aG (aB r) b)) U cq (ak (n:=([(aG (aB r) a),(aG (aB r) b)]).length) 5 U sm) (show ([(aG (aB r) a),(aG (aB r) b)].map aa.cells)[1]? =some [(vI ((aG (aB r) b).Lo)),(vI ((aG (aB r) b).Hi))] from U) U dc U U)<|dS (BI U (tj _ _ (aG (aB r) a) (aG (aB r) b)))<|dP 1 [] I ?_
 refine jo (t:=50) U (aS fun C=>?_) (aT fun C=>?_)
 ·refine mI 11 [] (mc 0 U I) U<|dS (CL (wq false (decide ((max ((aG (aB r) a).Lo) ((aG (aB r) b).Lo))≤(min ((aG (aB r) a).Hi) ((aG (aB r) b).Hi))))) (aL) U)<|dP 2 [] I ?_
  refine cO<|RK A<|ar<|Q2 hQ U U U U ?_
  (rw [he,show qs r a b=ru _ _ from if_pos he,← NC R.2.1 S.2.1 C]; done)
 refine mI 11 [] (mc 0 U I) U<|dS (CL (wq (decide ((max ((aG (aB r) a).Lo) ((aG (aB r) b).Lo))=(min ((aG (aB r) a).Hi) ((aG (aB r) b).Hi)))) (decide ((max ((aG (aB r) a).Lo) ((aG (aB r) b).Lo))≤(min ((aG (aB r) a).Hi) ((aG (aB r) b).Hi))))) (aL) U)<|dP 2 [] I ?_
 refine cO<|RK A<|ar<|Q2 hQ U U U U ?_
 (rw [he,show qs r a b=ru _ _ from if_pos he,← Kx C]; done)
end
section
theorem TN.sub {E:ff} {ops:Array Oper} {Q:cZ} {D:List Deferred} {C' C1 C:List av} {tb rem:List Nat}: ∀ {n:Nat} {L L':List (Nat×Value)},dx L L'→TN E ops D C' C1 (fun L C=>KJ E (Q .normal) D L C) tb n rem L' C→TN E ops D C' C1 (fun L C=>KJ E (Q .normal) D L C) tb n rem L C:=by
 intro n
 cases n with
 |zero=>intro L L' hs h; exact jg hs (fun _ h=>h) h
 |succ n=>intro L L' hs h i hi o ho K hK; exact Ok hs (fun _ h=>h) (h i hi o ho K hK)
theorem NA {E:ff} {ops:Array Oper} {Q:cZ} {D:List Deferred} {C' C1 C:List av} {bs:List Bool} {os:List Oper} {L:List (Nat×Value)} {tb rem:List Nat} {n:Nat} {t:Nat} {b:Bool} (h:L.lookup t=some (.bool b))
 (h1:b=true→pW E ops D C' C1 (fun L'=>TN E ops D C' C1 (fun L C=>KJ E (Q .normal) D L C) tb n rem L' C) bs os ((t,.bool true)::L)) (h2:b=false→pW E ops D C' C1 (fun L'=>TN E ops D C' C1 (fun L C=>KJ E (Q .normal) D L C) tb n rem L' C) bs os ((t,.bool false)::L)):
 pW E ops D C' C1 (fun L'=>TN E ops D C' C1 (fun L C=>KJ E (Q .normal) D L C) tb n rem L' C) bs os L:=by
 have A: ∀ v:Bool,b=v→dx L ((t,.bool v)::L):=fun v hv=>dx.cons (hv▸h) (fun _ _ h=>h)
 cases b
 ·exact pW.mono (fun _ _=>TN.sub) (A _ U) (h2 U)
 ·exact pW.mono (fun _ _=>TN.sub) (A _ U) (h1 U)
theorem Jw {E:ff} {ops:Array Oper} {Q:cZ} {D:List Deferred} {L:List (Nat×Value)} {C1 C2 C:List av} {t n:Nat} {b:Bool} {bs:List Bool} {os:List Oper} {tb rem:List Nat} (h:L.lookup t=some (.bool b)) (h2:b=false→pW E ops D C2 C1 (fun L2=>TN E ops D C2 C1 (fun L C=>KJ E (Q .normal) D L C) tb n rem L2 C) bs os ((t,.bool false)::L)) (h1:b=true→pW E ops D C2 C1 (fun L2=>TN E ops D C2 C1 (fun L C=>KJ E (Q .normal) D L C) tb n rem L2 C) bs os ((t,.bool true)::L)):pW E ops D C2 C1 (fun L2=>TN E ops D C2 C1 (fun L C=>KJ E (Q .normal) D L C) tb n rem L2 C) bs os L:=NA h h1 h2
end
section
open Go.RowKit
section
variable {r:cd} {h i:Int} {t:aa} {k:Nat}
end
/-- there is a table -/
theorem Ai {r:cd} (he:bX r=0): ∃ G,ij (aG (aB r)) ((aB r).map (·.1)) G∧BN G:=by
 have key: ∀ (L:List Int),D1 (fun u=>(aG (aB r) u).Lo) L→ ∀ i,i≤L.length→ ∃ G last,l7 (aG (aB r)) (L.take i) G last:=fun L B i=>by
  induction i with
  |zero=>intro _; exact ⟨[],-1,E1⟩
  |succ i ih=>
   intro hi
   obtain ⟨G,last,hG⟩:=ih om
   have hx:L[i]? =some (L[i]'om):=e9 _
   have C:=gP (i:=L[i]'om) (lP he)
   by_cases hl:last<(aG (aB r) (L[i]'om)).Lo
   ·obtain ⟨g,hg⟩: ∃ g,(G++[[]])[(G++[([]:List Int)]).length-1]? =some g:=⟨_,e9 sm⟩
    exact ⟨_,_,pA om hx hg hG hl⟩
   ·have hp:=F2 C.1 hG hl
    obtain ⟨g,hg⟩: ∃ g,G[G.length-1]? =some g:=⟨_,e9 om⟩
    exact ⟨_,_,og om (fun u _=>(gP (i:=u) (lP he)).2.1) B hx hg hG hl⟩
 obtain ⟨G,last,hG⟩:=key (eD (fun u=>(aG (aB r) u).Lo) ((aB r).map (·.1))) uo _ (Nat.le_refl _)
 have A:=vh hG.ok
 rw [List.take_length] at A
 exact ⟨_,qA A.1 qb,A.2⟩
theorem ve {r:cd}:(bG r).length≤1000000∧ ∀ l∈bG r,l.length≤1000000:=by
 by_cases he:bX r=0
 ·have E:(aB r).length≤5:=nE he
  have A: ∃ G,ij (aG (aB r)) ((aB r).map (·.1)) G∧BN G:=by
   refine Classical.byContradiction fun hn=>?_
   exact hn (Ai he)
  obtain ⟨G,hG,hA⟩:=A
  rw [← sW he hG hA]
  have C:=hG.perm.length_eq
  rw [List.length_map] at C
  have B: ∀ G:List (List Int),(∀ g∈G,g≠[])→G.length≤G.flatten.length:=fun G=>by
   induction G with
   |nil=>intro _; simp
   |cons g G ih=>
    intro hG
    have B:=ih fun y hy=>hG y (cS _ hy)
    have D:=List.length_pos_iff.2 (hG g cm)
    simp only [List.flatten_cons,List.length_cons,List.length_append]; omega
  refine ⟨by have:=B G hG.some_; omega,fun l hl=>?_⟩
  have D:l.length≤G.flatten.length:=(List.sublist_flatten_of_mem hl).length_le
  omega
 ·rw [CQ he]; simp
theorem C8 {r:cd} {h i:Int} {t:aa}:(cw r h i t).length≤r.aI.length:=by
 unfold cw
 split
 ·refine Nat.le_trans (List.length_filter_le _ _) ?_
  rw [gD,List.length_map]
  exact uN
 ·simp
end
section
open Go.RowKit
/-- a row is taken that was made before; an operation -/
inductive fG where
 |take (i:Nat)
 |op (j:Nat)
def fG.ix:fG→Nat
 | .take i=>i
 | .op j=>j
def Bt (dO:Nat→Nat):List fG→List Nat
 |[]=>[]
 | .take i::s=>dO i::Bt dO s
 | .op _::s=>Bt dO s
theorem tI {dO:Nat→Nat} {i:Nat}: ∀ {s:List fG},fG.take i∈s→dO i∈Bt dO s
 | .take k::s,h=>by
  rcases List.mem_cons.1 h with e|h
  ·cases e; exact cm ..
  ·exact cS _ (tI h)
 | .op k::s,h=>by
  rcases List.mem_cons.1 h with e|h
  ·cases e
  ·exact tI (s:=s) h
def rB (m:Array Nat) (dO:Nat→Nat) (x y:fG):Bool:=x.ix != y.ix&&(match y with | .op j=>ir m x.ix j| .take i=>match x with | .take k=>dO k != dO i| .op _=>true)
def Ty (m:Array Nat) (dO:Nat→Nat):List fG→Bool
 |[]=>true
 |x::s=>s.all (rB m dO x)&&Ty m dO s
theorem FB {m:Array Nat} {dO:Nat→Nat}: ∀ {s:List fG},Ty m dO s=true→s.Pairwise fun x y=>rB m dO x y=true
 |[],_=>List.Pairwise.nil
 |x::s,h=>by
  simp only [Ty,cR] at h
  exact List.Pairwise.cons (fun y hy=>List.all_eq_true.1 h.1 y hy) (FB h.2)
/-- what is known of the slots B is known in L -/
def CN (B L:List (Nat×Value)):Prop:= ∀ t v,B.lookup t=some v→L.lookup t=some v
theorem vX {B L:List (Nat×Value)} (h:B.map (fun p=>L.lookup p.1)=B.map (fun p=>some p.2)):CN B L:=by
 induction B with
 |nil=>intro t v h; simp at h
 |cons p B ih=>
  obtain ⟨k,u⟩:=p
  simp only [List.map_cons,List.cons.injEq] at h
  intro t v hl
  by_cases e:t=k
  ·subst e
   simp only [List.lookup,beq_self_eq_true,Option.some.injEq] at hl
   rw [h.1,hl]
  ·have:(t==k)=false:=by simpa using e
   simp only [List.lookup,this] at hl
   exact ih h.2 t v hl
theorem nJ {L Y:List (Nat×Value)} {t:Nat}:(L++Y).lookup t=match L.lookup t with |some v=>some v|none=>Y.lookup t:=by
 induction L with
 |nil=>rfl
 |cons p L ih=>
  obtain ⟨k,u⟩:=p
  by_cases e:t==k
  ·simp [List.lookup,e]
  ·have:(t==k)=false:=by simpa using e
   simp only [List.cons_append,List.lookup,this,ih]
theorem CN.app {B L Y:List (Nat×Value)} (h:CN B L):CN B (L++Y):=fun t v ht=>by rw [nJ,h t v ht]
theorem PB {B L:List (Nat×Value)} (h:CN B L) {x:Operand} {v:Value} (hv:ev B x=some v):ev L x=some v:=by
 cases x<;>simp only [ev] at hv ⊢ <;>first|exact h _ _ hv|exact hv
theorem Fb {B L:List (Nat×Value)} (h:CN B L): ∀ {xs:List Operand} {vs:List Value},evs B xs=some vs→evs L xs=some vs
 |[],vs,hv=>hv
 |x::xs,vs,hv=>by
  simp only [evs] at hv ⊢
  cases e1:ev B x with
  |none=>rw [e1] at hv; simp at hv
  |some v=>
   cases e2:evs B xs with
   |none=>rw [e1,e2] at hv; simp at hv
   |some us=>
    rw [e1,e2] at hv
    rw [PB h e1,Fb h e2]; exact hv
section
variable (E:ff) (ops:Array Oper) (D:List Deferred) (C':List av) (K0:Act→World→Prop) (B:List (Nat×Value)) (dO:Nat→Nat) (VO:Nat→Nat→Value) (AO:Nat→Nat→av)
def CH:List fG→List (Nat×Value)→List av→Prop
 |[],L,C=>KJ E K0 D L C
 | .take i::s,L,C=> ∀ b,CH s ((dO i,VO i b)::L) (AO i b::C)
 | .op j::s,L,C=> ∀ o,ops[j]? =some o→ ∀ (Y:List (Nat×Value)) (X:List av) (K:Act→World→Prop),(∀ L' C'',(∀ w,St E.S E.w0 C'' w→St E.S E.w0 C' w)→((Bt dO s).all fun d=>(L'.lookup d).isNone)=true→B.map (fun p=>L'.lookup p.1)=B.map (fun p=>some p.2)→CH s L' C''→KJ E K D (L'++Y) (C''++X))→RJ E ops (NQ K) [o] D (L++Y) (C++X)
/-- a row that is made at any time -/
def Rl (i:Nat):Prop:= ∀ o,ops[i]? =some o→ ∀ (L:List (Nat×Value)) (C:List av) (K:Act→World→Prop),CN B L→(∀ b,KJ E K D ((dO i,VO i b)::L) (AO i b::C))→RJ E ops (NQ K) [o] D L C
end
section
variable {E:ff} {ops:Array Oper} {D:List Deferred} {C' C1:List av} {K0:Act→World→Prop} {B:List (Nat×Value)} {dO:Nat→Nat} {VO:Nat→Nat→Value} {AO:Nat→Nat→av}
theorem FK {Q:cZ} {rest:List Oper} {L L2:List (Nat×Value)} {C C2:List av} (hL: ∀ a,Fr E.n D L a→Fr E.n D L2 a) (hC: ∀ w,St E.S E.w0 C w→St E.S E.w0 C2 w) (h:RJ E ops Q rest D L2 C2):RJ E ops Q rest D L C:=fun a w hf hs=>h a w (hL a hf) (hC w hs)
theorem zP {K:Act→World→Prop} {L L2:List (Nat×Value)} {C C2:List av} (hL: ∀ a,Fr E.n D L a→Fr E.n D L2 a) (hC: ∀ w,St E.S E.w0 C w→St E.S E.w0 C2 w) (h:KJ E K D L2 C2):KJ E K D L C:=fun a w hf hs=>h a w (hL a hf) (hC w hs)
theorem C7 {n:Nat} {L L2:List (Nat×Value)} (h: ∀ t v,L2.lookup t=some v→L.lookup t=some v) (a:Act) (hf:Fr n D L a):Fr n D L2 a:=⟨hf.defers,hf.size,fun t v ht=>hf.at_ t v (h t v ht)⟩
theorem En: ∀ (T0 s':List fG) (dn:List (Nat×Nat)) (L Y:List (Nat×Value)) (C:List av),(∀ x∈T0,∃ i b,x= .take i∧(i,b)∈dn)→(T0++s').Pairwise (fun x y=>rB (pU ops) dO x y=true)→(dn.map (·.1)).Nodup→(∀ p∈dn,fG.take p.1∈T0++s')→(∀ p∈dn,Y.lookup (dO p.1)=some (VO p.1 p.2))→(∀ i,fG.take i∈T0++s'→L.lookup (dO i)=none)→
 CH E ops D C' K0 B dO VO AO (T0++s') L C→ ∃ (dn':List (Nat×Nat)) (L':List (Nat×Value)) (C2:List av),CH E ops D C' K0 B dO VO AO s' L' C2∧(dn'.map (·.1)).Nodup∧(∀ p,p∈dn'↔p∈dn∧fG.take p.1∈s')∧(∀ t v,(L'++Y).lookup t=some v→(L++Y).lookup t=some v)∧(∀ i,fG.take i∈s'→L'.lookup (dO i)=none)∧(∀ w,St E.S E.w0 (C++dn.map fun p=>AO p.1 p.2) w→St E.S E.w0 (C2++dn'.map fun p=>AO p.1 p.2) w)
 |[],s',dn,L,Y,C,_,_,hn,hm,_,hl,h=>⟨dn,L,C,h,hn,fun p=>⟨fun q=>⟨q,hm p q⟩,fun q=>q.1⟩,fun t v q=>q,hl,fun w q=>q⟩
 |x::T0,s',dn,L,Y,C,ht,hp,hn,hm,hy,hl,h=>by
  obtain ⟨i,b,rfl,hb⟩:=ht x (cm ..)
  obtain ⟨J,P⟩:=List.pairwise_cons.1 hp
  have AB: ∀ y∈T0++s',i≠y.ix:=fun y hy e=>by
   have:=J y hy
   simp only [rB,cR,bne_iff_ne,fG.ix] at this
   exact this.1 e
  have N: ∀ k,fG.take k∈T0++s'→dO k≠dO i:=fun k hk e=>by
   have:=J _ hk
   simp only [rB,cR,bne_iff_ne] at this
   exact this.2 e.symm
  have K:dn.Perm ((i,b)::dn.erase (i,b)):=List.perm_cons_erase hb
  have H:((dn.erase (i,b)).map (·.1)).Nodup∧i ∉ (dn.erase (i,b)).map (·.1):=by
   have:=(K.map (·.1)).nodup_iff.1 hn
   exact ⟨(List.nodup_cons.1 this).2,(List.nodup_cons.1 this).1⟩
  have A: ∀ p∈dn.erase (i,b),p∈dn∧p.1≠i:=fun p hp=>⟨List.mem_of_mem_erase hp,fun e=>by have q:=List.mem_map_of_mem (f:=fun p:Nat×Nat=>p.1) hp; simp only [e] at q; exact H.2 q⟩
  have O:L.lookup (dO i)=none:=hl i (cm ..)
  obtain ⟨dn',L',C2,R,T,AA,V,W,X⟩:=En T0 s' (dn.erase (i,b)) ((dO i,VO i b)::L) Y (AO i b::C) (fun x hx=>by
   obtain ⟨k,c,rfl,hk⟩:=ht x (cS _ hx)
   refine ⟨k,c,U,?_⟩
   have F:k≠i:=fun e=>AB _ (List.mem_append_left _ hx) e.symm
   exact (List.mem_erase_of_ne (fun e=>F (congrArg Prod.fst e))).2 hk) P H.1 (fun p hp=>by
   obtain ⟨M,G⟩:=A p hp
   rcases List.mem_cons.1 (hm p M) with e|e
   ·injection e with e; exact absurd e G
   ·exact e) (fun p hp=>hy p (A p hp).1) (fun k hk=>by
   have:(dO k==dO i)=false:=by simpa using N k hk
   simp only [List.lookup,this]
   exact hl k (cS _ hk)) (h b)
  refine ⟨dn',L',C2,R,T,fun p=>?_,fun t v hv=>?_,W,fun w hw=>X w ?_⟩
  ·rw [AA]
   constructor
   ·rintro ⟨M,G⟩; exact ⟨(A p M).1,G⟩
   ·rintro ⟨M,G⟩
    have F:p.1≠i:=fun e=>AB _ (List.mem_append_right _ G) e.symm
    exact ⟨(List.mem_erase_of_ne (fun e=>F (congrArg Prod.fst e))).2 M,G⟩
  ·have:=V t v hv
   rw [nJ] at this ⊢
   by_cases e:t=dO i
   ·subst e
    simp only [List.lookup,beq_self_eq_true] at this
    rw [O]; simp only
    rw [hy _ hb]; exact this
   ·have Q:(t==dO i)=false:=by simpa using e
    simp only [List.lookup,Q] at this
    exact this
  ·refine hw.perm ?_
   show (C++dn.map fun p=>AO p.1 p.2).Perm (AO i b::(C++(dn.erase (i,b)).map fun p=>AO p.1 p.2))
   refine ((K.map fun p:Nat×Nat=>AO p.1 p.2).append_left C).trans ?_
   exact List.perm_middle
theorem AZ: ∀ (s:List fG) (j:Nat),fG.op j∈s→ ∃ T0 k s',s=T0++fG.op k::s'∧ ∀ x∈T0,∃ i,x=fG.take i
 | .take i::s,j,h=>by
  rcases List.mem_cons.1 h with e|h
  ·cases e
  ·obtain ⟨T0,k,s',rfl,A⟩:=AZ s j h
   exact ⟨.take i::T0,k,s',U,fun x hx=>by
    rcases List.mem_cons.1 hx with rfl|hx
    ·exact ⟨i,U⟩
    ·exact A x hx⟩
 | .op k::s,j,_=>⟨[],k,s,rfl,fun x hx=>by cases hx⟩
def kl (s:List fG) (dn:List (Nat×Nat)):List Nat:=(s.map fG.ix).filter fun i=> !(dn.map (·.1)).contains i
theorem qX {s:List fG} {dn:List (Nat×Nat)} {i:Nat}:i∈kl s dn↔(∃ x∈s,x.ix=i)∧ ∀ p∈dn,p.1≠i:=by
 unfold kl
 rw [List.mem_filter,tn]
 refine and_congr Iff.rfl ?_
 rw [Bool.not_eq_true',← Bool.not_eq_true,List.contains_iff_mem,tn]
 constructor
 ·intro h p hp e; exact h ⟨p,hp,e⟩
 ·rintro h ⟨p,hp,e⟩; exact h p hp e
theorem qm (hal: ∀ i,Rl E ops D B dO VO AO i∨True): ∀ (n:Nat) (s:List fG) (dn:List (Nat×Nat)) (L Y:List (Nat×Value)) (C:List av),(∀ i,fG.take i∈s→Rl E ops D B dO VO AO i)→s.Pairwise (fun x y=>rB (pU ops) dO x y=true)→(kl s dn).length=n→(dn.map (·.1)).Nodup→(∀ p∈dn,fG.take p.1∈s)→(∀ p∈dn,Y.lookup (dO p.1)=some (VO p.1 p.2))→(∀ i,fG.take i∈s→L.lookup (dO i)=none)→CN B L→
 (∀ w,St E.S E.w0 C w→St E.S E.w0 C' w)→CH E ops D C' K0 B dO VO AO s L C→TN E ops D C' C1 (fun L C=>KJ E K0 D L C) [] n (kl s dn) (L++Y) (C++dn.map fun p=>AO p.1 p.2)
 |0,s,dn,L,Y,C,_,hp,hlen,hn,hm,hy,hl,hB,hC,h=>by
  have hr:kl s dn=[]:=jH hlen
  have Q: ∀ x∈s,∃ i b,x=fG.take i∧(i,b)∈dn:=fun x hx=>by
   have hx':x.ix ∉ kl s dn:=by rw [hr]; exact List.not_mem_nil
   rw [qX] at hx'
   have: ∃ p∈dn,p.1=x.ix:=by
    apply Classical.byContradiction
    intro q
    exact hx' ⟨⟨x,hx,U⟩,fun p hp e=>q ⟨p,hp,e⟩⟩
   obtain ⟨p,T,AF⟩:=this
   have ht:=hm p T
   rcases List.mem_iff_getElem.1 hx with ⟨a,ha,ea⟩
   rcases List.mem_iff_getElem.1 ht with ⟨c,hc,ec⟩
   have d:a=c:=by
    rcases Nat.lt_trichotomy a c with q|q|q
    ·have:=List.pairwise_iff_getElem.1 hp a c ha hc q
     simp only [rB,cR,bne_iff_ne,ea,ec] at this
     exact absurd AF.symm this.1
    ·exact q
    ·have:=List.pairwise_iff_getElem.1 hp c a hc ha q
     simp only [rB,cR,bne_iff_ne,ea,ec] at this
     exact absurd AF this.1
   subst d
   exact ⟨p.1,p.2,by rw [← ea,ec],T⟩
  obtain ⟨dn',L',C2,V,J,O,W,h5,X⟩:=En s [] dn L Y C Q (by simpa using hp) hn (by simpa using hm) hy (by simpa using hl) (by simpa using h)
  show KJ E K0 D _ _
  have hd:dn'=[]:=List.eq_nil_iff_forall_not_mem.2 fun p hp=>by have:=((O p).1 hp).2; cases this
  subst hd
  refine zP (L2:=L') (C2:=C2) (fun a hf=>C7 (fun t v ht=>W t v (by rw [nJ,ht])) a hf) (fun w hw=>by have:=X w hw; simpa using this) V
 |n+1,s,dn,L,Y,C,hal',hp,hlen,hn,hm,hy,hl,hB,hC,h=>by
  intro i hi o ho K hK
  obtain ⟨G,m⟩:=List.mem_filter.1 hi
  obtain ⟨⟨x,hx,rfl⟩,H⟩:=qX.1 G
  have A: ∀ k∈kl s dn,ir (pU ops) k x.ix=false:=fun k hk=>by
   have:=List.all_eq_true.1 m k hk
   simpa using this
  cases x with
  |take i=>
   simp only [fG.ix] at H A ho hK G ⊢
   refine hal' i hx o ho _ _ K hB.app fun b=>?_
   have l:=hl i hx
   have AG:(kl s dn).filter (· != i)=kl s ((i,b)::dn):=by
    unfold kl
    rw [List.filter_filter]
    apply List.filter_congr
    intro k _
    simp only [List.map_cons,List.contains_cons,Bool.not_or]
    rfl
   have N:(kl s dn).Nodup:=by
    unfold kl
    refine List.Nodup.sublist List.filter_sublist<|List.pairwise_map.2 (hp.imp fun {a c} q=>?_)
    simp only [rB,cR,bne_iff_ne] at q
    exact q.1
   have M: ∀ k,fG.take k∈s→k≠i→dO k≠dO i:=fun k hk AA e=>by
    rcases List.mem_iff_getElem.1 hx with ⟨a,ha,ea⟩
    rcases List.mem_iff_getElem.1 hk with ⟨c,hc,ec⟩
    rcases Nat.lt_trichotomy a c with q|q|q
    ·have:=List.pairwise_iff_getElem.1 hp a c ha hc q
     simp only [rB,cR,bne_iff_ne,ea,ec] at this
     exact this.2 e.symm
    ·subst q; rw [ea] at ec; cases ec; exact AA rfl
    ·have:=List.pairwise_iff_getElem.1 hp c a hc ha q
     simp only [rB,cR,bne_iff_ne,ea,ec] at this
     exact this.2 e
   refine zP (L2:=L++((dO i,VO i b)::Y)) (C2:=C++((i,b)::dn).map fun p=>AO p.1 p.2) (fun a hf=>C7 (fun t v ht=>?_) a hf) (fun w hw=>hw.perm (List.perm_middle).symm) (hK _ _ (fun w hw=>hC w (hw.take (List.sublist_append_left _ _))) (fun q=>by cases q) ?_)
   ·rw [nJ] at ht
    by_cases e:t=dO i
    ·subst e
     rw [l] at ht
     simp only [List.lookup,beq_self_eq_true] at ht ⊢
     exact ht
    ·have e2:(t==dO i)=false:=by simpa using e
     simp only [List.lookup,e2] at ht ⊢
     rw [nJ]; exact ht
   ·rw [AG]
    refine qm hal n s ((i,b)::dn) L ((dO i,VO i b)::Y) C hal' hp ?_ (List.nodup_cons.2 ⟨fun q=>?_,hn⟩) (fun p hp'=>?_) (fun p hp'=>?_) hl hB hC h
    ·rw [← AG,← List.Nodup.erase_eq_filter N,List.length_erase_of_mem G,hlen]; rfl
    ·obtain ⟨p,hp',e⟩:=List.mem_map.1 q
     exact H p hp' e
    ·rcases List.mem_cons.1 hp' with rfl|hp'
     ·exact hx
     ·exact hm p hp'
    ·rcases List.mem_cons.1 hp' with rfl|hp'
     ·simp [List.lookup]
     ·have:(dO p.1==dO i)=false:=by simpa using M p.1 (hm p hp') (H p hp')
      simp only [List.lookup,this]
      exact hy p hp'
  |op j=>
   simp only [fG.ix] at H A ho hK G ⊢
   obtain ⟨T0,k,s',rfl,hT⟩:=AZ s j hx
   obtain ⟨q1,q2,q3⟩:=List.pairwise_append.1 hp
   obtain ⟨q4,q5⟩:=List.pairwise_cons.1 q2
   have R: ∀ k',fG.op k'∈T0++fG.op k::s'→k'∈kl (T0++fG.op k::s') dn:=fun k' hk'=>by
    refine qX.2 ⟨⟨_,hk',U⟩,fun p hp' e=>?_⟩
    have ht:=hm p hp'
    rcases List.mem_iff_getElem.1 hk' with ⟨a,ha,ea⟩
    rcases List.mem_iff_getElem.1 ht with ⟨c,hc,ec⟩
    rcases Nat.lt_trichotomy a c with q|q|q
    ·have:=List.pairwise_iff_getElem.1 hp a c ha hc q
     simp only [rB,cR,bne_iff_ne,ea,ec,fG.ix] at this
     exact this.1 e.symm
    ·subst q; rw [ea] at ec; cases ec
    ·have:=List.pairwise_iff_getElem.1 hp c a hc ha q
     simp only [rB,cR,bne_iff_ne,ea,ec,fG.ix] at this
     exact this.1 e
   have AB:k=j:=by
    apply Classical.byContradiction
    intro AC
    have hj':fG.op j∈s':=by
     rcases List.mem_append.1 hx with q|q
     ·obtain ⟨i,e⟩:=hT _ q; cases e
     ·rcases List.mem_cons.1 q with e|q
      ·injection e with e; exact absurd e.symm AC
      ·exact q
    have:=q4 _ hj'
    simp only [rB,cR,fG.ix] at this
    have J:=A k (R k sm)
    rw [this.2] at J; cases J
   subst AB
   have F: ∀ x∈T0,∃ i b,x=fG.take i∧(i,b)∈dn:=fun x hx'=>by
    obtain ⟨i,rfl⟩:=hT x hx'
    apply Classical.byContradiction
    intro q
    have r:i∈kl (T0++fG.op k::s') dn:=qX.2 ⟨⟨_,List.mem_append_left _ hx',rfl⟩,fun p hp' e=>q ⟨i,p.2,rfl,by rw [← e]; exact hp'⟩⟩
    have:=q3 _ hx' _ (cm ..)
    simp only [rB,cR,fG.ix] at this
    have J:=A i r
    rw [this.2] at J; cases J
   obtain ⟨dn',L',C2,V,J,O,W,h5,X⟩:=En T0 (fG.op k::s') dn L Y C F hp hn hm hy hl h
   refine FK (fun a hf=>C7 W a hf) X (V o ho Y (dn'.map fun p=>AO p.1 p.2) K fun L3 C3 P AD Z g=>?_)
   have AG:(kl (T0++fG.op k::s') dn).filter (· != k)=kl s' dn':=by
    unfold kl
    rw [List.map_append,List.filter_append,List.map_cons,List.filter_append]
    have e1:(List.map fG.ix T0).filter (fun i=> !(dn.map (·.1)).contains i)=[]:=by
     apply List.filter_eq_nil_iff.2
     intro z hz
     obtain ⟨x,hx',rfl⟩:=List.mem_map.1 hz
     obtain ⟨i,b,rfl,hb⟩:=F x hx'
     simp only [fG.ix,Bool.not_eq_true',Bool.not_eq_false,List.contains_iff_mem]
     exact List.mem_map_of_mem (f:=(·.1)) hb
    rw [e1]
    simp only [List.filter_nil,List.nil_append]
    have u:k ∉ dn.map (·.1):=fun q=>by
     obtain ⟨p,hp',e⟩:=List.mem_map.1 q
     exact H p hp' e
    rw [List.filter_cons_of_pos (by simpa [fG.ix] using u),List.filter_cons_of_neg (by simp [fG.ix]),List.filter_filter]
    apply List.filter_congr
    intro z hz
    obtain ⟨y,hy',rfl⟩:=List.mem_map.1 hz
    have AE:y.ix≠k:=fun e=>by
     have:=q4 y hy'
     simp only [rB,cR,bne_iff_ne,fG.ix] at this
     exact this.1 e.symm
    rw [Bool.eq_iff_iff]
    simp only [cR,bne_iff_ne,Bool.not_eq_true',← Bool.not_eq_true,List.contains_iff_mem]
    constructor
    ·rintro ⟨_,hq⟩ hc
     obtain ⟨p,hp',e⟩:=List.mem_map.1 hc
     exact hq (by rw [← e]; exact List.mem_map_of_mem (f:=(·.1)) ((O p).1 hp').1)
    ·intro hq
     refine ⟨AE,fun hc=>?_⟩
     obtain ⟨p,hp',e⟩:=List.mem_map.1 hc
     apply hq
     rw [← e]
     refine List.mem_map_of_mem (f:=(·.1)) ((O p).2 ⟨hp',?_⟩)
     have ht:=hm p hp'
     rcases List.mem_append.1 ht with ht|ht
     ·exfalso
      have:=q3 _ ht _ (cS _ hy')
      simp only [rB,cR,bne_iff_ne,fG.ix] at this
      exact this.1 e
     ·exact ht
   have N:(kl (T0++fG.op k::s') dn).Nodup:=by
    unfold kl
    refine List.Nodup.sublist List.filter_sublist<|List.pairwise_map.2 (hp.imp fun {a c} q=>?_)
    simp only [rB,cR,bne_iff_ne] at q
    exact q.1
   refine hK _ _ (fun w hw=>P w (hw.take (List.sublist_append_left _ _))) (fun q=>by cases q) ?_
   rw [AG]
   have hdn': ∀ p∈dn',fG.take p.1∈s':=fun p hp'=>by
    rcases List.mem_cons.1 ((O p).1 hp').2 with e|e
    ·cases e
    ·exact e
   refine qm hal n s' dn' L3 Y C3 (fun i hi=>hal' i (by simp [hi])) q5 ?_ J hdn' (fun p hp'=>hy p ((O p).1 hp').1) (fun i hi=>?_) (vX Z) P g
   ·rw [← AG,← List.Nodup.erase_eq_filter N,List.length_erase_of_mem G,hlen]; rfl
   ·have:=List.all_eq_true.1 AD _ (tI hi)
    simpa using this
/-- the rows, at any time; the others, one after the other -/
theorem Nc {tb rem:List Nat} {L:List (Nat×Value)} {C:List av} (s:List fG) (B:List (Nat×Value)) (dO:Nat→Nat) (VO:Nat→Nat→Value) (AO:Nat→Nat→av) {n:Nat} (htb:tb=[]) (hr:s.map fG.ix=rem) (hn:rem.length=n) (hp:Ty (pU ops) dO s=true) (hl:((Bt dO s).all fun d=>(L.lookup d).isNone)=true) (hB:B.map (fun p=>L.lookup p.1)=B.map (fun p=>some p.2)) (hC: ∀ w,St E.S E.w0 C w→St E.S E.w0 C' w)
 (hal: ∀ i,fG.take i∈s→Rl E ops D B dO VO AO i) (h:CH E ops D C' K0 B dO VO AO s L C):TN E ops D C' C1 (fun L C=>KJ E K0 D L C) tb n rem L C:=by
 subst htb hr
 have e:kl s []=s.map fG.ix:=by unfold kl; simp
 have:=qm (C1:=C1) (fun i=> .inr trivial) n s [] L [] C hal (FB hp) (by rw [e]; exact hn) List.nodup_nil (fun p hp=>by cases hp) (fun p hp=>by cases hp) (fun i hi=>by
  have:=List.all_eq_true.1 hl _ (tI hi)
  simpa using this) (vX hB) hC h
 simpa [e] using this
theorem Ql {p:Nat→Prop}: ∀ i,fG.take i∈([]:List fG)→p i:=fun i h=>by cases h
theorem w4 {p:Nat→Prop} {j:Nat} {s:List fG} (h: ∀ i,fG.take i∈s→p i): ∀ i,fG.take i∈fG.op j::s→p i:=fun i hi=>by
 rcases List.mem_cons.1 hi with e|hi
 ·cases e
 ·exact h i hi
theorem vZ {p:Nat→Prop} {j:Nat} {s:List fG} (hj:p j) (h: ∀ i,fG.take i∈s→p i): ∀ i,fG.take i∈fG.take j::s→p i:=fun i hi=>by
 rcases List.mem_cons.1 hi with e|hi
 ·cases e; exact hj
 ·exact h i hi
end
section
variable {E:ff} {ops:Array Oper} {D:List Deferred} {B:List (Nat×Value)} {dO:Nat→Nat} {VO:Nat→Nat→Value} {AO:Nat→Nat→av}
variable {d:Nat} {ty:TypeId} {ps:String} {af:Array Edge}
theorem I7 {i t e sz:Nat} (ho:ops[i]? =some ⟨some d,.buildSlice t 0 #[],ty,ps,af,none⟩) (ht:tE E.P t=some (e,sz)) (hd:Nat.blt d E.n=true) (h1:dO i=d) (h2: ∀ b,VO i b= .slice (some ⟨b,0,none⟩) 0 0) (h3: ∀ b,AO i b=bZ b e []):Rl E ops D B dO VO AO i:=fun o ho' L C K hB hk=>by
 rw [ho] at ho'; cases ho'
 exact sS U ht hd fun b=>aH (by have:=hk b; rw [h1,h2,h3] at this; exact this)
theorem OI {i t e sz n:Nat} {xs:List Operand} {vs:List Value} {cs zs:List Value} (ho:ops[i]? =some ⟨some d,.buildSlice t n ((xs.zipIdx.map fun p=>(p.2,p.1)).toArray),ty,ps,af,none⟩) (ht:tE E.P t=some (e,sz)) (hz:tZ E.P e=some zs) (hx:evs B xs=some vs) (hn:xs.length=n) (hp:Nat.blt 0 (n*sz)=true) (hb:Nat.ble (n*sz) 16777216=true) (hv: ∀ v∈vs,v.cells.size=sz)
 (hc:(vs.map (·.cells.toList)).flatten=cs) (hd:Nat.blt d E.n=true) (h1:dO i=d) (h2: ∀ b,VO i b= .slice (some ⟨b,0,none⟩) n n) (h3: ∀ b,AO i b=bZ b e cs):Rl E ops D B dO VO AO i:=fun o ho' L C K hB hk=>by
 rw [ho] at ho'; cases ho'
 exact cU U ht hz (Fb hB hx) hn hp hb hv hc hd fun b=>aH (by have:=hk b; rw [h1,h2,h3] at this; exact this)
end
section
variable {E:ff} {ops:Array Oper} {D:List Deferred} {C':List av} {K0:Act→World→Prop} {B:List (Nat×Value)} {dO:Nat→Nat} {VO:Nat→Nat→Value} {AO:Nat→Nat→av}
theorem wa {j:Nat} {s:List fG} {L:List (Nat×Value)} {C:List av} {o:Oper} (ho:ops[j]? =some o)
 (h: ∀ (Y:List (Nat×Value)) (X:List av) (K:Act→World→Prop),(∀ L' C'',(∀ w,St E.S E.w0 C'' w→St E.S E.w0 C' w)→((Bt dO s).all fun d=>(L'.lookup d).isNone)=true→B.map (fun p=>L'.lookup p.1)=B.map (fun p=>some p.2)→CH E ops D C' K0 B dO VO AO s L' C''→KJ E K D (L'++Y) (C''++X))→RJ E ops (NQ K) [o] D (L++Y) (C++X)):CH E ops D C' K0 B dO VO AO (.op j::s) L C:=fun o' ho'=>by
 rw [ho] at ho'; cases ho'
 exact h
theorem rL {s:List fG} {L Y:List (Nat×Value)} {C X:List av} {K:Act→World→Prop} (hT: ∀ L' C'',(∀ w,St E.S E.w0 C'' w→St E.S E.w0 C' w)→((Bt dO s).all fun d=>(L'.lookup d).isNone)=true→B.map (fun p=>L'.lookup p.1)=B.map (fun p=>some p.2)→CH E ops D C' K0 B dO VO AO s L' C''→KJ E K D (L'++Y) (C''++X)) (nL nC:Nat)
 (hL:L.take nL++Y=L) (hC:C.take nC++X=C) (h1: ∀ w,St E.S E.w0 (C.take nC) w→St E.S E.w0 C' w) (h2:((Bt dO s).all fun d=>((L.take nL).lookup d).isNone)=true) (h3:B.map (fun p=>(L.take nL).lookup p.1)=B.map (fun p=>some p.2)) (h:CH E ops D C' K0 B dO VO AO s (L.take nL) (C.take nC)):RJ E ops (NQ K) [] D L C:=by
 have:=hT _ _ h1 h2 h3 h
 rw [hL,hC] at this
 exact aH this
theorem QS {c:Code} {Q:cZ} {L L':List (Nat×Value)} {C:List av} (h:L'.map (fun p=>L.lookup p.1)=L'.map (fun p=>some p.2)) (k:WJ E c Q D L' C):WJ E c Q D L C:=fun a w hf hs=>k a w (C7 (vX h) a hf) hs
theorem wc: ∀ {C:List av} {i:Nat} {A:av},C[i]? =some A→C.Perm (A::C.eraseIdx i)
 |[],i,A,h=>by simp at h
 |x::C,0,A,h=>by
  simp at h; subst h
  exact List.Perm.refl _
 |x::C,i+1,A,h=>((wc (C:=C) (i:=i) (by simpa using h)).cons x).trans (List.Perm.swap _ _ _)
theorem St.front {S:BS} {w0 w:World} {C:List av} {A:av} (i:Nat) (hi:C[i]? =some A) (h:St S w0 C w):St S w0 (A::C.eraseIdx i) w:=h.perm (wc hi)
theorem FY {K:Act→World→Prop} {L:List (Nat×Value)} {C:List av} {A:av} (i:Nat) (hi:C[i]? =some A) (h:KJ E K D L (A::C.eraseIdx i)):KJ E K D L C:=fun a w hf hs=>h a w hf (hs.front i hi)
theorem qM {Q:cZ} {rest:List Oper} {L:List (Nat×Value)} {C:List av} {A:av} (i:Nat) (hi:C[i]? =some A) (h:RJ E ops Q rest D L (A::C.eraseIdx i)):RJ E ops Q rest D L C:=fun a w hf hs=>h a w hf (hs.front i hi)
end
end
section
open Go.RowKit
section
variable {E:ff} {ops:Array Oper} {D:List Deferred} {C' C1:List av} {tb:List Nat}
theorem wI {V:Type} {F:List (Nat×Value)→List av→Prop} (P:V→Prop) (fL:V→List (Nat×Value)) (fC:V→List av) (n:Nat) (rest:List Nat) {m:Nat} {rem:List Nat} {L:List (Nat×Value)} {C:List av} (h1:(∀ v,P v→TN E ops D C' C1 F tb n rest (fL v) (fC v))→TN E ops D C' C1 F tb m rem L C) (h2: ∀ v,P v→TN E ops D C' C1 F tb n rest (fL v) (fC v)):TN E ops D C' C1 F tb m rem L C:=h1 h2
theorem Qf {K0:Act→World→Prop} {n:Nat} {rem:List Nat} {L L2:List (Nat×Value)} {C C2:List av} (hL: ∀ a,Fr E.n D L a→Fr E.n D L2 a) (hC: ∀ w,St E.S E.w0 C w→St E.S E.w0 C2 w) (h:TN E ops D C' C1 (fun L C=>KJ E K0 D L C) tb n rem L2 C2):TN E ops D C' C1 (fun L C=>KJ E K0 D L C) tb n rem L C:=by
 cases n with
 |zero=>exact zP hL hC h
 |succ n=>exact fun i hi o ho K hK=>FK hL hC (h i hi o ho K hK)
theorem jO {V:Type} {P:V→Prop} {fL:V→List (Nat×Value)} {fC:V→List av} {K0:Act→World→Prop} {n:Nat} {rem:List Nat} {L:List (Nat×Value)} {C:List av} (hJ: ∀ v,P v→TN E ops D C' C1 (fun L C=>KJ E K0 D L C) tb n rem (fL v) (fC v)) (v:V) (hp:P v) (ix:List Nat) (hL:(fL v).map (fun p=>L.lookup p.1)=(fL v).map (fun p=>some p.2)) (hn:decide ix.Nodup=true) (hC:o4 C ix=some (fC v)):TN E ops D C' C1 (fun L C=>KJ E K0 D L C) tb n rem L C:=
 Qf (fun a hf=>C7 (vX hL) a hf) (fun w hs=>St.kj _ hn (jE hC) hs) (hJ v hp)
end
end
section
open Go.RowKit
theorem Qw (h i:Int) (r:cd) (kA:OA) (kC:Nat) (az:List RA) (cA:OA) (cC:Nat) (bA:OA) (bC:Nat) (slA:OA) (slC:Nat) (drA:OA) (drC:Nat) (ha:List cQ) (heA:OA) (heC:Nat) (hin:fg r az ha):
 ej Tryz.prog 8 [(vA (bq.cells (oy r kA kC cA cC bA bC slA slC drA drC heA heC))),(vI h),(vI i)] [(rd dF 3 2 dg),(rd kA r.ah.aJ.length 9 (r.ah.aJ.map ao.cells)),(rd cA r.ah.ai.length 2 (List.zipWith au.cells r.ah.ai az)),(e7 (aU au.gX r.ah.ai az)),(rd bA r.ah.ag.length 4 (r.ah.ag.map bE.cells)),(rd slA r.aI.length 1 (r.aI.map iC)),(rd drA r.bD.length 1 (r.bD.map iC)),(rd heA r.aq.length 1 (List.zipWith cz r.aq ha)),(e7 (aU hP r.aq ha))] (vT [(vA (aa.cells (eJ r h i))),(vI (gN r h i))]):=by
 have AB:=hin.line
 have AJ:=hin.iN
 have AK:=hin.has
 have AG:=hin.iM
 have AE:=hin.draw
 have F:=dH (r:=r)
 refine bH kr Tryz.func8 U U fun w0 Q hQ hN=>?_
 try dsimp only
 refine WS fun _ u=>fV U fun b2=>AL U dh fun b3=>bg 1 U<|RK u<|WS fun _ X=>rP 1 [] (mc 1 U I) ?_
 refine cX (oe r kA kC az cA cC bA bC slA slC drA drC ha heA heC hin) (bp [2,3,4,5,6,7,8,9,10]) U fun y5 c=>?_
 obtain ⟨f,AI,o,m,g,j,zK⟩:=y5
 cases f
 ·obtain ⟨Y,he⟩:=c.2 rfl
  try dsimp only at Y he
  subst Y
  try dsimp only [cond_true,cond_false,List.cons_append,List.nil_append]
  refine bg 5 U<|RK X<|al fun _ AD=>aw<|WS fun _ N=>rP 3 [] I ?_
  refine RK N<|bR U (bw fun M=>?_) (bx fun M=>?_)
  ·exact absurd M he
  refine WS fun _ O=>rS (SX (bj (xs:=[]) (cs:=(aa.cells (aa.mk 0 0))) U U (bh gu U)) U U)<|bg 1 U<|fQ U cu U<|rP 1 [] I ?_
  refine RK O<|ar<|lj hQ [0] (mc 0 U I) U ?_
  first|(have e:=oL (h:=h) (i:=i) he; have B:eJ r h i=dE:=if_neg (fun q=>by rw [e] at q; exact he q); rw [e,B]; rfl)|(have e:=oM (h:=h) (i:=i) he om; have B:eJ r h i=dE:=if_neg (fun q=>by rw [e] at q; cases q); rw [e,B]; rfl)|(have e:=nj he om A hd C; have B:eJ r h i=dE:=if_neg (fun q=>by rw [e] at q; cases q); rw [e,B]; rfl)|(have e:=qv he om A hd C; rw [e.1,e.2,H]; done)
 obtain ⟨he,J⟩:=c.1 rfl
 try dsimp only [cond_true,cond_false,List.cons_append,List.nil_append]
 try dsimp only at J
 have a:=(iJ he).2
 refine bg 5 U<|RK X<|al fun _ P=>aw<|WS fun _ R=>bg 1 U<|rS (SX (b_ (r:= .bool false) U U U nI) U U)<|bg 1 U<|RK R<|aV U<|WS fun _ K=>rP 5 [] (mc 5 U I) ?_
 refine cU (xs:=[.tmp 25]) (cs:=[(vI h)]) U cy jd U U U U (by simp [Value.cells]) U U fun k=>?_
 refine rS (CL (ej.eq (j_ 0 ((r.aq.length:Int)-1) ([h]) (some ⟨k,0,none⟩) 1 sd) cT) (ay (aY 0 U U (by simp [bJ]) U)<|aL) U) ?_
 refine rP 2 [] I ?_
 refine db (t:=29) U (bx fun s=>?_) (bw fun s=>?_)
 ·refine bg 7 U<|RK K<|aP U<|WS fun _ S=>rS (SX (bj (xs:=[]) (cs:=(aa.cells (aa.mk 0 0))) U U (bh gu U)) U U)<|H0 U cu U<|rP 1 [] I ?_
  refine RK S<|ar<|lj hQ [0] (mc 5 U I) U ?_
  first|(have e:=oL (h:=h) (i:=i) he; have B:eJ r h i=dE:=if_neg (fun q=>by rw [e] at q; exact he q); rw [e,B]; rfl)|(have e:=oM (h:=h) (i:=i) he om; have B:eJ r h i=dE:=if_neg (fun q=>by rw [e] at q; cases q); rw [e,B]; rfl)|(have e:=nj he om A hd C; have B:eJ r h i=dE:=if_neg (fun q=>by rw [e] at q; cases q); rw [e,B]; rfl)|(have e:=qv he om A hd C; rw [e.1,e.2,H]; done)
 refine rP 2 [] I ?_
 refine cU (xs:=[.tmp 31]) (cs:=[(vI i)]) U cy jd U U U U (by simp [Value.cells]) U U fun l=>?_
 refine rS (CL (ej.eq (Ao r kA kC az cA cC bA bC slA slC drA drC ha heA heC zK g j (Value.map (some m)) o ([i]) (some ⟨l,0,none⟩) 1 hin sd) cT) (lQ [9,10,11,12,13,14,15,16]<|ay (ak (n:=(cP r).length) 3 U (mM (by rw [F]; exact J)))<|ay (dW 4 U td)<|fH 2 U U<|ay (aY 0 U U (by simp [bJ]) U)<|aL) U) ?_
 refine rP 3 [] I ?_
 refine RK K<|cM U (bx fun p=>?_) (bw fun p=>?_)
 ·refine WS fun _ T=>rS (SX (bj (xs:=[]) (cs:=(aa.cells (aa.mk 0 0))) U U (bh gu U)) U U)<|Ot U cu U<|rP 1 [] I ?_
  refine RK T<|ar<|lj hQ [0] (mc 6 U I) U ?_
  first|(have e:=oL (h:=h) (i:=i) he; have B:eJ r h i=dE:=if_neg (fun q=>by rw [e] at q; exact he q); rw [e,B]; rfl)|(have e:=oM (h:=h) (i:=i) he om; have B:eJ r h i=dE:=if_neg (fun q=>by rw [e] at q; cases q); rw [e,B]; rfl)|(have e:=nj he om A hd C; have B:eJ r h i=dE:=if_neg (fun q=>by rw [e] at q; cases q); rw [e,B]; rfl)|(have e:=qv he om A hd C; rw [e.1,e.2,H]; done)
 refine WS fun _ AM=>rP 3 [] (mc 7 U I) ?_
 obtain ⟨ht,A⟩:=aN r.aq ((h).toNat) om
 obtain ⟨D,E⟩:=aN ha ((h).toNat) om
 have Z:(List.zipWith cz r.aq ha)[(h).toNat]? =some (cz ht D):=dZ A E
 refine rS (IA ((h).toNat) U (aF 15 U) rj dc om om) ?_
 have z:=hin.oF _ _ _ A E
 have AF:=z.oi
 have AA:=(a.oF ht (aX A)).1
 refine rS (gF ((h).toNat) 0 (vS D.1.1 ht.length D.1.2) U cq (aF 15 U) Z U dc U)<|rP 1 [] I ?_
 obtain ⟨d,hd⟩:=aN ht ((i).toNat) om
 obtain ⟨da,v⟩:=aN D.2 ((i).toNat) om
 have y:(List.zipWith aA.cells ht D.2)[(i).toNat]? =some (aA.cells d da):=dZ hd v
 refine rS (IA ((i).toNat) U (show jc _ (rd D.1.1 ht.length 7 (List.zipWith aA.cells ht D.2)).holds from (dy 16 U (cj A E cm))) x4 dc om om)<|rS (nM (((i).toNat)*7) U (show jc _ (rd D.1.1 ht.length 7 (List.zipWith aA.cells ht D.2)).holds from (dy 16 U (cj A E cm))) (Nat.mul_pos om dc) fD U)<|rS (gF ((i).toNat) 0 (vB d.Out) U cq (show jc _ (rd D.1.1 ht.length 7 (List.zipWith aA.cells ht D.2)).holds from (dy 16 U (cj A E cm))) y U dc U)<|rP 1 [] I ?_
 refine RK AM<|cM U (fun C=>?_) (fun C=>?_)
 ·refine WS fun _ V=>rS (SX (bj (xs:=[]) (cs:=(aa.cells (aa.mk 0 0))) U U (bh gu U)) U U)<|Ot U cu U<|rP 1 [] I ?_
  refine RK V<|ar<|lj hQ [0] (mc 6 U I) U ?_
  first|(have e:=oL (h:=h) (i:=i) he; have B:eJ r h i=dE:=if_neg (fun q=>by rw [e] at q; exact he q); rw [e,B]; rfl)|(have e:=oM (h:=h) (i:=i) he om; have B:eJ r h i=dE:=if_neg (fun q=>by rw [e] at q; cases q); rw [e,B]; rfl)|(have e:=nj he om A hd C; have B:eJ r h i=dE:=if_neg (fun q=>by rw [e] at q; cases q); rw [e,B]; rfl)|(have e:=qv he om A hd C; rw [e.1,e.2,H]; done)
 refine bY<|aD<|KK P<|WS fun _ W=>bg 1 U<|rS (SX (bQ U U) U U)<|rP 3 [] (mc 2 U I) ?_
 obtain ⟨tr,AN⟩:=aN (cP r) ((h).toNat) om
 obtain ⟨tra,G⟩:=aN zK ((h).toNat) om
 have b:(List.zipWith DD (cP r) zK)[(h).toNat]? =some (DD tr tra):=dZ AN G
 refine rS (IA ((h).toNat) U (ak (n:=(cP r).length) 3 U (mM (by rw [F]; exact J))) MD dc om om) ?_
 have L:=yn A AN
 have AH:tr.length=r.aI.length:=by rw [L,List.length_map]; exact AA
 refine rS (gF ((h).toNat) 0 (vS tra.1 tr.length tra.2) U cq (ak (n:=(cP r).length) 3 U (mM (by rw [F]; exact J))) b U dc U) ?_
 refine rP 1 [] I ?_
 obtain ⟨x,hx⟩:=aN tr ((i).toNat) om
 have AC:=bP aa.cells hx
 refine rS (IA ((i).toNat) U (show jc _ (rd tra.1 tr.length 2 (tr.map aa.cells)).holds from (fun w hw=>(dW 4 U td) w hw _ (cj AN G (by simp [L9])))) jL dc om om) ?_
 have H:=Ib L hx hd
 refine rS (oB ((i).toNat) 0 (aa.cells x) U cq (show jc _ (rd tra.1 tr.length 2 (tr.map aa.cells)).holds from (fun w hw=>(dW 4 U td) w hw _ (cj AN G (by simp [L9])))) AC U dc U U)<|Ot U cu U<|rP 1 [] I ?_
 refine RK W<|ar<|lj hQ [0] (mc 6 U I) U ?_
 first|(have e:=oL (h:=h) (i:=i) he; have B:eJ r h i=dE:=if_neg (fun q=>by rw [e] at q; exact he q); rw [e,B]; rfl)|(have e:=oM (h:=h) (i:=i) he om; have B:eJ r h i=dE:=if_neg (fun q=>by rw [e] at q; cases q); rw [e,B]; rfl)|(have e:=nj he om A hd C; have B:eJ r h i=dE:=if_neg (fun q=>by rw [e] at q; cases q); rw [e,B]; rfl)|(have e:=qv he om A hd C; rw [e.1,e.2,H]; done)
end
section
open Go.RowKit
theorem o0 (n lo hi:Int):
 ej Tryz.prog 106 [(vI n),(vI lo),(vI hi)] [] (vB (decide (lo≤n∧n≤hi))):=by
 refine bH kr Tryz.func106 U U fun D Q hQ hN=>?_
 try dsimp only
 refine WS fun _ B=>bg 1 U<|RK B<|WS fun _ A=>rP 4 [] I ?_
 refine db (t:=10) U (aT fun C=>?_) (aS fun C=>?_)
 ·refine rP 5 [] I ?_
  refine RK A<|ar<|Q1 hQ U U U ?_
  exact cB (decide_eq_decide.2 om)
 refine rP 5 [] I ?_
 refine RK A<|ar<|Q1 hQ U U U ?_
 exact cB (cr om).symm
theorem Fs (r:cE) (sgA:OA) (sgC:Nat):
 ej Tryz.prog 136 [(vA (eL.cells (mA r sgA sgC)))] [(rd sgA r.aj.length 2 (r.aj.map aO.cells))] (vB (decide (mw r))):=by
 refine bH kr Tryz.func136 U U fun F Q hQ hN=>?_
 try dsimp only
 refine WS fun _ B=>fV U fun E=>bg 1 U<|RK B<|WS fun _ A=>rP 4 [] (mc 0 U I) ?_
 refine cb (t:=6) U (aS fun C=>?_) (aT fun C=>?_)
 ·refine rP 11 [] I ?_
  refine RK A<|ar<|Q1 hQ U U U ?_
  simp only [mw]
  exact cB (cr om).symm
 refine rP 5 [] (mc 0 U I) ?_
 refine cb (t:=11) U (aS fun D=>?_) (aT fun D=>?_)
 ·refine rP 6 [] I ?_
  refine RK A<|ar<|Q1 hQ U U U ?_
  simp only [mw]
  exact cB (cr om).symm
 refine rP 6 [] (mc 0 U I) ?_
 refine RK A<|ar<|Q1 hQ U U U ?_
 simp only [mw]
 exact cB (decide_eq_decide.2 om)
theorem NR (s:aa):
 ej Tryz.prog 137 [(vA (aa.cells s))] [] (vB (decide (iH s))):=by
 refine bH kr Tryz.func137 U U fun F Q hQ hN=>?_
 try dsimp only
 refine WS fun _ B=>fV U fun E=>bg 1 U<|RK B<|WS fun _ A=>rP 4 [] (mc 0 U I) ?_
 refine cb (t:=6) U (aS fun C=>?_) (aT fun C=>?_)
 ·refine rP 12 [] I ?_
  refine RK A<|ar<|Q1 hQ U U U ?_
  simp only [iH]
  exact cB (cr om).symm
 refine rP 7 [] (mc 0 U I) ?_
 refine cb (t:=13) U (aS fun D=>?_) (aT fun D=>?_)
 ·refine rP 5 [] I ?_
  refine RK A<|ar<|Q1 hQ U U U ?_
  simp only [iH]
  exact cB (cr om).symm
 refine rP 5 [] (mc 0 U I) ?_
 refine RK A<|ar<|Q1 hQ U U U ?_
 simp only [iH]
 exact cB (decide_eq_decide.2 om)
theorem ob (la:List Int) (laA:OA) (laC:Nat) (lb:List Int) (lbA:OA) (lbC:Nat) (h1:la.length≤1000000) (h2:lb.length≤1000000):
 ej Tryz.prog 18 [(vS laA la.length laC),(vS lbA lb.length lbC)] [(rd laA la.length 1 (la.map iC)),(rd lbA lb.length 1 (lb.map iC))] (vB (decide (la=lb))):=by
 refine bH kr Tryz.func18 U U fun V Q hQ hN=>?_
 try dsimp only
 refine WS fun _ J=>bg 1 U<|RK J<|al fun _ K=>WS fun _ L=>rP 5 [] I ?_
 refine RK L<|cM U (bx fun hl=>?_) (bw fun hl=>?_)
 ·refine WS fun _ M=>rP 1 [] I ?_
  refine RK M<|ar<|Q1 hQ U U U ?_
  exact cB (cr (fun e=>by subst e; omega)).symm
 refine WK K<|al fun _ N=>WS fun _ O=>rP 1 [] I ?_
 refine RK O<|aw ?_
 have A:(0≤la.length)∧(la.take 0=lb.take 0):=by simp
 refine bO (ι:={z:Nat // (z≤la.length)∧(la.take z=lb.take z)}) [0,1] [0,1] U U (fun z=>[(5,(vI (z.1:Int)))]) (fun z=>[]) (fun _=>rfl) (fun _=>rfl) (fun z=>la.length-z.1) ⟨0,A⟩ (aQ U) (aK [0,1]) ?_
 clear A
 rintro ⟨i,⟨S,B⟩⟩ J7 AB
 try dsimp only
 refine al fun _ P=>WS fun _ R=>rP 4 [] I ?_
 refine RK R<|bR U (aS fun H=>?_) (aT fun H=>?_)
 ·refine bB<|ae<|ae<|ax<|KK N<|WS fun _ F=>rP 1 [] I ?_
  refine RK F<|ar<|Q1 hQ U U U ?_
  exact cB (fM (np om B om)).symm
 refine WK P<|al fun _ C=>aw<|al fun _ D=>dG cD 9 kr<|dP 2 [] I ?_
 obtain ⟨x,hx⟩:=aN la i om
 have T:=bP iC hx
 refine dS (IA i U (aF 0 U) cy dc om om)<|dS (gF i 0 (vI x) U cq (aF 0 U) T U dc U)<|dP 2 [] I ?_
 obtain ⟨y,hy⟩:=aN lb i om
 have AA:=bP iC hy
 refine dS (IA i U (aF 1 U) cy dc om om)<|dS (gF i 0 (vI y) U cq (aF 1 U) AA U dc U)<|dP 1 [] I ?_
 refine cO<|RK D<|cM U (bx fun h=>?_) (bw fun h=>?_)
 ·refine WS fun _ E=>rP 1 [] I ?_
  refine RK E<|ar<|Q1 hQ U U U ?_
  exact cB (cr (nk hx hy h)).symm
 refine bY<|aD<|KK C<|an<|rP 3 [] I ?_
 refine aH ?_
 have G:(vI (((i+1):Nat):Int))=(vI ((i:Int)+1)):=by exact cI om
 refine aR (AB ⟨(i+1),⟨om,ui B hx hy h⟩⟩ _ _ _ U os (dx.cons U<|dx.cons U<|bk U G<|dx.nil _) (aK [0,1]))
end
section
open Go.RowKit
theorem LS (m:gk) (gm g1:Nat):
 Ez Tryz.prog 64 [] [(vP g1)] [(gZ iV gm (bM df m)),(bZ g1 58 [(Value.map (some gm))])] ([]:List Int) (fun ys x ys'=> ∃ n zs,(ys++[n]++zs).Perm (m.map (·.1))∧x=[vI n]∧ys'=ys++[n]) (fun ys=>ys.Perm (m.map (·.1))):=by
 refine tD kr Tryz.func64 U U fun l J Z A0 S Q hY M L hQ hN=>?_
 try dsimp only
 refine WS fun _ O=>rP 1 [] (mr 2 U I) ?_
 refine iG (kV:=iV) (m:=bM df m) 1 U U lI U ⟨U,fun h=>h⟩ (by exact jF 1 U) U fun V=>?_
 try dsimp only
 refine RK O<|aw ?_
 have G:(oo m m ([]:List Int))∧(∀ p∈m,p∈m)∧(J ([]:List Int) A0)∧(Fo A0 S A0):=by exact ⟨vn,fun p hp=>hp,M,L⟩
 refine bO (ι:={z:gk×(List Int)×av // (oo m z.1 z.2.1)∧(∀ p∈z.1,p∈m)∧(J z.2.1 z.2.2)∧(Fo A0 S z.2.2)}) [0,1,5] [2,3] U U (fun z=>[]) (fun z=>[(yd iV V gm (bM df m) (bM df z.1.1) none),z.1.2.2]) (fun _=>rfl) (fun _=>rfl) (fun z=>z.1.1.length) ⟨(m,([]:List Int),A0),G⟩ (dx.nil _) (aK [2,3,0,1]) ?_
 clear G
 rintro ⟨⟨left,ys,A⟩,⟨B,H,C,D⟩⟩ J3 N
 try dsimp only at B H C D
 try dsimp only
 refine WS fun _ AB=>g7 (dB n9).inj (f:=df) 2 U U U U (fun T=>?_) (fun x y hm hn=>?_)
 ·refine rP 1 [] I ?_
  refine RK AB<|al fun _ AA=>aV U<|bB<|ae<|ae<|ax ?_
  refine hN _ _ _ (gY (vs:=[]) trivial fun w hs=>LK 3 U (by rw [T] at B; exact xW B) C D hs)
 try dsimp only
 refine bg 1 U<|RK AB<|al fun _ P=>aP U<|WK P<|aw<|WS fun _ R=>rS (SX (g8 2 U U U) U U)<|bg 2 U<|RK R<|WS fun _ K=>rP 2 [] I ?_
 refine ku (k:=ys) (k':=(ys++[(x)])) 3 (by first|exact hsz|exact Nat.le_refl _) hY C D U U U (by exact ⟨x,_,n8 hn hm B,U,U⟩) U U (fun B9 F E=>?_) (fun B9 F E=>?_)
 rotate_left 1
 ·refine rP 1 [] I ?_
  refine RK K<|aP U<|ar ?_
  refine hQ _ _ _ (gY (vs:=[]) trivial fun w hs=>rv 3 U F E hs)
 refine rP 1 [] I ?_
 refine RK K<|aV U<|bY<|aD<|fj 2 U dA U ?_
 refine aR (N ⟨((cf left x),(ys++[(x)]),B9),⟨n8 hn hm B,dC H,F,E⟩⟩ _ _ _ U (cW hm) (aQ U) (aK [0,1,2,3]))
theorem Fe (gm:Nat):
 lu Tryz.prog 42 [(Value.map (some gm))] [] (fun (x:Nat)=>(Value.func (.func 64) [].toArray [(vP x)].toArray)) (fun (x:Nat)=>True) (fun (x:Nat)=>[(bZ x 58 [(Value.map (some gm))])]):=by
 refine du kr Tryz.func42 U U fun D Q hQ hN=>?_
 try dsimp only
 refine WS fun _ A=>uj U U fun C=>bg 1 U<|RK A<|WS fun _ B=>rS (FU U)<|rP 1 [] I ?_
 refine RK B<|ar<|LX hQ C [0] [] I U U U U ?_
 trivial
end
section
open Go.RowKit
theorem HT (m:gk) (gm g1:Nat) (hlen:m.length≤12):
 lu Tryz.prog 85 [(vS none 0 0),(Value.func (.func 64) [].toArray [(vP g1)].toArray)] [(gZ iV gm (bM df m)),(bZ g1 58 [(Value.map (some gm))])] (fun (x:(List Int)×(OA)×Nat)=>(vS x.2.1 x.1.length x.2.2)) (fun (x:(List Int)×(OA)×Nat)=>x.1.Perm (m.map (·.1))) (fun (x:(List Int)×(OA)×Nat)=>[(own x.2.1 x.2.2 3 1 (x.1.map iC))]):=by
 refine du kr Tryz.func85 U U fun X Q hQ hN=>?_
 try dsimp only
 refine WS fun _ AB=>uj U U fun N=>bg 1 U<|RK AB<|al fun _ J=>WS fun _ K=>rP 1 [] I ?_
 refine RK K<|aw<|kB 1 U (by exact fun _ h=>h)<|kB 3 U (by exact fun _ h=>h)<|fY 3 1 ?_
 refine nz (L0:=[(2,(vP N))]) (F:=[(gZ iV gm (bM df m)).ro,(bZ g1 58 [(Value.map (some gm))]).ro]) (fun k (y:(OA)×Nat)=>(∃ zs,(k++zs).Perm (m.map (·.1)))) (fun k y=>[(own y.1 y.2 3 1 (k.map iC)),(bZ N 29 [(vS y.1 k.length y.2)]),(gZ iV gm (bM df m)).ro]) (fun _ (_:Unit)=>False) (fun _ _=>[]) [0,3,4] [2,1] (none,0) rfl rfl (LS m gm g1) rfl rfl rfl (by exact ⟨_,List.Perm.refl _⟩) (by simp only [List.forall_mem_cons,List.not_mem_nil,false_imp_iff,implies_true,and_true]; exact ⟨⟨_,sm,(dI (bT _))⟩,⟨_,sm,(dI (bT _))⟩⟩) (by rintro k x AA ⟨n,zs,_,rfl,_⟩; rfl) rfl (aQ rfl) ?_ ?_ (fun _ _ _ h=>h.elim) (fun _ _ h=>h.elim)
 rotate_left 1
 ·rintro V k ⟨a,c⟩ E A
  have B:=A
  try dsimp only at B
  try dsimp only
  refine aD<|KK J<|WS fun _ C=>rP 2 [] (mc 4 U I) ?_
  refine RK C<|ar<|hQ _ _ _ (ox 0 U U<|gY (vs:=[(vS a k.length c)]) ⟨U,trivial⟩ fun w hs=>I_ (k,a,c) [3] ?_ ?_ U U U hs)
  ·rfl
  ·first|exact E|exact hys
 rintro k x AA ⟨a,c⟩ l ra rb S Y K5 Qr6 T hx G L D O P
 obtain ⟨n,zs,hn,rfl,rfl⟩:=hx; have M:=hn.length_eq; simp only [List.length_append,List.length_map,List.length_singleton] at M
 have B:=G
 try dsimp only at B
 try dsimp only
 refine an<|rP 1 [] I ?_
 refine aH<|aR (L _ _ ?_)
 refine aw<|an<|rP 2 [] (mc 2 U I) ?_
 refine cU (xs:=[.tmp 9]) (cs:=[(vI n)]) U cy jd U U U U (by simp [Value.cells]) U U fun W=>?_
 refine c_ (es2:=(List.map iC (k++[n]))) (m':=(k++[n]).length) 2 U U U ph U U sm (aY (es:=List.map iC [n]) 0 U U (by simp [bJ]) U) (j2 _) os (by simp only [maxLen]; omega) sm sm U fun R H=>?_
 try dsimp only
 refine UM U Ak U U<|aH<|aD ?_
 exact D (R,H) _ _ (by exact ⟨_,hn⟩) (aK [1,2,3,4])
end
section
open Go.RowKit
theorem EB (m:gk) (gm g1:Nat) (hlen:m.length≤12):
 lu Tryz.prog 63 [(Value.func (.func 64) [].toArray [(vP g1)].toArray)] [(gZ iV gm (bM df m)),(bZ g1 58 [(Value.map (some gm))])] (fun (x:(List Int)×(OA)×Nat)=>(vS x.2.1 x.1.length x.2.2)) (fun (x:(List Int)×(OA)×Nat)=>x.1.Perm (m.map (·.1))) (fun (x:(List Int)×(OA)×Nat)=>[(own x.2.1 x.2.2 3 1 (x.1.map iC))]):=by
 refine du kr Tryz.func63 U U fun AA Q hQ hN=>?_
 try dsimp only
 refine WS fun _ A=>bg 1 U<|RK A<|WS fun _ B=>rP 1 [] I ?_
 refine cX (HT m gm g1 hlen) (bp [0,1]) U fun H C=>?_
 obtain ⟨E,F,G⟩:=H
 try dsimp only
 have D:=C
 refine rP 1 [] I ?_
 refine RK B<|ar<|LX hQ (E,F,G) [0] [] I U U U U ?_
 first|exact hfin|exact D
theorem yR (m:gk) (gm g1:Nat) (hlen:m.length≤12):
 lu Tryz.prog 41 [(Value.func (.func 64) [].toArray [(vP g1)].toArray)] [(gZ iV gm (bM df m)),(bZ g1 58 [(Value.map (some gm))])] (fun (x:(OA)×Nat)=>(vS x.1 m.length x.2)) (fun (x:(OA)×Nat)=>True) (fun (x:(OA)×Nat)=>[(own x.1 x.2 3 1 ((dj (m.map (·.1))).map iC))]):=by
 refine du kr Tryz.func41 U U fun M Q hQ hN=>?_
 try dsimp only
 refine WS fun _ E=>bg 1 U<|RK E<|WS fun _ F=>rP 1 [] I ?_
 refine cX (EB m gm g1 hlen) (bp [0,1]) U fun L H=>?_
 obtain ⟨AA,J,K⟩:=L
 try dsimp only
 have D:=H
 refine bg 1 U<|RK F<|WS fun _ G=>rP 1 [] I ?_
 have B:=D.length_eq
 simp only [List.length_map] at B
 refine iQ 0 U U U U (zY AA J K sd) U ki U (fun ms C=>?_)
 try dsimp only
 refine RK G<|WS fun _ A=>?_
 obtain rfl:=qk (C.1.trans D) C.2
 skip
 refine rP 2 [] I ?_
 refine RK A<|ar ?_
 refine LX hQ (J,K) [0] [] I U U U ?_ ?_
 ·first|rfl|(rw [B]; rfl)
 ·trivial
end
end Go.Proofs.YtdllkkdchkhimaaGreatDoor
