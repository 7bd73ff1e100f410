/-
 The statement raceTied_said, part 6 of 8: V4, V3, V5, V6, V8, Wh2, Rc2, Rc3, Rc4, Rs3, Rs4, Rs6, Rs7, Rs8, RkB, RaB, RtB, Rp0, Rp1, Rp2, Rt1, Rt2, Rr1, DrawB, Rep6, Async, NJoin, Rt3, RkS, RaS, RtS.
 Conditions: none.
-/
import Derived.Test.YtdllkkdchkhimaaGreatDoorTz1
import Derived.Test.YtdllkkdchkhimaaGreatDoorTz2
import Derived.Test.YtdllkkdchkhimaaGreatDoorTz3
import Derived.Test.YtdllkkdchkhimaaGreatDoorTz4
import Derived.Test.YtdllkkdchkhimaaGreatDoorTz5
namespace Go.Proofs.YtdllkkdchkhimaaGreatDoor
set_option maxRecDepth 100000
set_option maxHeartbeats 4000000
set_option linter.unusedVariables false
section
open Go.RowKit
theorem GL (ln:bJ) (ri:eG) (e:List Int) (tms:List TM) (e_A:OA) (e_C:Nat) (tb:List Nat) (t_A:OA) (t_C:Nat) (fs:List FM) (bs:List FM) (fb:List Nat) (f_A:OA) (f_C:Nat) (bb:List Nat) (b_A:OA) (b_C gw:Nat) (b g1 g2:Nat) (mf:FM) (mb:FM) (hb:b<e.length) (hw:Hm (cN ln ri e tms)) (htb:tb.length=tms.length) (hfw:vR (cN ln ri e tms) fs) (hfb:fb.length=fs.length) (hbw:uc (cN ln ri e tms) bs) (hbb:bb.length=bs.length) (hsg:ri.ak.n≤1000) (hm1:fs[b]? =some mf) (hm2:bs[b+1]? =some mb):
 Ds Tryz.prog 203 [] [(vP g1),(vP g2)] [(rd e_A e.length 1 (e.map iC)),(rd t_A tms.length 1 (List.zipWith gD tms tb)),(e9 (aS q8 tms tb)),(rd f_A fs.length 1 (List.zipWith gD fs fb)),(e9 (aS nG fs fb)),(rd b_A bs.length 1 (List.zipWith gD bs bb)),(e9 (aS nG bs bb)),(bY gw 270 (cb.cells (cb.mk ln ri (aN.mk e_A e.length e_C) (aN.mk t_A tms.length t_C) (aN.mk f_A fs.length f_C) (aN.mk b_A bs.length b_C)))),(bY g1 259 [(vP gw)]),(bY g2 3 [(vI (b:Int))])] ([]:List (Int×aa)) (fun ys x ys'=> ∃ q,q∈pI (cN ln ri e tms) b mf mb∧x=On q∧ys'=ys++[q]) (fun ys=> ∀ q∈pI (cN ln ri e tms) b mf mb,q∈ys):=by
 have A7:e.length≤6:=hw.n
 have A8:tms.length=e.length:=hw.times
 have Az:fs.length=e.length+1:=hfw.len
 have Ay:bs.length=e.length+1:=hbw.len
 refine sK kr Tryz.func203 U U fun l J Z A0 w0 Q hY Ae Ad hQ hN=>?_
 try dsimp only
 refine WS fun _ Af=>uh U U fun b2=>RK Af<|WS fun _ Ag=>rP 2 [0,1] (mr 10 U (mr 11 U I)) ?_
 refine cX (ux gw b) (aK) U fun y4 A9=>?_
 obtain ⟨AX,AY⟩:=y4
 try dsimp only
 refine RK Ag<|ay<|kp 4 U (by exact fun _ h=>h)<|kp 6 U (by exact fun _ h=>h)<|kp 8 U (by exact fun _ h=>h)<|kp 14 U (by exact fun _ h=>h) ?_
 refine nx (L0:=[(0,(Value.func (.yield l) #[] #[])),(1,(vP g1)),(2,(vP g2)),(3,(vP b2))]) (F:=[(rd e_A e.length 1 (e.map iC)).ro,(rd t_A tms.length 1 (List.zipWith gD tms tb)).ro,(e9 (aS q8 tms tb)).ro,(bY gw 270 (cb.cells (cb.mk ln ri (aN.mk e_A e.length e_C) (aN.mk t_A tms.length t_C) (aN.mk f_A fs.length f_C) (aN.mk b_A bs.length b_C)))).ro,(bY AX 259 [(vP gw)]),(bY AY 3 [(vI (b:Int))])]) (fun k (y:(List (Int×aa))×av)=>(lp (cN ln ri e tms) b mf mb k y.1)∧(J y.1 y.2)∧(Fo A0 w0 y.2)) (fun k y=>[(bY b2 273 [(Value.func (.yield l) #[] #[])]),y.2,(rd e_A e.length 1 (e.map iC)).ro,(rd t_A tms.length 1 (List.zipWith gD tms tb)).ro,(e9 (aS q8 tms tb)).ro,(rd f_A fs.length 1 (List.zipWith gD fs fb)).ro,(e9 (aS nG fs fb)).ro,(rd b_A bs.length 1 (List.zipWith gD bs bb)).ro,(e9 (aS nG bs bb)).ro,(bY gw 270 (cb.cells (cb.mk ln ri (aN.mk e_A e.length e_C) (aN.mk t_A tms.length t_C) (aN.mk f_A fs.length f_C) (aN.mk b_A bs.length b_C)))).ro,(bY g1 259 [(vP gw)]).ro,(bY g2 3 [(vI (b:Int))]).ro]) (fun c (z:av)=>(c= .ret∧(Z z)∧(Fo A0 w0 z))) (fun _ z=>[(bY b2 273 [(Value.func (.yield l) #[] #[])]),z,(rd e_A e.length 1 (e.map iC)).ro,(rd t_A tms.length 1 (List.zipWith gD tms tb)).ro,(e9 (aS q8 tms tb)).ro,(rd f_A fs.length 1 (List.zipWith gD fs fb)).ro,(e9 (aS nG fs fb)).ro,(rd b_A bs.length 1 (List.zipWith gD bs bb)).ro,(e9 (aS nG bs bb)).ro,(bY gw 270 (cb.cells (cb.mk ln ri (aN.mk e_A e.length e_C) (aN.mk t_A tms.length t_C) (aN.mk f_A fs.length f_C) (aN.mk b_A bs.length b_C)))).ro,(bY g1 259 [(vP gw)]).ro,(bY g2 3 [(vI (b:Int))]).ro]) [6,7,8,9,10,11,12,13,14,15,16,17] [3,2,1,0,4,5] (([]:List (Int×aa)),A0) rfl rfl (rN ln ri e tms e_A e_C tb t_A t_C f_A fs.length f_C b_A bs.length b_C gw b AX AY om om) rfl rfl rfl (by exact ⟨lp.nil,Ae,Ad⟩) (by simp only [List.forall_mem_cons,List.not_mem_nil,false_imp_iff,implies_true,and_true]; exact ⟨⟨_,aU (i:=0) rfl,(dD (bQ _))⟩,⟨_,aU (i:=1) rfl,(dD (bQ _))⟩,⟨_,aU (i:=2) rfl,(dD (bQ _))⟩,⟨_,aU (i:=3) rfl,(dD (bQ _))⟩,⟨_,aU (i:=4) rfl,(bQ _)⟩,⟨_,aU (i:=5) rfl,(bQ _)⟩⟩) (by rintro k x k2 ⟨o,_,rfl,_⟩; rfl) rfl (aV rfl) ?_ ?_ ?_ ?_
 rotate_left 1
 ·rintro BA k ⟨ys,A⟩ AS AC
  obtain ⟨X,Y,a⟩:=AC
  try dsimp only at X Y a
  try dsimp only
  refine aH ?_
  refine hN _ _ _ (oi 0 U U<|gV (vs:=[]) trivial fun w hs=>Kn 8 U (by exact lp.fin X AS) Y a hs)
 ·rintro BB id A AV
  simp at AV
 ·rintro BC A AW
  obtain ⟨hc,Ak,Al⟩:=AW
  try dsimp only
  refine hQ _ _ _ (oi 0 U U<|gV (vs:=[]) trivial fun w hs=>rn 8 U Ak Al hs)
 rintro k x k2 ⟨ys,A⟩ lr ra rb S w1 K8 Qr9 Am hx AB Ah AP At AZ
 obtain ⟨o,ho,rfl,rfl⟩:=hx
 obtain ⟨X,Y,a⟩:=AB
 try dsimp only at X Y a
 try dsimp only
 refine WS fun _ AG=>rP 1 [] I ?_
 refine RK AG<|ao<|AL U dg fun Au=>fQ U cu U<|aG<|iZ (fun _ _ h=>h) (aL [1,0,2,3,4,5,6,7,8,9,10,11,12,13])<|aW (Ah _ _ ?_)
 refine ay<|al fun _ AH=>dq cy 7 kr<|mu 1 [] (mr 12 U I) U<|dS (SX (bO U U) U U)<|dP 3 [0,1] (mr 11 U (mr 13 U I)) ?_
 obtain ⟨ga,s⟩:=aM fb b om
 have AT:(List.zipWith gD fs fb)[b]? =some (gD mf ga):=dT hm1 s
 refine dS (IA b U (aD 7 U) nS dc om om)<|dS (fY b 0 (Value.map (some ga)) U cd (aD 7 U) AT U dc U)<|cL<|jL (kV:=ei) (m:=bT iV mf) 8 U U oO U ⟨⟨(ik ei ga (bT iV mf)),(b_ hm1 s (by simp [nG])),U⟩,fun h=>h⟩ (show iU _ (ik ei ga (bT iV mf)).holds from dy 8 U (b_ hm1 s (by simp [nG]))) U fun Ap=>?_
 try dsimp only
 refine RK AH<|ay ?_
 have C:(∀ p∈mf,p∈mf)∧(nj (cN ln ri e tms) b mf mb o mf ys)∧(lp (cN ln ri e tms) b mf mb k ys)∧(J ys A)∧(Fo A0 w0 A):=by exact ⟨fun p hp=>hp,nj.start,X,Y,a⟩
 refine bS (ι:={z:FM×(List (Int×aa))×av // (∀ p∈z.1,p∈mf)∧(nj (cN ln ri e tms) b mf mb o z.1 z.2.1)∧(lp (cN ln ri e tms) b mf mb k z.2.1)∧(J z.2.1 z.2.2)∧(Fo A0 w0 z.2.2)}) [0,1,2,3,4,5,23] [1,2,3,5,6,7,8,9,10,11,12,13,14] U U (fun z=>[]) (fun z=>[(yx ei Ap ga (bT iV mf) (bT iV z.1.1) none),z.1.2.2]) (fun _=>rfl) (fun _=>rfl) (fun z=>z.1.1.length) ⟨(mf,ys,A),C⟩ (dB.nil _) (aL [1,2,3,5,6,7,8,9,10,11,12,13,14,0,4]) ?_
 clear C
 rintro ⟨⟨left,ys,A⟩,⟨K,M,N,O,P⟩⟩ J15 AF
 try dsimp only at K M N O P
 try dsimp only
 refine WS fun _ j=>iW ou.inj (f:=iV) 13 U U U U (fun Ab=>?_) (fun t v hm hn=>?_)
 ·refine rP 1 [] I ?_
  refine RK j<|al fun _ Ar=>aX U<|bE<|ag<|ag<|aA<|aH ?_
  exact AP (ys,A) _ _ (by exact ⟨lp.next N M Ab,O,P⟩) (aL [0,2,14,3,4,5,6,7,8,9,10,11,12])
 try dsimp only
 refine bo 1 U<|RK j<|al fun _ AI=>aQ U<|WK AI<|ay<|WS fun _ AJ=>rS (SX (ja 13 U U U) U U)<|bo 2 U<|AL U sI fun Av=>fQ U rj U<|bo 1 U<|RK AJ<|al fun _ AK=>dq cy 8 kr<|mu 1 [] (mr 12 U I) U<|dS (SX (bO U U) U U)<|dP 4 [0,1] (mr 11 U (mr 13 U I)) ?_
 obtain ⟨gb,AA⟩:=aM bb (b+1) om
 have AU:(List.zipWith gD bs bb)[(b+1)]? =some (gD mb gb):=dT hm2 AA
 refine dS (IA (b+1) U (aD 9 U) nS dc om om)<|dS (fY (b+1) 0 (Value.map (some gb)) U cd (aD 9 U) AU U dc U)<|cL<|jL (kV:=ei) (m:=bT iV mb) 10 U U oO U ⟨⟨(ik ei gb (bT iV mb)),(b_ hm2 AA (by simp [nG])),U⟩,fun h=>h⟩ (show iU _ (ik ei gb (bT iV mb)).holds from dy 10 U (b_ hm2 AA (by simp [nG]))) U fun Aq=>?_
 try dsimp only
 refine RK AK<|ay ?_
 have C:(∀ p∈mb,p∈mb)∧(mX (cN ln ri e tms) b mb o (t,v) mb ys)∧(nj (cN ln ri e tms) b mf mb o left ys)∧(lp (cN ln ri e tms) b mf mb k ys)∧(J ys A)∧(Fo A0 w0 A):=by exact ⟨fun p hp=>hp,mX.start,M,N,O,P⟩
 refine bS (ι:={z:FM×(List (Int×aa))×av // (∀ p∈z.1,p∈mb)∧(mX (cN ln ri e tms) b mb o (t,v) z.1 z.2.1)∧(nj (cN ln ri e tms) b mf mb o left z.2.1)∧(lp (cN ln ri e tms) b mf mb k z.2.1)∧(J z.2.1 z.2.2)∧(Fo A0 w0 z.2.2)}) [0,1,2,3,4,5,6,7,23,37] [1,2,3,4,5,6,7,8,9,10,11,12,13,14,15] U U (fun z=>[]) (fun z=>[(yx ei Aq gb (bT iV mb) (bT iV z.1.1) none),z.1.2.2]) (fun _=>rfl) (fun _=>rfl) (fun z=>z.1.1.length) ⟨(mb,ys,A),C⟩ (dB.nil _) (aL [1,2,3,4,5,6,7,8,9,10,11,12,13,14,15,0,16]) ?_
 clear C
 rintro ⟨⟨l2,T,A2⟩,⟨B,D,E,G,H,Aa⟩⟩ J23 V
 try dsimp only at B D E G H Aa
 try dsimp only
 refine WS fun _ r=>iW ou.inj (f:=iV) 15 U U U U (fun Ac=>?_) (fun u z L AD=>?_)
 ·refine rP 1 [] I ?_
  refine RK r<|al fun _ As=>aX U<|bE<|ag<|ag<|aA<|aH<|gQ 14 U fz U ?_
  refine aW (AF ⟨((cD left t),T,A2),⟨mj K,nj.next hn hm E D Ac,G,H,Aa⟩⟩ _ _ _ U (eW hm) (aV U) (aL [1,2,3,4,5,6,7,8,9,10,11,12,13,14,16]))
 try dsimp only
 refine bo 1 U<|RK r<|al fun _ AM=>aQ U<|WK AM<|ay<|WS fun _ AN=>rS (SX (ja 15 U U U) U U)<|bo 2 U<|AL U sI fun Aw=>fQ U rj U<|rP 1 [] I ?_
 refine RK AN<|al fun _ AO=>dL cy [17,18] [] [] [0,1,2,3,4,5,6,7,8,9,10,11,12,13,14,15,16,17] [] U U U U U<|eS U (MV U)<|eS U (Tc 13 U cd U)<|eS U (SX (bO U U) U U)<|eS U (FA 10 U fB U)<|eS U (HN (vS e_A e.length e_C) 12 U cd U U)<|eS U (Tc 14 U cd U) ?_
 obtain ⟨y,hy⟩:=aM e b om
 have An:=bL iC hy
 refine eS U (IA b U (aD 5 U) cx dc om om)<|eS U (fY b 0 (vI y) U cd (aD 5 U) An U dc U) ?_
 have A1:=hw.least y (aU hy)
 have Aj:=JG hw _ _ (hfw.mem hm1 (K _ hm))
 have Ai:=JZ hw (hbw.mem hm2 (B _ L))
 have A3:=ub o.1
 have A4:=hw.opt ho
 dsimp only at Aj Ai
 refine eS U (BI U (g8 ⟨om,om⟩))<|eS U (FA 0 U fB U)<|eS U (L1 (vI o.2.Lo) 3 U cd U U)<|eS U (MX U)<|eS U (MV U)<|eS U (FA 1 U fB U)<|eS U (L1 (vI o.2.Hi) 3 U cd U U)<|eS U (MN U)<|eS U (SX (bj (xs:=[(0,.tmp 54),(1,.tmp 58)]) (cs:=(aa.cells (aa.mk (max (v+y) o.2.Lo) (min z o.2.Hi)))) U U (bk gj U)) U U)<|e7 U<|cf U fun T30 AQ=>AL U dg fun Ax=>aG (AQ _ _ (aL [1,2,3,4,5,6,7,8,9,10,11,12,13,14,15,16,17,18]) ?_)
 refine cf U fun T32 AR=>fQ U cu U<|aG (AR _ _ (aL [1,2,3,4,5,6,7,8,9,10,11,12,13,14,15,16,17,18]) ?_)
 refine fK U<|KK AO<|al fun _ R=>dq cy 19 kr<|dP 6 [] (mc 0 U I) ?_
 refine iw (t:=65) U (aR fun d=>?_) (aP fun d=>?_)
 ·refine km 3 U<|km 10 U<|cL<|rP 3 [] I ?_
  refine RK R<|aX U<|cp<|aH<|gQ 17 U fz U ?_
  refine aW (V ⟨((cD l2 u),T,A2),⟨mj B,mX.skip AD L D (by exact GQ hy d),E,G,H,Aa⟩⟩ _ _ _ U (eW L) (aV U) (aL [2,3,4,5,6,7,8,9,10,11,12,13,14,15,16,17,18]))
 refine dP 3 [0,1,2] (mr 14 U (mc 2 U (mc 1 U I))) ?_
 have A6:(0≤(dk t u).right∧(dk t u).right≤1000)∧0≤(dk t u).eP∧(dk t u).eP≤1000:=by simp only [dk]; omega
 have A5:(0≤(dk (dk t u) (fh o.1)).right∧(dk (dk t u) (fh o.1)).right≤1000)∧0≤(dk (dk t u) (fh o.1)).eP∧(dk (dk t u) (fh o.1)).eP≤1000:=by simp only [dk]; omega
 refine dS (CL (vy t u om om) (aK) U)<|km 1 U<|dS (CL (IX o.1) (aK) U)<|dS (CL (vy (dk t u) (fh o.1) asm om) (aK) U)<|dS (CL (Oh ln ri e tms e_A e_C tb t_A t_C fs bs fb f_A f_C bb b_A b_C gw (dk (dk t u) (fh o.1)) asm hsg) (bp [6,7,8,9,10,11,12,13]) U)<|dP 2 [] I ?_
 refine iw (t:=75) U (fun g=>?_) (fun g=>?_)
 ·refine km 3 U<|cL<|rP 3 [] I ?_
  refine RK R<|aX U<|cp<|aH<|gQ 17 U fz U ?_
  refine aW (V ⟨((cD l2 u),T,A2),⟨mj B,mX.skip AD L D (by exact GI g),E,G,H,Aa⟩⟩ _ _ _ U (eW L) (aV U) (aL [2,3,4,5,6,7,8,9,10,11,12,13,14,15,16,17,18]))
 refine dP 3 [0,1] (mc 5 U (mc 0 U I)) ?_
 refine cL<|kf (k:=T) (k':=(T++[(o.1,(aa.mk (max (v+y) o.2.Lo) (min z o.2.Hi)))])) 18 (by first|exact Am|exact Nat.le_refl _) hY H Aa U U U (by exact ⟨(o.1,_),g6.2 ⟨o,ho,(t,v),K _ hm,(u,z),B _ L,(Ce hy d g)⟩,U,U⟩) U U (fun B34 W AE=>?_) (fun B34 W AE=>?_)
 rotate_left 1
 ·refine rP 2 [] I ?_
  refine RK R<|aQ U<|aq ?_
  exact AZ B34 _ _ (by exact ⟨U,W,AE⟩) (aL [3,5,18,6,7,8,9,10,11,12,13,14,15])
 refine rP 2 [] I ?_
 refine RK R<|aX U<|cp<|aH<|gQ 17 U fz U ?_
 refine aW (V ⟨((cD l2 u),(T++[(o.1,(aa.mk (max (v+y) o.2.Lo) (min z o.2.Hi)))]),B34),⟨mj B,mX.T3 AD L D (Ce hy d g),E.app,G.app,W,AE⟩⟩ _ _ _ U (eW L) (aV U) (aL [2,3,4,5,6,7,8,9,10,11,12,13,14,15,16,17,18]))
end
section
open Go.RowKit
theorem Gj (ln:bJ) (ri:eG) (e:List Int) (tms:List TM) (e_A:OA) (e_C:Nat) (tb:List Nat) (t_A:OA) (t_C:Nat) (fs:List FM) (bs:List FM) (fb:List Nat) (f_A:OA) (f_C:Nat) (bb:List Nat) (b_A:OA) (b_C gw:Nat) (hw:Hm (cN ln ri e tms)) (hsg:ri.ak.n≤1000) (hn:ln.ae.n=e.length) (hfw:vR (cN ln ri e tms) fs) (hfb:fb.length=fs.length):
 lE Tryz.prog 202 [(vP gw)] [(rd e_A e.length 1 (e.map iC)),(rd t_A tms.length 1 (List.zipWith gD tms tb)),(e9 (aS q8 tms tb)),(rd f_A fs.length 1 (List.zipWith gD fs fb)),(e9 (aS nG fs fb)),(rd b_A bs.length 1 (List.zipWith gD bs bb)),(e9 (aS nG bs bb)),(bY gw 270 (cb.cells (cb.mk ln ri (aN.mk e_A e.length e_C) (aN.mk t_A tms.length t_C) (aN.mk f_A fs.length f_C) (aN.mk b_A bs.length b_C))))] (fun (x:(OA)×Nat)=>(vS x.1 ((ju (cN ln ri e tms)).length) x.2)) (fun (x:(OA)×Nat)=>True) (fun (x:(OA)×Nat)=>[(own x.1 x.2 3 1 ((ju (cN ln ri e tms)).map iC))]):=by
 have y:e.length≤6:=hw.n
 have u:fs.length=e.length+1:=hfw.len
 refine dv kr Tryz.func202 U U fun w0 Q hQ hN=>?_
 try dsimp only
 refine WS fun _ X=>bo 1 U<|RK X<|WS fun _ Y=>bo 1 U<|RK Y<|al fun _ Z=>WS fun _ b=>bo 1 U<|rS (SX (bO U U) U U)<|rP 6 [] (mr 7 U I) ?_
 refine RK b<|ay<|fT 3 1 ?_
 have A:(0≤e.length+1):=by exact Nat.zero_le _
 refine bS (ι:={z:Nat×(OA)×Nat // (z.1≤e.length+1)}) [0,12] [1,2,3,4,5,6,7,8] U U (fun z=>[(3,(vS z.1.2.1 ((j8 (cN ln ri e tms) z.1.1).length) z.1.2.2)),(13,(vI (z.1.1:Int)))]) (fun z=>[(own z.1.2.1 z.1.2.2 3 1 ((j8 (cN ln ri e tms) z.1.1).map iC))]) (fun _=>rfl) (fun _=>rfl) (fun z=>e.length+1-z.1.1) ⟨(0,none,0),A⟩ (aV U) (aL [1,2,3,4,5,6,7,8,0]) ?_
 clear A
 rintro ⟨⟨n,a,c⟩,G⟩ J5 AB
 try dsimp only at G
 try dsimp only
 refine WS fun _ d=>rP 1 [] I ?_
 refine RK d<|al fun _ g=>bV U (aR fun s=>?_) (aP fun s=>?_)
 ·refine bE<|ag<|ag<|aA<|KK Z<|WS fun _ P=>?_
  rw [show j8 (cN ln ri e tms) n=ju (cN ln ri e tms) by (obtain rfl:n=e.length+1:=by omega); rfl]
  refine rP 2 [] I ?_
  refine RK P<|aq<|LX hQ (a,c) [8] [] I U U U U ?_
  trivial
 refine WK g<|al fun _ R=>ay<|WS fun _ J=>bo 2 U<|RK J<|WS fun _ K=>bo 1 U<|rS (SX (bO U U) U U)<|rP 3 [] (mr 7 U I) ?_
 obtain ⟨m,B⟩:=aM fs n om
 obtain ⟨ma,hm0a⟩:=aM fb n om
 have hm0m:(List.zipWith gD fs fb)[n]? =some (gD m ma):=dT B hm0a
 refine rS (IA n U (aD 3 U) nS dc om om)<|rS (fY n 0 (Value.map (some ma)) U cd (aD 3 U) hm0m U dc U)<|jL (kV:=ei) (m:=bT iV m) 4 U U oO U ⟨⟨(ik ei ma (bT iV m)),(b_ B hm0a (by simp [nG])),U⟩,fun h=>h⟩ (show iU _ (ik ei ma (bT iV m)).holds from dy 4 U (b_ B hm0a (by simp [nG]))) U fun l=>?_
 try dsimp only
 refine RK K<|ay ?_
 have A:(∀ p∈m,p∈m)∧(∀ p∈m,p∈m∨kh (cN ln ri e tms) p.1=false):=by exact ⟨fun p hp=>hp,fun p hp=> .inl hp⟩
 refine bS (ι:={z:FM // (∀ p∈z,p∈m)∧(∀ p∈m,p∈z∨kh (cN ln ri e tms) p.1=false)}) [0,3,4,12,13,23] [1,2,3,4,5,6,7,8,9] U U (fun z=>[]) (fun z=>[(yx ei l ma (bT iV m) (bT iV z.1) none)]) (fun _=>rfl) (fun _=>rfl) (fun z=>z.1.length) ⟨m,A⟩ (dB.nil _) (aL [1,2,3,4,5,6,7,8,9,0]) ?_
 clear A
 rintro ⟨left,⟨C,D⟩⟩ J13 H
 try dsimp only
 refine WS fun _ F=>iW ou.inj (f:=iV) 9 U U U U (fun W=>?_) (fun t v hm i=>?_)
 ·refine bo 1 U<|RK F<|al fun _ o=>aX U<|bE<|ag<|ag<|aA<|aH<|KK R<|ao<|rP 2 [] I ?_
  refine aG ?_
  rw [← Hp (w:=(cN ln ri e tms)) (k:=n) ((Cm (hfw.min _ _ B) (hfw.keys _ _ B)).symm.trans (Lu D W))]
  have S:(vI (((n+1):Nat):Int))=(vI ((n:Int)+1)):=by exact cI om
  refine aW (AB ⟨((n+1),a,c),(by first|omega|(simp only []; omega))⟩ _ _ _ U os (cW 3<|bx U S<|dB.nil _) (aL [0,1,2,3,4,5,6,7,8]))
 try dsimp only
 refine bo 1 U<|RK F<|al fun _ L=>aQ U<|WK L<|ay<|WS fun _ M=>rS (SX (ja 9 U U U) U U)<|bo 1 U<|AL U sI fun q=>fQ U rj U<|RK M<|WS fun _ N=>rP 2 [] (mc 0 U I) ?_
 have j:=JG hw _ _ (hfw.mem B (C _ hm))
 dsimp only at j
 refine rS (CL (Oh ln ri e tms e_A e_C tb t_A t_C fs bs fb f_A f_C bb b_A b_C gw t om hsg) (bp [1,2,3,4,5,6,7,8]) U)<|RK N<|bV U (fun E=>?_) (fun E=>?_)
 ·refine cp<|aH<|gQ 10 U fz U ?_
  refine aW (H ⟨(cD left t),⟨mj C,H5 i hm D (by first|exact E|simpa using E)⟩⟩ _ _ _ U (eW hm) (aV U) (aL [1,2,3,4,5,6,7,8,9,10]))
 refine WS fun _ O=>rP 2 [] I ?_
 refine cZ (xs:=[.tmp 32]) (cs:=[(vI (n:Int))]) U cx i_ U U U U (by simp [Value.cells]) U U fun r=>?_
 have hy:jh (cN ln ri e tms) (fwd (cN ln ri e tms) n)=true:=(Cm (hfw.min _ _ B) (hfw.keys _ _ B)).symm.trans (MH (C _ hm) E)
 refine df (es2:=(List.map iC (j8 (cN ln ri e tms) (n+1)))) (m':=(j8 (cN ln ri e tms) (n+1)).length) 10 U U U pO U U sm (a_ (es:=List.map iC [(n:Int)]) 0 U U (by simp [bK]) U) (j9 _) (by have:=xH (w:=(cN ln ri e tms)) (k:=n); first|omega|(simp; omega)) (by have:=xH (w:=(cN ln ri e tms)) (k:=n); simp only [maxLen]; omega) (by rw [EA hy]; simp) sm U fun AA V=>?_
 try dsimp only
 refine bo 1 U<|RK O<|bE<|iv U<|ag<|aA<|aH<|KK R<|ao<|rP 2 [] I ?_
 refine aG ?_
 have T:(vI (((n+1):Nat):Int))=(vI ((n:Int)+1)):=by exact cI om
 refine aW (AB ⟨((n+1),AA,V),(by first|omega|(simp only []; omega))⟩ _ _ _ U os (cW 3<|bx U T<|dB.nil _) (aL [2,3,4,5,6,7,8,9,10]))
end
section
open Go.RowKit
theorem JV (ln:bJ) (ri:eG) (e:List Int) (tms:List TM) (e_A:OA) (e_C:Nat) (tb:List Nat) (t_A:OA) (t_C gw:Nat) (hw:Hm (cN ln ri e tms)) (hn:ln.ae.n=e.length) (htb:tb.length=tms.length):
 CT Tryz.prog 201 [(vP gw)] [(rd e_A e.length 1 (e.map iC)),(rd t_A tms.length 1 (List.zipWith gD tms tb)),(e9 (aS q8 tms tb))] (bY gw 270 (cb.cells (cb.mk ln ri (aN.mk e_A e.length e_C) (aN.mk t_A tms.length t_C) (aN.mk none 0 0) (aN.mk none 0 0)))) (fun (x:(List FM)×(List Nat)×(OA)×Nat×(List FM)×(List Nat)×(OA)×Nat)=>(vT [])) (fun (x:(List FM)×(List Nat)×(OA)×Nat×(List FM)×(List Nat)×(OA)×Nat)=>vR (cN ln ri e tms) x.1∧uc (cN ln ri e tms) x.2.2.2.2.1∧x.2.1.length=x.1.length∧x.2.2.2.2.2.1.length=x.2.2.2.2.1.length) (fun (x:(List FM)×(List Nat)×(OA)×Nat×(List FM)×(List Nat)×(OA)×Nat)=>(bq [(bY gw 270 (cb.cells (cb.mk ln ri (aN.mk e_A e.length e_C) (aN.mk t_A tms.length t_C) (aN.mk x.2.2.1 x.1.length x.2.2.2.1) (aN.mk x.2.2.2.2.2.2.1 x.2.2.2.2.1.length x.2.2.2.2.2.2.2)))),(own x.2.2.1 x.2.2.2.1 274 1 (List.zipWith gD x.1 x.2.1)),(bq (aS nG x.1 x.2.1)),(own x.2.2.2.2.2.2.1 x.2.2.2.2.2.2.2 274 1 (List.zipWith gD x.2.2.2.2.1 x.2.2.2.2.2.1)),(bq (aS nG x.2.2.2.2.1 x.2.2.2.2.2.1))])):=by
 have Cf:e.length≤6:=hw.n
 have Cg:tms.length=e.length:=hw.times
 refine mx kr Tryz.func201 U U fun w0 Q hQ hN=>?_
 try dsimp only
 refine WS fun _ Ad=>uh U U fun W=>RK Ad<|WS fun _ Ag=>fD 1 [] (mc 0 U I) U<|rS (SX (bO U U) U U)<|rP 5 [] (mc 1 U I) ?_
 refine RK Ag ?_
 refine mI (ι:={z:(OA)×(OA) // True}) [0,1,2] [0,2,3,4] U U (fun z=>[]) (fun z=>[(own z.1.1 (ln.ae.n+1) 274 1 (List.map oC (List.replicate (ln.ae.n+1) (none:Option Nat)))),(own z.1.2 (ln.ae.n+1) 274 1 (List.map oC (List.replicate (ln.ae.n+1) (none:Option Nat)))),(bY gw 270 (cb.cells (cb.mk ln ri (aN.mk e_A e.length e_C) (aN.mk t_A tms.length t_C) (aN.mk z.1.1 (ln.ae.n+1) (ln.ae.n+1)) (aN.mk z.1.2 (ln.ae.n+1) (ln.ae.n+1)))))]) (fun _=>rfl) (fun _=>rfl) ?_ fun K4 Ah=>?_
 ·rintro ⟨⟨fA,bA⟩,_⟩
  try dsimp only
  refine B8 6 U U fun wz Sz hz=>?_
  have Cc:(List.replicate (ln.ae.n+1) (none:Option Nat)).length=(ln.ae.n+1):=List.length_replicate
  try dsimp only
  refine mI (ι:={z:Nat // True}) [0,1,2] [0,1,2,3,4,6] U U (fun z=>[]) (fun z=>[(bq (aS nG [[((aC.mk 0 0),ri.Start)]] [z.1])),(own fA (ln.ae.n+1) 274 1 (List.map oC (eu [z.1] (ln.ae.n+1))))]) (fun _=>rfl) (fun _=>rfl) ?_ fun K5 B6=>?_
  ·rintro ⟨ga,_⟩
   try dsimp only
   refine al fun _ Ai=>WS fun _ Aj=>rP 2 [] I ?_
   refine RK Aj<|ay<|oa ?_
   have C:(0≤ln.ae.n)∧(([[((aC.mk 0 0),ri.Start)]]).length=0+1)∧(([ga]).length=0+1)∧(pD (cN ln ri e tms) ([[((aC.mk 0 0),ri.Start)]])):=by exact ⟨Nat.zero_le _,rfl,rfl,pD.first⟩
   refine vq (ι:={z:Nat×(List FM)×(List Nat)×(List Nat) // (z.1≤ln.ae.n)∧(z.2.1.length=z.1+1)∧(z.2.2.1.length=z.1+1)∧(pD (cN ln ri e tms) z.2.1)}) (fun z=>z.1.2.2.2.map lk) (fun z=>[(0,(vP gw)),(1,(vP W)),(2,(vI (ln.ae.n:Int))),(52,(vI (ln.ae.n:Int))),(53,(vI (z.1.1:Int)))]) (fun z=>[(bq (z.1.2.2.2.map lP)),(bY gw 270 (cb.cells (cb.mk ln ri (aN.mk e_A e.length e_C) (aN.mk t_A tms.length t_C) (aN.mk fA (ln.ae.n+1) (ln.ae.n+1)) (aN.mk bA (ln.ae.n+1) (ln.ae.n+1))))).ro,(bY W 259 [(vP gw)]),(rd e_A e.length 1 (e.map iC)).ro,(rd t_A tms.length 1 (List.zipWith gD tms tb)).ro,(e9 (aS q8 tms tb)).ro,(own bA (ln.ae.n+1) 274 1 (List.map oC (List.replicate (ln.ae.n+1) (none:Option Nat)))),(bq (aS nG z.1.2.1 z.1.2.2.1)),(own fA (ln.ae.n+1) 274 1 (List.map oC (eu z.1.2.2.1 (ln.ae.n+1))))]) (fun z=>ln.ae.n-z.1.1) ⟨(0,[[((aC.mk 0 0),ri.Start)]],[ga],([]:List Nat)),C⟩ U (aV U) (aL [0,1,2,3,4,5,6,7,8]) ?_
   clear C
   rintro ⟨⟨b,fs,fb,B0⟩,⟨Ax,AK,Ay,M⟩⟩ J8 B5
   try dsimp only at Ax AK Ay M
   try dsimp only
   have Cd:(eu fb (ln.ae.n+1)).length=(ln.ae.n+1):=qF om
   refine WS fun _ Ak=>rP 1 [] I ?_
   refine RK Ak<|al fun _ AB=>cO U (aP fun B3=>?_) (aR fun B3=>?_)
   ·refine WK AB<|al fun _ BB=>ay<|WS fun _ BC=>rP 1 [] I ?_
    refine AL U i_ fun s=>Gq U AE U U<|RK BC<|al fun _ BD=>dL cy [6,8] [6] [0] [0,1,2,3,4,5,6,7,8] [0,1,2,3,4,5,6,7,8,9] U U U U U<|eS U (Eg 3 U cd U)<|eS U (SX (bO U U) U U)<|eS U (FA 12 U fB U)<|eS U (HN (vS fA (ln.ae.n+1) (ln.ae.n+1)) 2 U cd U U)<|eS U (Eg 0 U cd U)<|eS U (BI U (g8 ⟨om,om⟩)) ?_
    obtain ⟨CI,Bx⟩:=aM (eu fb (ln.ae.n+1)) (b+1) om
    have hx17m:(List.map oC (eu fb (ln.ae.n+1)))[(b+1)]? =some (oC CI):=by rw [fy,Bx]; rfl
    refine fS U (IA (b+1) U (aj (n:=(ln.ae.n+1)) 9 U sq) nS dc om om) ?_
    refine e7 U<|iA U fun T18 Be=>oI (kV:=ei) U U fun B=>?_
    try dsimp only
    refine aG (Be _ _ (aL [1,2,3,4,5,6,7,8,9]) (aL [1,2,3,4,5,6,7,8,9,10]) ?_)
    refine cf U fun T20 Bf=>?_
    have Bo:((eu fb (ln.ae.n+1)).set (b+1) (some B))=(eu (fb++[B]) (ln.ae.n+1)):=by exact uC om om
    refine eD (k:=(b+1)) (o:=0) (vs:=[(Value.map (some B))]) (es':=(List.map oC (eu (fb++[B]) (ln.ae.n+1)))) (C':=[_,_,_,_,_,_,_,_,_,_,(own fA (ln.ae.n+1) 274 1 (List.map oC (eu (fb++[B]) (ln.ae.n+1))))]) 10 U U U Ki U U U U hx17m U dc (by exact (List.map_set (f:=oC) (l:=(eu fb (ln.ae.n+1))) (i:=(b+1)) (a:=(some B))).symm.trans (congrArg _ Bo)) U<|aG (Bf _ _ (aL [1,2,3,4,5,6,7,8,9]) ?_)
    refine fK U<|KK BD<|al fun _ BE=>?_
    have CA:(eu (fb++[B]) (ln.ae.n+1)).length=(ln.ae.n+1):=qF (by simp; omega)
    obtain ⟨mb,N⟩:=aM fs b om
    obtain ⟨ga,Z⟩:=aM fb b om
    refine FW 9 N Z U U U ?_
    try dsimp only
    refine dq cy 7 kr<|mu 1 [] (mc 6 U I) U<|dS (SX (bO U U) U U)<|dP 3 [0,1] (mr 5 U (mc 3 U I)) ?_
    have Bs:(List.map oC (eu (fb++[B]) (ln.ae.n+1)))[b]? =some (oC (some ga)):=rf (oy (Jc Z))
    refine dS (IA b U (aj (n:=(ln.ae.n+1)) 11 U sq) nS dc om om) ?_
    refine dS (fY b 0 (Value.map (some ga)) U cd (aj (n:=(eu (fb++[B]) (ln.ae.n+1)).length) 11 U sm) Bs U dc U)<|cL<|tH 0 U U oO U U fun AS=>?_
    try dsimp only
    refine RK BE<|ay ?_
    have C:(∀ p∈mb,p∈mb)∧(wo (cN ln ri e tms) b ([]:FM))∧(jO (cN ln ri e tms) b mb ([]:FM) mb):=by exact ⟨fun p hp=>hp,wo.start,jO.start⟩
    refine vq (ι:={z:FM×FM×(List Nat) // (∀ p∈z.1,p∈mb)∧(wo (cN ln ri e tms) b z.2.1)∧(jO (cN ln ri e tms) b mb z.2.1 z.1)}) (fun z=>z.1.2.2.map lk) (fun z=>[(0,(vP gw)),(1,(vP W)),(2,(vI (ln.ae.n:Int))),(3,(vP s)),(52,(vI (ln.ae.n:Int))),(53,(vI (b:Int))),(71,(vP AS))]) (fun z=>[(yk ei AS ga (bT iV mb) (bT iV z.1.1) none),(bq (fx nG fs fb b)),(ik ei B (bT iV z.1.2.1)),(bY s 3 [(vI (b:Int))]),(bq (z.1.2.2.map lP)),(bY gw 270 (cb.cells (cb.mk ln ri (aN.mk e_A e.length e_C) (aN.mk t_A tms.length t_C) (aN.mk fA (ln.ae.n+1) (ln.ae.n+1)) (aN.mk bA (ln.ae.n+1) (ln.ae.n+1))))).ro,(bY W 259 [(vP gw)]),(rd e_A e.length 1 (e.map iC)).ro,(rd t_A tms.length 1 (List.zipWith gD tms tb)).ro,(e9 (aS q8 tms tb)).ro,(own bA (ln.ae.n+1) 274 1 (List.map oC (List.replicate (ln.ae.n+1) (none:Option Nat)))),(own fA (ln.ae.n+1) 274 1 (List.map oC (eu (fb++[B]) (ln.ae.n+1))))]) (fun z=>z.1.1.length) ⟨(mb,([]:FM),B0),C⟩ U (aV U) (aL [0,1,2,3,4,5,6,7,8,9,10,11]) ?_
    clear C
    rintro ⟨⟨left,m,AM⟩,⟨c,d,g⟩⟩ J26 A_
    try dsimp only at c d g
    try dsimp only
    refine WS fun _ AV=>rQ ou.inj (f:=iV) 0 U U U U (fun B4=>?_) (fun t v hm Az=>?_)
    ·refine bo 1 U<|RK AV<|al fun _ CS=>aX U<|bE<|ag<|ag<|aA<|aH<|KK BB<|ao<|rP 2 [] I ?_
     refine aG<|Lf (C':=[(ik ei ga (bT iV mb)),(bq (fx nG fs fb b)),(ik ei B (bT iV m)),(bY s 3 [(vI (b:Int))]),(bq (AM.map lP)),(bY gw 270 (cb.cells (cb.mk ln ri (aN.mk e_A e.length e_C) (aN.mk t_A tms.length t_C) (aN.mk fA (ln.ae.n+1) (ln.ae.n+1)) (aN.mk bA (ln.ae.n+1) (ln.ae.n+1))))).ro,(bY W 259 [(vP gw)]),(rd e_A e.length 1 (e.map iC)).ro,(rd t_A tms.length 1 (List.zipWith gD tms tb)).ro,(e9 (aS q8 tms tb)).ro,(own bA (ln.ae.n+1) 274 1 (List.map oC (List.replicate (ln.ae.n+1) (none:Option Nat)))),(own fA (ln.ae.n+1) 274 1 (List.map oC (eu (fb++[B]) (ln.ae.n+1))))]) 0 U Ja U<|Jv 1 0 N Z U U U ?_
     try dsimp only
     refine Cu (X':=aS nG (fs++[m]) (fb++[B])) 0 1 U U (yu om U) ?_
     try dsimp only
     have Bp:(vI (((b+1):Nat):Int))=(vI ((b:Int)+1)):=by exact cI om
     refine aW (B5 ⟨((b+1),(fs++[m]),(fb++[B]),AM),⟨om,by simp; omega,by simp; omega,M.add AK N d g B4⟩⟩ _ _ _ U os (cW 4<|bx U Bp<|dB.nil _) (aL [2,3,4,5,6,7,8,0,9]))
    try dsimp only
    refine bo 1 U<|RK AV<|al fun _ BF=>aQ U<|WK BF<|ay<|WS fun _ BG=>rS (SX (rU 0 U U U) U U)<|bo 2 U<|AL U sI fun A2=>AL U i_ fun A3=>tw U rj U<|Gq U AE U U<|RK BG<|WS fun _ BH=>rP 2 [0,1] (mc 8 U (mc 5 U I)) ?_
    refine cX (ux gw b) (aK) U fun CN CW=>?_
    obtain ⟨AY,Aa⟩:=CN
    try dsimp only
    refine RK BH<|ay<|kp 11 U (by exact fun _ h=>h)<|kp 13 U (by exact fun _ h=>h)<|kp 15 U (by exact fun _ h=>h)<|kp 12 U (by exact fun _ h=>h) ?_
    refine nx (L0:=[(0,(vP gw)),(1,(vP W)),(2,(vI (ln.ae.n:Int))),(3,(vP s)),(4,(vP A2)),(5,(vP A3)),(52,(vI (ln.ae.n:Int))),(53,(vI (b:Int))),(71,(vP AS))]) (F:=[(rd e_A e.length 1 (e.map iC)).ro,(rd t_A tms.length 1 (List.zipWith gD tms tb)).ro,(e9 (aS q8 tms tb)).ro,(bY gw 270 (cb.cells (cb.mk ln ri (aN.mk e_A e.length e_C) (aN.mk t_A tms.length t_C) (aN.mk fA (ln.ae.n+1) (ln.ae.n+1)) (aN.mk bA (ln.ae.n+1) (ln.ae.n+1))))).ro,(bY AY 259 [(vP gw)]),(bY Aa 3 [(vI (b:Int))])]) (fun k (y:FM)=>(m6 (cN ln ri e tms) b mb left y (t,v) k)) (fun k y=>[(bY A3 3 [(vI v)]),(bY A2 276 (aC.cells t)),(yk ei AS ga (bT iV mb) (bT iV (cD left t)) (some (t,(vI v)))),(bq (fx nG fs fb b)),(ik ei B (bT iV y)),(bY s 3 [(vI (b:Int))]),(bq (AM.map lP)),(bY gw 270 (cb.cells (cb.mk ln ri (aN.mk e_A e.length e_C) (aN.mk t_A tms.length t_C) (aN.mk fA (ln.ae.n+1) (ln.ae.n+1)) (aN.mk bA (ln.ae.n+1) (ln.ae.n+1))))).ro,(bY W 259 [(vP gw)]),(rd e_A e.length 1 (e.map iC)).ro,(rd t_A tms.length 1 (List.zipWith gD tms tb)).ro,(e9 (aS q8 tms tb)).ro,(own bA (ln.ae.n+1) 274 1 (List.map oC (List.replicate (ln.ae.n+1) (none:Option Nat)))),(own fA (ln.ae.n+1) 274 1 (List.map oC (eu (fb++[B]) (ln.ae.n+1))))]) (fun _ (_:Unit)=>False) (fun _ _=>[]) [6,7,8,9,10,11,12,13,14,15,16,17,18,19] [3,2,1,0,4,5] m rfl rfl (rN ln ri e tms e_A e_C tb t_A t_C fA (ln.ae.n+1) (ln.ae.n+1) bA (ln.ae.n+1) (ln.ae.n+1) gw b AY Aa om om) rfl rfl rfl (by exact m6.start d g) (by simp only [List.forall_mem_cons,List.not_mem_nil,false_imp_iff,implies_true,and_true]; exact ⟨⟨_,aU (i:=0) rfl,(dD (bQ _))⟩,⟨_,aU (i:=1) rfl,(dD (bQ _))⟩,⟨_,aU (i:=2) rfl,(dD (bQ _))⟩,⟨_,aU (i:=3) rfl,(dD (bQ _))⟩,⟨_,aU (i:=4) rfl,(bQ _)⟩,⟨_,aU (i:=5) rfl,(bQ _)⟩⟩) (by rintro k x k2 ⟨o,_,rfl,_⟩; rfl) rfl (aV rfl) ?_ ?_ (fun _ _ _ h=>h.elim) (fun _ _ h=>h.elim)
    rotate_left 1
    ·rintro CH k O AJ As
     have D:=As
     try dsimp only
     refine aH<|aH<|Ih (X:=AM.map lP) 13 0 U U ?_
     try dsimp only
     refine gQ 9 U xj U ?_
     refine aW (A_ ⟨((cD left t),O,(CH::AM)),⟨mj c,D.on,D.next Az hm AJ⟩⟩ _ _ _ U (eW hm) (aV U) (aL [9,10,11,12,0,4,14,1,2,3,18,19]))
    rintro k x k2 O l ra rb S w1 K39 Qr40 CE hx Ar BJ H CK CP
    obtain ⟨o,ho,rfl,rfl⟩:=hx
    have D:=Ar
    try dsimp only
    refine WS fun _ BK=>rP 1 [] I ?_
    refine RK BK<|ao<|AL U dg fun CY=>fQ U cu U<|aG<|iZ (fun _ _ h=>h) (aL [1,0,2,3,4,5,6,7,8,9,10,11,12,13,14,15])<|aW (BJ _ _ ?_)
    refine ay<|al fun _ BL=>dL cy [16,18] [] [] [0,1,2,3,4,5,6,7,8,9,10,11,12,13,14,15] [] U U U U U<|eS U (Eg 2 U cd U)<|eS U (Eg 10 U cd U)<|eS U (SX (bO U U) U U)<|eS U (FA 10 U fB U)<|eS U (HN (vS e_A e.length e_C) 9 U cd U U)<|eS U (Eg 7 U cd U) ?_
    obtain ⟨y,hy⟩:=aM e b om
    have A0:=bL iC hy
    refine eS U (IA b U (aD 11 U) cx dc om om)<|eS U (fY b 0 (vI y) U cd (aD 11 U) A0 U dc U) ?_
    have B_:=hw.least y (aU hy)
    have hp:=M.mem N (c _ hm)
    have B9:=JG hw _ _ hp
    have CC:=ub o.1
    have CD:=hw.opt ho
    have Ce:=hw.now
    dsimp only at B9
    refine eS U (BI U (g8 ⟨om,om⟩))<|eS U (FA 0 U fB U)<|eS U (L1 (vI o.2.Lo) 1 U cd U U)<|eS U (MX U)<|eS U (LW 3 U cd U U)<|eS U (MV U)<|eS U (CL (IX o.1) (aK) U)<|eS U (CL (vy t (fh o.1) om om) (aK) U)<|eS U (AG U)<|e7 U<|cf U fun T45 Bg=>AL U sI fun CZ=>aG (Bg _ _ (aL [1,2,3,4,5,6,7,8,9,10,11,12,13,14,15,16]) ?_)
    refine cf U fun T47 Bh=>fQ U rj U<|aG (Bh _ _ (aL [1,2,3,4,5,6,7,8,9,10,11,12,13,14,15,16]) ?_)
    refine fK U<|KK BL<|al fun _ BM=>dq cy 15 kr<|mu 1 [] (mc 11 U I) U<|dS (SX (bO U U) U U)<|dP 4 [0,1] (mr 10 U (mc 8 U I)) ?_
    have Bt:(List.map oC (eu (fb++[B]) (ln.ae.n+1)))[(b+1)]? =some (oC (some B)):=rf (oy (zG om))
    refine dS (IA (b+1) U (aj (n:=(ln.ae.n+1)) 16 U sq) nS dc om om) ?_
    refine dS (fY (b+1) 0 (Value.map (some B)) U cd (aj (n:=(eu (fb++[B]) (ln.ae.n+1)).length) 16 U sm) Bt U dc U)<|mu 1 [] (mc 0 U I) U<|dS (SX (kv (kV:=ei) (x:=(dk t (fh o.1))) (l:=O) (f:=iV) (z:=0) U U U oO ou UY (by exact aD 7 U)) U U)<|km 5 U<|cL<|RK BM<|al fun _ AC=>dq cy 19 kr<|mu 4 [0,1] (mc 2 U (mc 11 U I)) U<|dS (SX (bO U U) U U)<|mu 3 [] (mr 10 U I) U<|dS (MN U)<|dP 2 [] I ?_
    refine iw (t:=121) U (aR fun P=>?_) (aP fun P=>?_)
    ·refine dP 8 [] I ?_
     refine cL<|RK AC<|aX U<|cp<|aH ?_
     exact H O _ _ (by exact D.skip (Ju hy P)) (aL [1,3,4,5,6,7,8,9,10,11,12,13,14,15,16])
    refine dP 3 [] I ?_
    refine gJ (t:=124) U (fun R=>?_) (fun R=>?_)
    ·rw [Bool.not_eq_true'] at R
     refine km 5 U<|cL<|RK AC<|aQ U<|dq cy 10 kr<|mu 1 [] (mc 11 U I) U<|dS (SX (bO U U) U U)<|dP 4 [0,1] (mr 10 U (mc 8 U I)) ?_
     have Bu:(List.map oC (eu (fb++[B]) (ln.ae.n+1)))[(b+1)]? =some (oC (some B)):=rf (oy (zG om))
     refine dS (IA (b+1) U (aj (n:=(ln.ae.n+1)) 16 U sq) nS dc om om) ?_
     refine dS (fY (b+1) 0 (Value.map (some B)) U cd (aj (n:=(eu (fb++[B]) (ln.ae.n+1)).length) 16 U sm) Bu U dc U)<|dP 2 [] (mc 0 U I) ?_
     refine cL<|jW (kV:=ei) (x:=(dk t (fh o.1))) (C':=[_,_,_,_,_,_,_,(ik ei B (bT iV (eT O (dk t (fh o.1)) (max (v+y) o.2.Lo)))),_,_,_,_,_,_,_,_,_]) 7 U U U U oO ou U (ia _ _ _ _).symm U<|aG<|aH ?_
     exact H (eT O (dk t (fh o.1)) (max (v+y) o.2.Lo)) _ _ (by exact D.set hp ho (z6 hy P) (.inl (by simpa using R))) (aL [1,3,4,5,6,7,8,9,10,11,12,13,14,15,16])
    rw [Bool.not_eq_false'] at R
    refine dP 5 [] I ?_
    refine cL<|RK AC<|bV U (aR fun u=>?_) (aP fun u=>?_)
    ·refine cp<|aH ?_
     exact H O _ _ (by exact D.oj (z6 hy P) (by simpa using R) u) (aL [1,3,4,5,6,7,8,9,10,11,12,13,14,15,16])
    refine dq cy 10 kr<|mu 1 [] (mc 11 U I) U<|dS (SX (bO U U) U U)<|dP 4 [0,1] (mr 10 U (mc 8 U I)) ?_
    have Bv:(List.map oC (eu (fb++[B]) (ln.ae.n+1)))[(b+1)]? =some (oC (some B)):=rf (oy (zG om))
    refine dS (IA (b+1) U (aj (n:=(ln.ae.n+1)) 16 U sq) nS dc om om) ?_
    refine dS (fY (b+1) 0 (Value.map (some B)) U cd (aj (n:=(eu (fb++[B]) (ln.ae.n+1)).length) 16 U sm) Bv U dc U)<|dP 2 [] (mc 0 U I) ?_
    refine cL<|jW (kV:=ei) (x:=(dk t (fh o.1))) (C':=[_,_,_,_,_,_,_,(ik ei B (bT iV (eT O (dk t (fh o.1)) (max (v+y) o.2.Lo)))),_,_,_,_,_,_,_,_,_]) 7 U U U U oO ou U (ia _ _ _ _).symm U<|aG<|aH ?_
    exact H (eT O (dk t (fh o.1)) (max (v+y) o.2.Lo)) _ _ (by exact D.set hp ho (z6 hy P) (.inr u)) (aL [1,3,4,5,6,7,8,9,10,11,12,13,14,15,16])
   refine bE<|ag<|ag<|aA<|KK Ai<|WS fun _ AD=>rP 1 [] I ?_
   refine AL U i_ fun B1=>Gq U AE U U<|RK AD<|ay ?_
   rw [Hb]
   refine oa ?_
   have C:(0≤ln.ae.n+1)∧(([]:List FM).length=0)∧(([]:List Nat).length=0)∧(g0 (cN ln ri e tms) (ln.ae.n+1-0) ([]:List FM)):=by exact ⟨Nat.zero_le _,rfl,rfl,g0.none_⟩
   refine vq (ι:={z:Nat×(List FM)×(List Nat)×Nat×(List Nat) // (z.1≤ln.ae.n+1)∧(z.2.1.length=z.1)∧(z.2.2.1.length=z.1)∧(g0 (cN ln ri e tms) (ln.ae.n+1-z.1) z.2.1)}) (fun z=>z.1.2.2.2.2.map lk) (fun z=>[(0,(vP gw)),(1,(vP W)),(2,(vI (ln.ae.n:Int))),(12,(Value.pointer (some ⟨z.1.2.2.2.1,0,none⟩)))]) (fun z=>[(bq (aS nG z.1.2.1 z.1.2.2.1)),(bY z.1.2.2.2.1 3 [(vI ((ln.ae.n:Int)-(z.1.1:Int)))]),(bq (z.1.2.2.2.2.map lP)),(bY gw 270 (cb.cells (cb.mk ln ri (aN.mk e_A e.length e_C) (aN.mk t_A tms.length t_C) (aN.mk fA (ln.ae.n+1) (ln.ae.n+1)) (aN.mk bA (ln.ae.n+1) (ln.ae.n+1))))).ro,(bY W 259 [(vP gw)]),(rd e_A e.length 1 (e.map iC)).ro,(rd t_A tms.length 1 (List.zipWith gD tms tb)).ro,(e9 (aS q8 tms tb)).ro,(own bA (ln.ae.n+1) 274 1 (List.map oC (gU z.1.2.2.1 (ln.ae.n+1)))),(bq (aS nG fs fb)),(own fA (ln.ae.n+1) 274 1 (List.map oC (eu fb (ln.ae.n+1))))]) (fun z=>ln.ae.n+1-z.1.1) ⟨(0,([]:List FM),([]:List Nat),B1,B0),C⟩ U (aV U) (aL [0,1,2,3,4,5,6,7,8,9,10]) ?_
   clear C
   rintro ⟨⟨j,bs,bb,gq,q⟩,⟨AP,AQ,AR,E⟩⟩ J57 AU
   try dsimp only at AP AQ AR E
   try dsimp only
   refine al fun _ AF=>WS fun _ AH=>rP 2 [] (mc 1 U I) ?_
   refine RK AH<|bV U (aR fun A7=>?_) (aP fun A7=>?_)
   ·refine bE<|ag<|ag<|aA ?_
    rw [show (List.map oC (eu fb (ln.ae.n+1)))=(List.zipWith gD fs fb) from by rw [yL om]; exact (Am om).symm]
    rw [show (List.map oC (gU bb (ln.ae.n+1)))=(List.zipWith gD bs bb) from by rw [HB om]; exact (Am om).symm]
    refine zD (C1:=[(own fA (ln.ae.n+1) 274 1 (List.zipWith gD fs fb)),(bq (aS nG fs fb)),(own bA (ln.ae.n+1) 274 1 (List.zipWith gD bs bb)),(bq (aS nG bs bb)),(bq (q.map lP))]) hz [10,9,8,0,2] U U (by simp only [fH,List.all_nil,Lq,Mj,Bool.and_true]; rfl) ?_
    rw [show (bY gw 270 (cb.cells (cb.mk ln ri (aN.mk e_A e.length e_C) (aN.mk t_A tms.length t_C) (aN.mk fA (ln.ae.n+1) (ln.ae.n+1)) (aN.mk bA (ln.ae.n+1) (ln.ae.n+1)))))=(bY gw 270 (cb.cells (cb.mk ln ri (aN.mk e_A e.length e_C) (aN.mk t_A tms.length t_C) (aN.mk fA fs.length (ln.ae.n+1)) (aN.mk bA bs.length (ln.ae.n+1))))) from by rw [show fs.length=(ln.ae.n+1) from by omega,show bs.length=(ln.ae.n+1) from by omega]]
    refine Qs [(bY gw 270 (cb.cells (cb.mk ln ri (aN.mk e_A e.length e_C) (aN.mk t_A tms.length t_C) (aN.mk fA fs.length (ln.ae.n+1)) (aN.mk bA bs.length (ln.ae.n+1))))),(own fA (ln.ae.n+1) 274 1 (List.zipWith gD fs fb)),(bq (aS nG fs fb)),(own bA (ln.ae.n+1) 274 1 (List.zipWith gD bs bb)),(bq (aS nG bs bb))] [(bq (q.map lP))] ?_
    refine hN _ _ _ (JP 1 U U<|gV (vs:=[]) trivial fun w hs=>Sj (fs,fb,fA,(ln.ae.n+1),bs,bb,bA,(ln.ae.n+1)) 0 ?_ ?_ U (by show List.all _ _=true; simp only [fH,List.all_nil,Lq,Bool.and_true]; rfl) hs)
    ·clear hs w hQ hN AH AF AD AB Ak Aj Ai Ag Ad; rfl
    ·clear hs w hQ hN AH AF AD AB Ak Aj Ai Ag Ad; exact ⟨M.ok (by show fs.length=e.length+1; omega),g0.ok (by have:=E; rwa [show ln.ae.n+1-j=0 by omega] at this) (by show bs.length=e.length+1; omega),dso,dso⟩
   refine WK AF<|al fun _ AW=>ay<|al fun _ BN=>?_
   obtain ⟨b,Cb⟩: ∃ b:Nat,b+j=ln.ae.n:=⟨ln.ae.n-j,om⟩
   rw [show (ln.ae.n:Int)-(j:Int)=(b:Int) from by omega]
   have CV:(gU bb (ln.ae.n+1)).length=(ln.ae.n+1):=yh om
   refine dL cy [5,12,13,15] [11] [0,1,2] [0,1,2,3,4,5,6,7,9,10] [0,1,2,3,4,5,6,7,8,9,10] U U U U U<|eS U (Eg 4 U cd U)<|eS U (SX (bO U U) U U)<|eS U (FA 13 U fB U)<|eS U (HN (vS bA (ln.ae.n+1) (ln.ae.n+1)) 3 U cd U U)<|eS U (Eg 1 U cd U)<|eS U (SX (bj (xs:=[]) (cs:=(aC.cells (aC.mk 0 0))) U U (bk BT U)) U U)<|eS U (Eg 4 U cd U)<|eS U (SX (bO U U) U U)<|eS U (FA 7 U fB U)<|eS U (FA 8 U fB U)<|eS U (HN (vI ri.gf) 3 U cd U U) ?_
   obtain ⟨CJ,By⟩:=aM (gU bb (ln.ae.n+1)) b om
   have hx63m:(List.map oC (gU bb (ln.ae.n+1)))[b]? =some (oC CJ):=by rw [fy,By]; rfl
   refine fS U (IA b U (aj (n:=(ln.ae.n+1)) 8 U sq) nS dc om om) ?_
   refine e7 U<|iA U fun T64 Bi=>oI (kV:=ei) U U fun A=>?_
   try dsimp only
   refine aG (Bi _ _ (aL [1,2,3,4,5,6,7,8,10,11]) (aL [1,2,3,4,5,6,7,8,9,10,11]) ?_)
   refine iA U fun T66 Bj=>?_
   have Bq:(eT ([]:List (aC×Int)) (aC.mk 0 0) ri.gf)=[((aC.mk 0 0),ri.gf)]:=by rfl
   refine yn (kV:=ei) (x:=(aC.mk 0 0)) (C':=[(ik ei A (bT iV ([((aC.mk 0 0),ri.gf)]))),_,_,_,_,_,_,_,_,_,_,_]) 0 U U U U oO ou U ((ia _ _ _ _).symm.trans (congrArg _ Bq)) U<|aG (Bj _ _ (aL [1,2,3,4,5,6,7,8,10,11]) (aL [1,2,3,4,5,6,7,8,9,10,11]) ?_)
   refine iA U fun T68 Bk=>rS (MV U)<|aG (Bk _ _ (aL [1,2,3,4,5,6,7,8,10,11]) (aL [1,2,3,4,5,6,7,8,9,10,11]) ?_)
   refine cf U fun T69 Bl=>?_
   have Br:((gU bb (ln.ae.n+1)).set b (some A))=(gU (A::bb) (ln.ae.n+1)):=by exact GS om
   refine eD (k:=b) (o:=0) (vs:=[(Value.map (some A))]) (es':=(List.map oC (gU (A::bb) (ln.ae.n+1)))) (C':=[_,_,_,_,_,_,_,_,_,(own bA (ln.ae.n+1) 274 1 (List.map oC (gU (A::bb) (ln.ae.n+1)))),_,_]) 9 U U U Ki U U U U hx63m U dc (by exact (List.map_set (f:=oC) (l:=(gU bb (ln.ae.n+1))) (i:=b) (a:=(some A))).symm.trans (congrArg _ Br)) U<|aG (Bl _ _ (aL [1,2,3,4,5,6,7,8,10,11]) ?_)
   refine fK U<|KK BN<|al fun _ BO=>WS fun _ BP=>rP 3 [] (mc 2 U I) ?_
   refine RK BP<|cO U (aP fun A8=>?_) (aR fun A8=>?_)
   ·refine bE<|ag<|aA<|KK AW<|al fun _ BQ=>WS fun _ BR=>fD 1 [] (mc 2 U I) U<|RK BR<|ao<|AL U i_ fun B2=>Gq U AE U U<|RK BQ<|ao<|rP 2 [] (mc 0 U I) ?_
    refine Gq U AE U U<|aG ?_
    rw [show (b:Int)-1=(ln.ae.n:Int)-(((j+1):Nat):Int) from by omega]
    refine yC (ms:=bs) (m:=[((aC.mk 0 0),ri.gf)]) (a:=A) 2 1 U U U ?_
    try dsimp only
    refine aW (AU ⟨((j+1),([((aC.mk 0 0),ri.gf)]::bs),(A::bb),B2,q),⟨om,by simp; omega,by simp; omega,by exact g0.end_ (b:=b) E om om (by show e.length≤b; omega)⟩⟩ _ _ _ U os (aV U) (aL [0,1,3,4,5,6,7,8,9,10,11]))
   refine WK BO<|al fun _ BS=>?_
   have CB:(gU (A::bb) (ln.ae.n+1)).length=(ln.ae.n+1):=yh (by simp; omega)
   obtain ⟨mb,N⟩:=aM bs 0 om
   obtain ⟨ga,Z⟩:=aM bb 0 om
   refine FW 1 N Z U U U ?_
   try dsimp only
   refine dq cy 8 kr<|mu 1 [] (mc 6 U I) U<|dS (SX (bO U U) U U)<|dP 4 [0,1] (mr 5 U (mc 3 U I)) ?_
   have Bw:(List.map oC (gU (A::bb) (ln.ae.n+1)))[(b+1)]? =some (oC (some ga)):=rf (sr (i:=1) (by simpa using Z) (by simp; omega))
   refine dS (IA (b+1) U (aj (n:=(ln.ae.n+1)) 10 U sq) nS dc om om) ?_
   refine dS (fY (b+1) 0 (Value.map (some ga)) U cd (aj (n:=(gU (A::bb) (ln.ae.n+1)).length) 10 U sm) Bw U dc U)<|cL<|tH 0 U U oO U U fun AT=>?_
   try dsimp only
   refine RK BS<|ay ?_
   have C:(∀ p∈mb,p∈mb)∧(vc (cN ln ri e tms) b ([((aC.mk 0 0),ri.gf)]))∧(js (cN ln ri e tms) b mb ([((aC.mk 0 0),ri.gf)]) mb):=by exact ⟨fun p hp=>hp,vc.start (by show b<e.length; omega),js.start⟩
   refine vq (ι:={z:FM×FM×(List Nat) // (∀ p∈z.1,p∈mb)∧(vc (cN ln ri e tms) b z.2.1)∧(js (cN ln ri e tms) b mb z.2.1 z.1)}) (fun z=>z.1.2.2.map lk) (fun z=>[(0,(vP gw)),(1,(vP W)),(2,(vI (ln.ae.n:Int))),(12,(vP gq)),(171,(vP AT))]) (fun z=>[(yk ei AT ga (bT iV mb) (bT iV z.1.1) none),(bq (fx nG bs bb 0)),(ik ei A (bT iV z.1.2.1)),(bY gq 3 [(vI (b:Int))]),(bq (z.1.2.2.map lP)),(bY gw 270 (cb.cells (cb.mk ln ri (aN.mk e_A e.length e_C) (aN.mk t_A tms.length t_C) (aN.mk fA (ln.ae.n+1) (ln.ae.n+1)) (aN.mk bA (ln.ae.n+1) (ln.ae.n+1))))).ro,(bY W 259 [(vP gw)]),(rd e_A e.length 1 (e.map iC)).ro,(rd t_A tms.length 1 (List.zipWith gD tms tb)).ro,(e9 (aS q8 tms tb)).ro,(own bA (ln.ae.n+1) 274 1 (List.map oC (gU (A::bb) (ln.ae.n+1)))),(bq (aS nG fs fb)),(own fA (ln.ae.n+1) 274 1 (List.map oC (eu fb (ln.ae.n+1))))]) (fun z=>z.1.1.length) ⟨(mb,[((aC.mk 0 0),ri.gf)],q),C⟩ U (aV U) (aL [0,1,2,3,4,5,6,7,8,9,10,11,12]) ?_
   clear C
   rintro ⟨⟨left,m,V⟩,⟨J,K,L⟩⟩ J80 BA
   try dsimp only at J K L
   try dsimp only
   refine WS fun _ AX=>rQ ou.inj (f:=iV) 0 U U U U (fun A9=>?_) (fun t v hm Az=>?_)
   ·refine bo 1 U<|RK AX<|al fun _ CU=>aX U<|bE<|ag<|ag<|aA<|aH<|KK AW<|al fun _ BU=>WS fun _ BV=>fD 1 [] (mc 3 U I) U<|RK BV<|ao<|AL U i_ fun A4=>Gq U AE U U<|RK BU<|ao<|rP 2 [] (mc 0 U I) ?_
    refine Gq U AE U U<|aG<|Lf (C':=[(bY A4 3 [(vI ((b:Int)-1))]),(ik ei ga (bT iV mb)),(bq (fx nG bs bb 0)),(ik ei A (bT iV m)),(bY gq 3 [(vI (b:Int))]),(bq (V.map lP)),(bY gw 270 (cb.cells (cb.mk ln ri (aN.mk e_A e.length e_C) (aN.mk t_A tms.length t_C) (aN.mk fA (ln.ae.n+1) (ln.ae.n+1)) (aN.mk bA (ln.ae.n+1) (ln.ae.n+1))))).ro,(bY W 259 [(vP gw)]),(rd e_A e.length 1 (e.map iC)).ro,(rd t_A tms.length 1 (List.zipWith gD tms tb)).ro,(e9 (aS q8 tms tb)).ro,(own bA (ln.ae.n+1) 274 1 (List.map oC (gU (A::bb) (ln.ae.n+1)))),(bq (aS nG fs fb)),(own fA (ln.ae.n+1) 274 1 (List.map oC (eu fb (ln.ae.n+1))))]) 1 U Ja U<|Jv 2 1 N Z U U U ?_
    try dsimp only
    rw [show (b:Int)-1=(ln.ae.n:Int)-(((j+1):Nat):Int) from by omega]
    refine yC (ms:=bs) (m:=m) (a:=A) 0 2 U U U ?_
    try dsimp only
    refine aW (AU ⟨((j+1),(m::bs),(A::bb),A4,V),⟨om,by simp; omega,by simp; omega,by exact g0.more (b:=b) E om om (by show b<e.length; omega) N K L A9⟩⟩ _ _ _ U os (aV U) (aL [0,1,3,4,5,6,7,8,9,10,11]))
   try dsimp only
   refine bo 1 U<|RK AX<|al fun _ BW=>aQ U<|WK BW<|ay<|WS fun _ BX=>rS (SX (rU 0 U U U) U U)<|bo 2 U<|AL U sI fun A5=>AL U i_ fun A6=>tw U rj U<|Gq U AE U U<|RK BX<|WS fun _ BY=>rP 2 [0,1] (mc 8 U (mc 5 U I)) ?_
   refine cX (ux gw b) (aK) U fun CO CX=>?_
   obtain ⟨AZ,Ab⟩:=CO
   try dsimp only
   refine RK BY<|ay<|kp 11 U (by exact fun _ h=>h)<|kp 13 U (by exact fun _ h=>h)<|kp 15 U (by exact fun _ h=>h)<|kp 12 U (by exact fun _ h=>h) ?_
   refine nx (L0:=[(0,(vP gw)),(1,(vP W)),(2,(vI (ln.ae.n:Int))),(12,(vP gq)),(13,(vP A5)),(14,(vP A6)),(171,(vP AT))]) (F:=[(rd e_A e.length 1 (e.map iC)).ro,(rd t_A tms.length 1 (List.zipWith gD tms tb)).ro,(e9 (aS q8 tms tb)).ro,(bY gw 270 (cb.cells (cb.mk ln ri (aN.mk e_A e.length e_C) (aN.mk t_A tms.length t_C) (aN.mk fA (ln.ae.n+1) (ln.ae.n+1)) (aN.mk bA (ln.ae.n+1) (ln.ae.n+1))))).ro,(bY AZ 259 [(vP gw)]),(bY Ab 3 [(vI (b:Int))])]) (fun k (y:FM)=>(mW (cN ln ri e tms) b mb left y (t,v) k)) (fun k y=>[(bY A6 3 [(vI v)]),(bY A5 276 (aC.cells t)),(yk ei AT ga (bT iV mb) (bT iV (cD left t)) (some (t,(vI v)))),(bq (fx nG bs bb 0)),(ik ei A (bT iV y)),(bY gq 3 [(vI (b:Int))]),(bq (V.map lP)),(bY gw 270 (cb.cells (cb.mk ln ri (aN.mk e_A e.length e_C) (aN.mk t_A tms.length t_C) (aN.mk fA (ln.ae.n+1) (ln.ae.n+1)) (aN.mk bA (ln.ae.n+1) (ln.ae.n+1))))).ro,(bY W 259 [(vP gw)]),(rd e_A e.length 1 (e.map iC)).ro,(rd t_A tms.length 1 (List.zipWith gD tms tb)).ro,(e9 (aS q8 tms tb)).ro,(own bA (ln.ae.n+1) 274 1 (List.map oC (gU (A::bb) (ln.ae.n+1)))),(bq (aS nG fs fb)),(own fA (ln.ae.n+1) 274 1 (List.map oC (eu fb (ln.ae.n+1))))]) (fun _ (_:Unit)=>False) (fun _ _=>[]) [6,7,8,9,10,11,12,13,14,15,16,17,18,19,20] [3,2,1,0,4,5] m rfl rfl (rN ln ri e tms e_A e_C tb t_A t_C fA (ln.ae.n+1) (ln.ae.n+1) bA (ln.ae.n+1) (ln.ae.n+1) gw b AZ Ab om om) rfl rfl rfl (by exact mW.start K L) (by simp only [List.forall_mem_cons,List.not_mem_nil,false_imp_iff,implies_true,and_true]; exact ⟨⟨_,aU (i:=0) rfl,(dD (bQ _))⟩,⟨_,aU (i:=1) rfl,(dD (bQ _))⟩,⟨_,aU (i:=2) rfl,(dD (bQ _))⟩,⟨_,aU (i:=3) rfl,(dD (bQ _))⟩,⟨_,aU (i:=4) rfl,(bQ _)⟩,⟨_,aU (i:=5) rfl,(bQ _)⟩⟩) (by rintro k x k2 ⟨o,_,rfl,_⟩; rfl) rfl (aV rfl) ?_ ?_ (fun _ _ _ h=>h.elim) (fun _ _ h=>h.elim)
   rotate_left 1
   ·rintro Bz k O AJ AO
    have D:=AO
    try dsimp only
    refine aH<|aH<|Ih (X:=V.map lP) 13 0 U U ?_
    try dsimp only
    refine gQ 9 U xj U ?_
    refine aW (BA ⟨((cD left t),O,(Bz::V)),⟨mj J,D.on,D.next Az hm AJ⟩⟩ _ _ _ U (eW hm) (aV U) (aL [9,10,11,12,0,4,14,1,2,3,18,19,20]))
   rintro k x k2 O l ra rb S w1 K95 Qr96 CE hx At BZ A1 CM CQ
   obtain ⟨o,ho,rfl,rfl⟩:=hx
   have D:=At
   try dsimp only
   refine WS fun _ Ba=>rP 1 [] I ?_
   refine RK Ba<|ao<|AL U dg fun Ca=>fQ U cu U<|aG<|iZ (fun _ _ h=>h) (aL [1,0,2,3,4,5,6,7,8,9,10,11,12,13,14,15,16])<|aW (BZ _ _ ?_)
   refine ay<|al fun _ Ae=>dL cy [16,18] [] [] [0,1,2,3,4,5,6,7,8,9,10,11,12,13,14,15,16] [] U U U U U<|eS U (Eg 2 U cd U)<|eS U (FA 1 U fB U)<|eS U (L1 (vI o.2.Hi) 1 U cd U U) ?_
   have hp:=E.UE (b:=b) om N (J _ hm)
   have B7:=JZ hw hp
   have CC:=ub o.1
   have CD:=hw.opt ho
   dsimp only at B7
   refine eS U (MN U)<|eS U (Eg 10 U cd U)<|eS U (SX (bO U U) U U)<|eS U (FA 10 U fB U)<|eS U (HN (vS e_A e.length e_C) 9 U cd U U)<|eS U (Eg 7 U cd U) ?_
   obtain ⟨y,hy⟩:=aM e b om
   have A0:=bL iC hy
   refine eS U (IA b U (aD 11 U) cx dc om om)<|eS U (fY b 0 (vI y) U cd (aD 11 U) A0 U dc U) ?_
   have B_:=hw.least y (aU hy)
   refine eS U (BI U (ru ⟨om,om⟩))<|eS U (LW 3 U cd U U)<|eS U (MV U)<|eS U (CL (IX o.1) (aK) U)<|eS U (CL (vy t (fh o.1) om om) (aK) U)<|eS U (AG U)<|e7 U<|cf U fun T101 Al=>AL U sI fun CR=>aG (Al _ _ (aL [1,2,3,4,5,6,7,8,9,10,11,12,13,14,15,16,17]) ?_)
   refine cf U fun T103 An=>fQ U rj U<|aG (An _ _ (aL [1,2,3,4,5,6,7,8,9,10,11,12,13,14,15,16,17]) ?_)
   refine fK U<|KK Ae<|al fun _ Af=>dq cy 14 kr<|mu 1 [] (mc 11 U I) U<|dS (SX (bO U U) U U)<|dP 3 [0,1] (mr 10 U (mc 8 U I)) ?_
   have Au:(List.map oC (gU (A::bb) (ln.ae.n+1)))[b]? =some (oC (some A)):=rf (sr (i:=0) rfl (by simp; omega))
   refine dS (IA b U (aj (n:=(ln.ae.n+1)) 15 U sq) nS dc om om) ?_
   refine dS (fY b 0 (Value.map (some A)) U cd (aj (n:=(gU (A::bb) (ln.ae.n+1)).length) 15 U sm) Au U dc U)<|mu 1 [] (mc 0 U I) U<|dS (SX (kv (kV:=ei) (x:=(dk t (fh o.1))) (l:=O) (f:=iV) (z:=0) U U U oO ou UY (by exact aD 7 U)) U U)<|km 5 U<|cL<|RK Af<|WS fun _ Y=>fD 3 [0,1] (mc 3 U (mc 2 U I)) U<|rS (MN U)<|rP 4 [] (mc 2 U I) ?_
   refine ck (t:=217) U (aR fun T=>?_) (aP fun T=>?_)
   ·refine rP 8 [] I ?_
    refine RK Y<|aX U<|cp<|aH ?_
    exact A1 O _ _ (by exact D.skip (MF T)) (aL [1,3,4,5,6,7,8,9,10,11,12,13,14,15,16,17])
   refine rP 3 [] I ?_
   refine ct (t:=220) U (fun AN=>?_) (fun AN=>?_)
   ·rw [Bool.not_eq_true'] at AN
    refine bo 5 U<|RK Y<|aQ U<|dq cy 9 kr<|mu 1 [] (mc 11 U I) U<|dS (SX (bO U U) U U)<|dP 3 [0,1] (mr 10 U (mc 8 U I)) ?_
    have Av:(List.map oC (gU (A::bb) (ln.ae.n+1)))[b]? =some (oC (some A)):=rf (sr (i:=0) rfl (by simp; omega))
    refine dS (IA b U (aj (n:=(ln.ae.n+1)) 15 U sq) nS dc om om) ?_
    refine dS (fY b 0 (Value.map (some A)) U cd (aj (n:=(gU (A::bb) (ln.ae.n+1)).length) 15 U sm) Av U dc U)<|dP 2 [] (mc 0 U I) ?_
    refine cL<|jW (kV:=ei) (x:=(dk t (fh o.1))) (C':=[_,_,_,_,_,_,_,(ik ei A (bT iV (eT O (dk t (fh o.1)) ((min v o.2.Hi)-y)))),_,_,_,_,_,_,_,_,_,_]) 7 U U U U oO ou U (ia _ _ _ _).symm U<|aG<|aH ?_
    exact A1 (eT O (dk t (fh o.1)) ((min v o.2.Hi)-y)) _ _ (by exact D.set (by show b<e.length; omega) hp ho (Ac hy T) (.inl (by simpa using AN))) (aL [1,3,4,5,6,7,8,9,10,11,12,13,14,15,16,17])
   rw [Bool.not_eq_false'] at AN
   refine rP 5 [] I ?_
   refine RK Y<|bV U (aR fun AA=>?_) (aP fun AA=>?_)
   ·refine cp<|aH ?_
    exact A1 O _ _ (by exact D.oj (Ac hy T) (by simpa using AN) AA) (aL [1,3,4,5,6,7,8,9,10,11,12,13,14,15,16,17])
   refine dq cy 9 kr<|mu 1 [] (mc 11 U I) U<|dS (SX (bO U U) U U)<|dP 3 [0,1] (mr 10 U (mc 8 U I)) ?_
   have Aw:(List.map oC (gU (A::bb) (ln.ae.n+1)))[b]? =some (oC (some A)):=rf (sr (i:=0) rfl (by simp; omega))
   refine dS (IA b U (aj (n:=(ln.ae.n+1)) 15 U sq) nS dc om om) ?_
   refine dS (fY b 0 (Value.map (some A)) U cd (aj (n:=(gU (A::bb) (ln.ae.n+1)).length) 15 U sm) Aw U dc U)<|dP 2 [] (mc 0 U I) ?_
   refine cL<|jW (kV:=ei) (x:=(dk t (fh o.1))) (C':=[_,_,_,_,_,_,_,(ik ei A (bT iV (eT O (dk t (fh o.1)) ((min v o.2.Hi)-y)))),_,_,_,_,_,_,_,_,_,_]) 7 U U U U oO ou U (ia _ _ _ _).symm U<|aG<|aH ?_
   exact A1 (eT O (dk t (fh o.1)) ((min v o.2.Hi)-y)) _ _ (by exact D.set (by show b<e.length; omega) hp ho (Ac hy T) (.inr AA)) (aL [1,3,4,5,6,7,8,9,10,11,12,13,14,15,16,17])
  refine dL cy [4,11,12,14] [10] [0,1,2] [0,1,2,3,4,6] [0,1,2,3,4,5,6] U U U U U<|eS U (Eg 1 U cd U)<|eS U (SX (bO U U) U U)<|eS U (FA 12 U fB U)<|eS U (HN (vS fA (ln.ae.n+1) (ln.ae.n+1)) 0 U cd U U)<|eS U (SX (bj (xs:=[]) (cs:=(aC.cells (aC.mk 0 0))) U U (bk BT U)) U U)<|eS U (Eg 1 U cd U)<|eS U (SX (bO U U) U U)<|eS U (FA 7 U fB U)<|eS U (FA 7 U fB U)<|eS U (HN (vI ri.Start) 0 U cd U U) ?_
  obtain ⟨x6,CF⟩:=aM (List.replicate (ln.ae.n+1) (none:Option Nat)) 0 om
  have hx7m:(List.map oC (List.replicate (ln.ae.n+1) (none:Option Nat)))[0]? =some (oC x6):=by rw [fy,CF]; rfl
  refine fS U (IA 0 U (aj (n:=(ln.ae.n+1)) 5 U sq) nS dc U om) ?_
  refine e7 U<|iA U fun T8 Ap=>oI (kV:=ei) U U fun r=>?_
  try dsimp only
  refine aG (Ap _ _ (aL [1,2,3,4,5,7]) (aL [1,2,3,4,5,6,7]) ?_)
  refine iA U fun T10 G=>?_
  have Bm:(eT ([]:List (aC×Int)) (aC.mk 0 0) ri.Start)=[((aC.mk 0 0),ri.Start)]:=by rfl
  refine yn (kV:=ei) (x:=(aC.mk 0 0)) (C':=[(ik ei r (bT iV ([((aC.mk 0 0),ri.Start)]))),_,_,_,_,_,_,_]) 0 U U U U oO ou U ((ia _ _ _ _).symm.trans (congrArg _ Bm)) U<|aG (G _ _ (aL [1,2,3,4,5,7]) (aL [1,2,3,4,5,6,7]) ?_)
  refine iA U fun T12 Bb=>rS (MV U)<|aG (Bb _ _ (aL [1,2,3,4,5,7]) (aL [1,2,3,4,5,6,7]) ?_)
  refine cf U fun T13 Bc=>?_
  have Bn:((List.replicate (ln.ae.n+1) (none:Option Nat)).set 0 (some r))=(eu [r] (ln.ae.n+1)):=by rw [zf]; exact uC rfl sm
  refine eD (k:=0) (o:=0) (vs:=[(Value.map (some r))]) (es':=(List.map oC (eu [r] (ln.ae.n+1)))) (C':=[_,_,_,_,_,_,(own fA (ln.ae.n+1) 274 1 (List.map oC (eu [r] (ln.ae.n+1)))),_]) 6 U U U Ki U U U U hx7m U dc (by exact (List.map_set (f:=oC) (l:=(List.replicate (ln.ae.n+1) (none:Option Nat))) (i:=0) (a:=(some r))).symm.trans (congrArg _ Bn)) U<|aG (Bc _ _ (aL [1,2,3,4,5,7]) ?_)
  refine fK U<|DN<|Cu (X:=[]) (X':=aS nG [[((aC.mk 0 0),ri.Start)]] [r]) 0 1 U U U ?_
  try dsimp only
  refine aW (iZ (aV U) (aL [1,2,3,4,5,7,0,6]) (B6 ⟨r,trivial⟩))
 refine pw cy [0,1,2,3,5,6,8,9,11,12] [4,7,10,13] [false,false,false,false,false,false,false,false,false,false] [] [(bY W 259 [(vP gw)]),(rd e_A e.length 1 (e.map iC)).ro,(rd t_A tms.length 1 (List.zipWith gD tms tb)).ro,(e9 (aS q8 tms tb)).ro] [] kr (aL [0,2,3,4]) (aL [])<|eS U (Eg 0 U cd U)<|eS U (Eg 0 U cd U)<|eS U (MV U)<|eS U (BI U (g8 ⟨om,om⟩))<|eS U (MV U)<|eS U (BI U (g8 ⟨om,om⟩))<|eS U (SX (bO U U) U U)<|eS U (FA 12 U fB U)<|eS U (SX (bO U U) U U)<|eS U (FA 13 U fB U)<|e7 U<|iR [4,7] kr (eJ ?_<|eJ ?_<|kI)
 rotate_left 1
 ·refine NO U U [4,10,13] fun T5 Ao=>?_
  refine wj (n:=(ln.ae.n+1)) (es:=(List.map oC (List.replicate (ln.ae.n+1) (none:Option Nat)))) U U U Bd om om (by simp only [maxLen]; omega) (by rw [List.map_replicate]; rfl) U fun b6=>?_
  try dsimp only
  refine aG (Ao _ _ (aL [1,3,4,5]) ?_)
  refine N1 4<|NO U U [10,13] fun T7 AI=>?_
  refine wj (n:=(ln.ae.n+1)) (es:=(List.map oC (List.replicate (ln.ae.n+1) (none:Option Nat)))) U U U Bd om om (by simp only [maxLen]; omega) (by rw [List.map_replicate]; rfl) U fun b8=>?_
  try dsimp only
  refine aG (AI _ _ (aL [2,4,5,6]) ?_)
  refine N1 10<|NO U U [13] fun T9 Aq=>Q7 (cb.cells (cb.mk ln ri (aN.mk e_A e.length e_C) (aN.mk t_A tms.length t_C) (aN.mk (some ⟨b8,0,none⟩) (ln.ae.n+1) (ln.ae.n+1)) (aN.mk none 0 0))) U zm U U<|aG (Aq _ _ (aL [2,4,5,6]) ?_)
  refine N1 13<|NO U U [] fun T10 G=>Q7 (cb.cells (cb.mk ln ri (aN.mk e_A e.length e_C) (aN.mk t_A tms.length t_C) (aN.mk (some ⟨b8,0,none⟩) (ln.ae.n+1) (ln.ae.n+1)) (aN.mk (some ⟨b6,0,none⟩) (ln.ae.n+1) (ln.ae.n+1)))) U zm U U<|aG (G _ _ (aL [2,4,5,6]) ?_)
  refine pG ?_
  refine aW (iZ (aV U) (aL [2,4,5,6,0,1,3]) (Ah ⟨((some ⟨b8,0,none⟩),(some ⟨b6,0,none⟩)),trivial⟩))
 refine NO U U [7,10,13] fun T5 Ao=>?_
 refine wj (n:=(ln.ae.n+1)) (es:=(List.map oC (List.replicate (ln.ae.n+1) (none:Option Nat)))) U U U Bd om om (by simp only [maxLen]; omega) (by rw [List.map_replicate]; rfl) U fun b6=>?_
 try dsimp only
 refine aG (Ao _ _ (aL [1,3,4,5]) ?_)
 refine iR [7,10] kr (eJ ?_<|eJ ?_<|kI)
 rotate_left 1
 ·refine NO U U [7,13] fun T7 AI=>Va (cb.cells (cb.mk ln ri (aN.mk e_A e.length e_C) (aN.mk t_A tms.length t_C) (aN.mk (some ⟨b6,0,none⟩) (ln.ae.n+1) (ln.ae.n+1)) (aN.mk none 0 0))) U zm U U<|aG (AI _ _ (aL [1,3,4,5]) ?_)
  refine N1 7<|NO U U [13] fun T8 Ap=>?_
  refine wj (n:=(ln.ae.n+1)) (es:=(List.map oC (List.replicate (ln.ae.n+1) (none:Option Nat)))) U U U Bd om om (by simp only [maxLen]; omega) (by rw [List.map_replicate]; rfl) U fun r=>?_
  try dsimp only
  refine aG (Ap _ _ (aL [2,4,5,6]) ?_)
  refine N1 13<|NO U U [] fun T10 G=>Q7 (cb.cells (cb.mk ln ri (aN.mk e_A e.length e_C) (aN.mk t_A tms.length t_C) (aN.mk (some ⟨b6,0,none⟩) (ln.ae.n+1) (ln.ae.n+1)) (aN.mk (some ⟨r,0,none⟩) (ln.ae.n+1) (ln.ae.n+1)))) U zm U U<|aG (G _ _ (aL [2,4,5,6]) ?_)
  refine pG ?_
  refine aW (iZ (aV U) (aL [2,4,5,6,1,0,3]) (Ah ⟨((some ⟨b6,0,none⟩),(some ⟨r,0,none⟩)),trivial⟩))
 refine NO U U [10,13] fun T7 AI=>?_
 refine wj (n:=(ln.ae.n+1)) (es:=(List.map oC (List.replicate (ln.ae.n+1) (none:Option Nat)))) U U U Bd om om (by simp only [maxLen]; omega) (by rw [List.map_replicate]; rfl) U fun b8=>?_
 try dsimp only
 refine aG (AI _ _ (aL [2,4,5,6]) ?_)
 refine N1 10<|NO U U [13] fun T9 Aq=>Q7 (cb.cells (cb.mk ln ri (aN.mk e_A e.length e_C) (aN.mk t_A tms.length t_C) (aN.mk (some ⟨b6,0,none⟩) (ln.ae.n+1) (ln.ae.n+1)) (aN.mk none 0 0))) U zm U U<|aG (Aq _ _ (aL [2,4,5,6]) ?_)
 refine N1 13<|NO U U [] fun T10 G=>Q7 (cb.cells (cb.mk ln ri (aN.mk e_A e.length e_C) (aN.mk t_A tms.length t_C) (aN.mk (some ⟨b6,0,none⟩) (ln.ae.n+1) (ln.ae.n+1)) (aN.mk (some ⟨b8,0,none⟩) (ln.ae.n+1) (ln.ae.n+1)))) U zm U U<|aG (G _ _ (aL [2,4,5,6]) ?_)
 refine pG ?_
 refine aW (iZ (aV U) (aL [2,4,5,6,1,0,3]) (Ah ⟨((some ⟨b6,0,none⟩),(some ⟨b8,0,none⟩)),trivial⟩))
end
section
open Go.RowKit
theorem D6 (l:bf) (kA:OA) (kC:Nat) (az:List RA) (cA:OA) (cC:Nat) (bA:OA) (bC g1:Nat) (bm:Int) (g2:Nat) (hin:eB l az):
 eg Tryz.prog 198 [(vP g1),(vP g2)] [(rd kA l.aI.length 9 (l.aI.map an.cells)),(rd cA l.ai.length 2 (List.zipWith au.cells l.ai az)),(e9 (aS au.gW l.ai az)),(rd bA l.ae.length 4 (l.ae.map bG.cells)),(bY g1 28 (bJ.cells (lh l kA kC cA cC bA bC))),(bY g2 3 [(vI bm)])] (vI (jz l bm)):=by
 have K:=hin.sf
 have J:=hin.sh
 have H:=hin.oq
 have AA:=hin.se
 refine bI kr Tryz.func198 U U fun L Q hQ hN=>?_
 try dsimp only
 refine WS fun _ B=>bo 1 U<|RK B<|al fun _ C=>WS fun _ D=>rP 5 [0,1] (mr 4 U (mr 5 U I)) ?_
 refine cZ (xs:=[.tmp 7]) (cs:=[(vI bm)]) U cx i_ U U U U (by simp [Value.cells]) U U fun G=>?_
 refine rS (CL (eg.eq (iH 0 ((l.ae.length:Int)-1) ([bm]) (some ⟨G,0,none⟩) 1 (by (simp; done))) cU) (aw (a_ 0 U U (by simp [bK]) U)<|aK) U) ?_
 refine rP 1 [] I ?_
 refine RK D<|cO U (bh fun A=>?_) (bg fun A=>?_)
 ·refine WS fun _ E=>rP 1 [] I ?_
  refine RK E<|aq<|Q1 hQ U U U ?_
  exact cI (if_neg om).symm
 refine WK C<|WS fun _ F=>rP 1 [] I ?_
 refine RK F<|aq<|Q1 hQ U U U ?_
 exact cI (if_pos om).symm
end
section
open Go.RowKit
theorem MT (l:bf) (kA:OA) (kC:Nat) (az:List RA) (cA:OA) (cC:Nat) (bA:OA) (bC:Nat) (r:cE) (sgA:OA) (sgC:Nat) (f:Value) (X:av) (me:Int) (gm:Nat) (hf:D9 Tryz.prog f [] [X] (.int .i64 me)) (hin:eB l az) (hsl:r.ak.length≤1000000):
 lE Tryz.prog 197 [(vA (bJ.cells (lh l kA kC cA cC bA bC))),(vA (eG.cells (mo r sgA sgC))),(vS (some ⟨gm,0,none⟩) 1 1)] [(rd kA l.aI.length 9 (l.aI.map an.cells)),(rd cA l.ai.length 2 (List.zipWith au.cells l.ai az)),(e9 (aS au.gW l.ai az)),(rd bA l.ae.length 4 (l.ae.map bG.cells)),(rd sgA r.ak.length 2 (r.ak.map aO.cells)),X,(bY gm 262 [f])] (fun (x:Bool×Int×Nat×(OA)×Nat×(OA)×Nat×(List Nat)×(List FM)×(List Nat)×(OA)×Nat×(List FM)×(List Nat)×(OA)×Nat)=>bif x.1 then (vT [(Value.pointer (some ⟨x.2.2.1,0,none⟩)),(vI 0)]) else (vT [(Value.pointer none),(vI x.2.1)])) (fun (x:Bool×Int×Nat×(OA)×Nat×(OA)×Nat×(List Nat)×(List FM)×(List Nat)×(OA)×Nat×(List FM)×(List Nat)×(OA)×Nat)=>(x.1=true→(eC l r me=0∧vR (cr l r) x.2.2.2.2.2.2.2.2.1∧uc (cr l r) x.2.2.2.2.2.2.2.2.2.2.2.2.1∧x.2.2.2.2.2.2.2.2.2.1.length=x.2.2.2.2.2.2.2.2.1.length∧x.2.2.2.2.2.2.2.2.2.2.2.2.2.1.length=x.2.2.2.2.2.2.2.2.2.2.2.2.1.length∧x.2.2.2.2.2.2.2.1.length=(dZ l r.ak r.ak.length).length))∧(x.1=false→(x.2.1=eC l r me∧ ¬ eC l r me=0))) (fun (x:Bool×Int×Nat×(OA)×Nat×(OA)×Nat×(List Nat)×(List FM)×(List Nat)×(OA)×Nat×(List FM)×(List Nat)×(OA)×Nat)=>bif x.1 then [(bY x.2.2.1 270 (cb.cells (cb.mk (lh l kA kC cA cC bA bC) (mo r sgA sgC) (aN.mk x.2.2.2.1 ((cQ l l.ae.length).length) x.2.2.2.2.1) (aN.mk x.2.2.2.2.2.1 ((dZ l r.ak r.ak.length).length) x.2.2.2.2.2.2.1) (aN.mk x.2.2.2.2.2.2.2.2.2.2.1 x.2.2.2.2.2.2.2.2.1.length x.2.2.2.2.2.2.2.2.2.2.2.1) (aN.mk x.2.2.2.2.2.2.2.2.2.2.2.2.2.2.1 x.2.2.2.2.2.2.2.2.2.2.2.2.1.length x.2.2.2.2.2.2.2.2.2.2.2.2.2.2.2)))),(own x.2.2.2.1 x.2.2.2.2.1 3 1 ((cQ l l.ae.length).map iC)),(own x.2.2.2.2.2.1 x.2.2.2.2.2.2.1 58 1 (List.zipWith gD (dZ l r.ak r.ak.length) x.2.2.2.2.2.2.2.1)),(bq (aS q8 (dZ l r.ak r.ak.length) x.2.2.2.2.2.2.2.1)),(own x.2.2.2.2.2.2.2.2.2.2.1 x.2.2.2.2.2.2.2.2.2.2.2.1 274 1 (List.zipWith gD x.2.2.2.2.2.2.2.2.1 x.2.2.2.2.2.2.2.2.2.1)),(bq (aS nG x.2.2.2.2.2.2.2.2.1 x.2.2.2.2.2.2.2.2.2.1)),(own x.2.2.2.2.2.2.2.2.2.2.2.2.2.2.1 x.2.2.2.2.2.2.2.2.2.2.2.2.2.2.2 274 1 (List.zipWith gD x.2.2.2.2.2.2.2.2.2.2.2.2.1 x.2.2.2.2.2.2.2.2.2.2.2.2.2.1)),(bq (aS nG x.2.2.2.2.2.2.2.2.2.2.2.2.1 x.2.2.2.2.2.2.2.2.2.2.2.2.2.1))] else []):=by
 have B2:=hin.sf
 have B0:=hin.sh
 have By:=hin.oq
 have Bz:=hin.se
 have B1:=hin.side
 refine dv kr Tryz.func197 U U fun w0 Q hQ hN=>?_
 try dsimp only
 refine WS fun _ Ba=>fR U fun b2=>fR U fun b3=>bo 2 U<|RK Ba<|al fun _ Bb=>WS fun _ Bc=>fD 1 [] (mc 1 U I) U<|rS (CL (AS l kA kC az cA cC bA bC hin) (bp [2,3,4,5]) U)<|bo 1 U<|RK Bc<|WS fun _ Bd=>rP 2 [] I ?_
 refine RK Bd<|cO U (bh fun h=>?_) (bg fun h=>?_)
 ·refine WS fun _ Be=>rP 3 [] I ?_
  refine RK Be<|aq<|LX hQ (false,(dx l),0,none,0,none,0,[],[],[],none,0,[],[],none,0) [] [] I U (by rfl) U U ?_
  exact q_<|HZ (n7 (r:=r) (me:=me) h) h
 refine WK Bb<|al fun _ Bf=>WS fun _ AB=>?_
 have C:dx l=0:=h
 obtain ⟨BK,d⟩:=gE C
 have Bh:=d.head
 unfold gi at Bh
 refine rP 2 [] (mc 0 U I) ?_
 refine cZ (xs:=[.tmp 24]) (cs:=[(vI r.Start)]) U cx i_ U U U U (by simp [Value.cells]) U U fun BQ=>?_
 refine rS (CL (eg.eq (iH 0 86400000 ([r.Start]) (some ⟨BQ,0,none⟩) 1 (by (simp; done))) cU) (aw (a_ 0 U U (by simp [bK]) U)<|aK) U) ?_
 refine rP 2 [] I ?_
 refine ct (t:=28) U (bh fun BU=>?_) (bg fun BU=>?_)
 ·refine bo 14 U<|RK AB<|aQ U<|WS fun _ AM=>rP 2 [] I ?_
  refine RK AM<|aq<|LX hQ (false,51,0,none,0,none,0,[],[],[],none,0,[],[],none,0) [] [] I U (by rfl) U U ?_
  exact q_<|pM (iX (me:=me) C (fun q:ff l r=>by have q1:=q.time; have q2:=q.len; omega))
 refine rP 4 [] (mc 1 U I) ?_
 refine cZ (xs:=[.tmp 32]) (cs:=[(vI r.gf)]) U cx i_ U U U U (by simp [Value.cells]) U U fun BR=>?_
 refine rS (CL (eg.eq (iH r.Start 86400000 ([r.gf]) (some ⟨BR,0,none⟩) 1 (by (simp; done))) cU) (aw (a_ 0 U U (by simp [bK]) U)<|aK) U) ?_
 refine rP 3 [] I ?_
 refine ct (t:=37) U (bh fun BW=>?_) (bg fun BW=>?_)
 ·refine bo 5 U<|RK AB<|aQ U<|WS fun _ AN=>rP 2 [] I ?_
  refine RK AN<|aq<|LX hQ (false,51,0,none,0,none,0,[],[],[],none,0,[],[],none,0) [] [] I U (by rfl) U U ?_
  exact q_<|pM (iX (me:=me) C (fun q:ff l r=>by have q1:=q.time; have q2:=q.len; omega))
 refine rP 5 [] (mc 2 U I) ?_
 refine RK AB<|cO U (aP fun BX=>?_) (aR fun BX=>?_)
 ·refine WS fun _ AO=>rP 2 [] I ?_
  refine RK AO<|aq<|LX hQ (false,51,0,none,0,none,0,[],[],[],none,0,[],[],none,0) [] [] I U (by rfl) U U ?_
  exact q_<|pM (iX (me:=me) C (fun q:ff l r=>by have q1:=q.time; have q2:=q.len; omega))
 refine WK Bf<|WS fun _ AP=>rS (SX (bj (xs:=[(0,.const (vI (-1)))]) (cs:=(aO.cells (aO.mk (-1) 0))) U U (bk F0 U)) U U)<|AL U EK fun V=>fQ U wb U<|RK AP<|al fun _ AQ=>dL cy [5,6,7,8] [] [] [0,1,2,3,4,5,6,7,8,9,10,11] [] U U U U U<|eS U (LW 4 U cd U U)<|eS U (LW 3 U cd U U)<|eS U (FA 3 U fB U)<|eS U (L1 (vS bA l.ae.length bC) 4 U cd U U)<|eS U (LN U PH)<|e7 U<|cf U fun T18 Ay=>?_
 refine wj (n:=l.ae.length) (es:=(List.map oC (List.replicate l.ae.length (none:Option Nat)))) U U U RZ om om (by simp only [maxLen]; omega) (by rw [List.map_replicate]; rfl) U fun B=>?_
 try dsimp only
 refine aG (Ay _ _ (aL [1,2,3,4,5,6,7,8,9,10,11,12]) ?_)
 refine cf U fun T20 Az=>rS (SX (bj (xs:=[(0,.tmp 44),(1,.tmp 45),(3,.tmp 49)]) (cs:=(cb.cells (cb.mk (lh l kA kC cA cC bA bC) (mo r sgA sgC) (aN.mk none 0 0) (aN.mk (some ⟨B,0,none⟩) l.ae.length l.ae.length) (aN.mk none 0 0) (aN.mk none 0 0)))) U U (bk Rw U)) U U)<|aG (Az _ _ (aL [1,2,3,4,5,6,7,8,9,10,11,12]) ?_)
 refine cf U fun T21 A0=>fR U fun Bt=>aG (A0 _ _ (aL [2,3,4,5,6,7,8,9,10,11,12,13]) ?_)
 refine cf U fun T23 A1=>rS (AG U)<|aG (A1 _ _ (aL [2,3,4,5,6,7,8,9,10,11,12,13]) ?_)
 refine fK U<|KK AQ<|al fun _ AR=>WS fun _ AT=>rP 4 [] (mc 6 U I) ?_
 refine RK AT<|ay ?_
 rw [zf]
 refine fT 3 1<|oa ?_
 have E:(0≤l.ae.length)∧(([]:List Nat).length=0):=by exact ⟨Nat.zero_le _,rfl⟩
 refine bS (ι:={z:Nat×(OA)×Nat×(List Nat) // (z.1≤l.ae.length)∧(z.2.2.2.length=z.1)}) [2,3,4,6,7,9,10,54] [4,7,8,9,10,11,12,13,14,15] U U (fun z=>[(55,(vI (z.1.1:Int)))]) (fun z=>[(bq (aS q8 (List.replicate z.1.1 ([]:TM)) z.1.2.2.2)),(own z.1.2.1 z.1.2.2.1 3 1 ((cQ l z.1.1).map iC)),(bY Bt 270 (cb.cells (cb.mk (lh l kA kC cA cC bA bC) (mo r sgA sgC) (aN.mk z.1.2.1 ((cQ l z.1.1).length) z.1.2.2.1) (aN.mk (some ⟨B,0,none⟩) l.ae.length l.ae.length) (aN.mk none 0 0) (aN.mk none 0 0)))),(own (some ⟨B,0,none⟩) l.ae.length 58 1 (List.map oC (eu z.1.2.2.2 l.ae.length)))]) (fun _=>rfl) (fun _=>rfl) (fun z=>l.ae.length-z.1.1) ⟨(0,none,0,([]:List Nat)),E⟩ (aV U) (aL [4,7,8,9,10,11,12,13,14,15,0,1,2,3]) ?_
 clear E
 rintro ⟨⟨b,a,c,fb⟩,⟨AC,Y⟩⟩ J26 AK
 try dsimp only at AC Y
 try dsimp only
 have Bi:(eu fb l.ae.length).length=l.ae.length:=qF om
 refine WS fun _ AU=>rP 1 [] I ?_
 refine RK AU<|al fun _ AV=>cO U (aP fun BV=>?_) (aR fun BV=>?_)
 ·refine WK AV<|al fun _ AW=>ay<|WS fun _ AX=>rP 2 [] I ?_
  refine RK AX<|al fun _ AY=>dL cy [12,13,16] [4] [0] [0,1,2,3,4,5,6,7,8,9,10,13] [0,1,2,3,4,5,6,7,8,9,10,11,12,13] U U U U U<|eS U (MV U)<|eS U (MV U)<|eS U (SX (bO U U) U U)<|eS U (FA 10 U fB U)<|fS U (L1 (vS a ((cQ l b).length) c) 12 U cd U U)<|eS U (LW 2 U cd U U)<|eS U (MV U)<|eS U (CL (OC l kA kC az cA cC bA bC (b:Int) hin asm (by exact d.vi) om) (bp [3,4,5,6]) U) ?_
  have B3:=Fs BK d.vi b
  have B4:=d.Qx b om
  simp only [Int.toNat_natCast]
  refine eS U (BI U (Fi ⟨om,om⟩))<|eS U (FA 1 U fB U)<|eS U (L1 (vI l.dJ) 2 U cd U U) ?_
  refine eS U (CL (OL (1000*(lQ l (b:Int).toNat)) l.dJ om (by (simp; omega))) (aK) U) ?_
  refine eS U (SX (bO U U) U U)<|eS U (FA 10 U fB U)<|e7 U<|iA U fun T33 A2=>cZ (xs:=[.tmp 69]) (cs:=[(vI (oZ (1000*(lQ l (b:Int).toNat)) l.dJ))]) U cx i_ U U U U (by simp [Value.cells]) U U fun Bu=>aG (A2 _ _ (aL [1,2,3,4,5,6,7,8,9,10,11,14]) (aL [1,2,3,4,5,6,7,8,9,10,11,12,13,14]) ?_)
  refine cf U fun T35 A3=>?_
  refine df (es2:=(List.map iC (cQ l (b+1)))) (m':=(cQ l (b+1)).length) 12 U U U pO U U (by simp [ek]) (a_ (es:=List.map iC [(oZ (1000*(lQ l (b:Int).toNat)) l.dJ)]) 0 U U (by simp [bK]) U) (j9 _) (by have:=ek (l:=l) (n:=b); first|omega|(simp; omega)) (by simp only [maxLen,ek]; omega) (by rw [uX]; simp [ed]) (by simp [ek]) U fun e g=>?_
  try dsimp only
  refine aG (A3 _ _ (aL [1,2,3,4,5,6,7,8,9,10,11,14]) ?_)
  refine cf U fun T38 A4=>jg (vs:=[(vS e ((cQ l (b+1)).length) g)]) (cs':=(cb.cells (cb.mk (lh l kA kC cA cC bA bC) (mo r sgA sgC) (aN.mk e ((cQ l (b+1)).length) g) (aN.mk (some ⟨B,0,none⟩) l.ae.length l.ae.length) (aN.mk none 0 0) (aN.mk none 0 0)))) (C':=[_,_,_,_,_,_,_,_,_,_,_,_,_,(bY Bt 270 (cb.cells (cb.mk (lh l kA kC cA cC bA bC) (mo r sgA sgC) (aN.mk e ((cQ l (b+1)).length) g) (aN.mk (some ⟨B,0,none⟩) l.ae.length l.ae.length) (aN.mk none 0 0) (aN.mk none 0 0)))),_]) 13 U U U zX U U U U U U U<|aG (A4 _ _ (aL [1,2,3,4,5,6,7,8,9,10,11,14]) ?_)
  refine fK U<|KK AY<|ao<|bo 1 U<|rS (SX (bO U U) U U)<|rP 3 [] (mc 13 U I) ?_
  refine oI (kV:=iV) U U fun J=>?_
  try dsimp only
  obtain ⟨Bm,BM⟩:=aM (eu fb l.ae.length) b om
  have hx41m:(List.map oC (eu fb l.ae.length))[b]? =some (oC Bm):=by rw [fy,BM]; rfl
  refine rS (IA b U (aj (n:=l.ae.length) 15 U sq) FT dc om om) ?_
  have A5:((eu fb l.ae.length).set b (some J))=(eu (fb++[J]) l.ae.length):=by exact uC om om
  refine eD (k:=b) (o:=0) (vs:=[(Value.map (some J))]) (es':=(List.map oC (eu (fb++[J]) l.ae.length))) (C':=[_,_,_,_,_,_,_,_,_,_,_,_,_,_,_,(own (some ⟨B,0,none⟩) l.ae.length 58 1 (List.map oC (eu (fb++[J]) l.ae.length)))]) 15 U U U NH U U U U hx41m U dc (by exact (List.map_set (f:=oC) (l:=(eu fb l.ae.length)) (i:=b) (a:=(some J))).symm.trans (congrArg _ A5)) U<|aG<|aH<|KK AW<|ao<|rP 2 [] I ?_
  refine aG<|Cu (X':=aS q8 (List.replicate (b+1) ([]:TM)) (fb++[J])) 12 0 U U (NB Y) ?_
  try dsimp only
  have A6:(vI (((b+1):Nat):Int))=(vI ((b:Int)+1)):=by exact cI om
  refine aW (AK ⟨((b+1),e,g,(fb++[J])),⟨om,by simp; omega⟩⟩ _ _ _ U os (cW 8<|bx U A6<|dB.nil _) (aL [2,3,4,5,6,7,8,9,10,11,0,12,13,14]))
 refine bE<|ag<|ag<|aA<|KK AR<|al fun _ AZ=>WS fun _ Aa=>rP 4 [] (mc 1 U I) ?_
 refine RK Aa<|ay ?_
 rw [show (List.replicate b ([]:TM))=dZ l r.ak 0 from by rw [Ev,show b=l.ae.length by omega]]
 rw [show cQ l b=cQ l l.ae.length from by rw [show b=l.ae.length by omega]]
 have E:(0≤r.ak.length)∧(qz l r.ak 0):=by exact ⟨Nat.zero_le _,ye⟩
 refine bS (ι:={z:Nat // (z≤r.ak.length)∧(qz l r.ak z)}) [2,3,4,6,7,9,10,83,84] [1,2,3,4,5,6,7,8,9,11,12,13] U U (fun z=>[(85,(vI (z.1:Int)))]) (fun z=>[(bY V 131 (aO.cells (mA r.ak z.1))),(bq (aS q8 (dZ l r.ak z.1) fb))]) (fun _=>rfl) (fun _=>rfl) (fun z=>r.ak.length-z.1) ⟨0,E⟩ (aV U) (aL [1,2,3,4,5,6,7,8,9,11,12,13,0,10]) ?_
 clear E
 rintro ⟨i,⟨BP,A⟩⟩ J46 T
 try dsimp only
 have Bj:(dZ l r.ak i).length=l.ae.length:=jd
 have Bi:(eu fb l.ae.length).length=l.ae.length:=qF om
 refine WS fun _ Ab=>rP 1 [] I ?_
 refine RK Ab<|al fun _ Ac=>bV U (aR fun BY=>?_) (aP fun BY=>?_)
 ·refine bE<|ag<|ag<|aA<|KK AZ<|al fun _ Am=>al fun _ An=>?_
  have j:ff l r:=Cn om om A om
  refine ao<|bo 3 U<|RK An<|ay<|jI 2<|eo fun R81 Ax=>WS fun _ Ao=>rS (SX (bZ (r:= .bool true) U U U gO) U U)<|RK Ao<|al fun _ Ap=>aQ U<|WK Ap<|al fun _ Aq=>ay<|WS fun _ Ar=>rS (Te 0 0 U Ov U dc U)<|fD 2 [] (mr 8 U I) U<|RK Ar<|WS fun _ As=>bo 1 U<|rS (SX (rF U U U (hf) (bp [7])) U U)<|bo 1 U<|RK As<|WS fun _ At=>rP 2 [] I ?_
  refine RK At<|cO U (bh fun K=>?_) (bg fun K=>?_)
  ·refine WS fun _ Au=>rP 3 [] I ?_
   refine RK Au<|aq<|LX hQ (false,me,0,none,0,none,0,[],[],[],none,0,[],[],none,0) [] [] I U (by rfl) U U ?_
   exact q_<|HZ (qc C j K) K
  refine cp<|aH<|KK Aq<|ao<|rS (SX (bZ (r:= .int .i64 1) U U U (g8 ⟨dc,dc⟩)) U U)<|rP 1 [] I ?_
  refine RK Ax<|eo fun R89 Bq=>WS fun _ Av=>rS (SX (bZ (r:= .bool false) U U U gO) U U)<|RK Av<|al fun _ Bp=>aX U<|bE<|ag<|ag<|aA<|KK Am<|al fun _ Aw=>?_
  rw [show dZ l r.ak i=dZ l r.ak r.ak.length from by rw [show i=r.ak.length by omega]]
  have AE:(dZ l r.ak r.ak.length).length=l.ae.length:=jd
  rw [show (List.map oC (eu fb l.ae.length))=(List.zipWith gD (dZ l r.ak r.ak.length) fb) from Tv om AE]
  rw [show (bY Bt 270 (cb.cells (cb.mk (lh l kA kC cA cC bA bC) (mo r sgA sgC) (aN.mk a ((cQ l l.ae.length).length) c) (aN.mk (some ⟨B,0,none⟩) l.ae.length l.ae.length) (aN.mk none 0 0) (aN.mk none 0 0))))=(bY Bt 270 (cb.cells (cb.mk (lh l kA kC cA cC bA bC) (mo r sgA sgC) (aN.mk a ((cQ l l.ae.length).length) c) (aN.mk (some ⟨B,0,none⟩) ((dZ l r.ak r.ak.length).length) l.ae.length) (aN.mk none 0 0) (aN.mk none 0 0)))) from by rw [AE]]
  have BL:=ov BK d j
  have Br:(cQ l l.ae.length).length=l.ae.length:=ek
  refine ao<|rP 1 [] I ?_
  refine iI 10 U U U U (JV (lh l kA kC cA cC bA bC) (mo r sgA sgC) (cQ l l.ae.length) (dZ l r.ak r.ak.length) a c fb (some ⟨B,0,none⟩) l.ae.length Bt (by exact BL) (by exact ek.symm) (by rw [AE]; omega)) U (d_ 9 U U (j1 sm) (d_ 11 U U (j1 (by rw [List.length_zipWith]; omega)) (d_ 13 U U s8 kb))) U (fun BN Bg=>?_)
  obtain ⟨G,S,P,R,F,O,N,H⟩:=BN
  refine NC (X:=[(bY Bt 270 (cb.cells (cb.mk (lh l kA kC cA cC bA bC) (mo r sgA sgC) (aN.mk a ((cQ l l.ae.length).length) c) (aN.mk (some ⟨B,0,none⟩) ((dZ l r.ak r.ak.length).length) l.ae.length) (aN.mk P G.length R) (aN.mk N F.length H)))),(own P R 274 1 (List.zipWith gD G S)),(bq (aS nG G S)),(own N H 274 1 (List.zipWith gD F O)),(bq (aS nG F O))]) 10 U U ?_
  try dsimp only
  obtain ⟨AD,BG,BH,BJ⟩:=Bg
  dsimp only at AD BG BH BJ
  refine RK Aw<|al fun _ v=>WS fun _ w=>rP 1 [] I ?_
  refine cX (Gj (lh l kA kC cA cC bA bC) (mo r sgA sgC) (cQ l l.ae.length) (dZ l r.ak r.ak.length) a c fb (some ⟨B,0,none⟩) l.ae.length G F S P R O N H Bt (by exact BL) (by (simp; omega)) (by exact ek.symm) (by exact AD) asm) (aw (aj (n:=(cQ l l.ae.length).length) 14 U sm)<|aw (aj (n:=(dZ l r.ak r.ak.length).length) 15 U (by rw [List.length_zipWith]; omega))<|aw (dR 17 U xI)<|aw (aj (n:=G.length) 1 U (by rw [List.length_zipWith]; omega))<|aw (dR 2 U xI)<|aw (aj (n:=F.length) 3 U (by rw [List.length_zipWith]; omega))<|aw (dR 4 U xI)<|fG 0 U U<|aK) U fun BO Bl=>?_
  obtain ⟨Bn,Bo⟩:=BO
  try dsimp only
  refine rP 2 [] I ?_
  refine RK w<|bV U (aR fun W=>?_) (aP fun W=>?_)
  ·refine WK v<|WS fun _ AA=>rP 3 [] I ?_
   refine RK AA<|aq ?_
   refine LX hQ (true,0,Bt,a,c,(some ⟨B,0,none⟩),l.ae.length,fb,G,S,P,R,F,O,N,H) [1,15,16,18,2,3,4,5] [] I U (by (show List.all _ _=true; simp only [cond_true,fH,List.all_nil,Lq,RQ,Bool.and_true]; rfl)) U U ?_
   exact ⟨fun _=>⟨lM C j (by first|rfl|exact K) (fun q=>W (congrArg (fun z:List Int=>(z.length:Int)) q)),AD,BG,BH,BJ,dso⟩,Np⟩
  refine WS fun _ y=>rP 2 [] I ?_
  refine RK y<|aq<|LX hQ (false,8,0,none,0,none,0,[],[],[],none,0,[],[],none,0) [] [] I U (by rfl) U U ?_
  exact q_<|pM (pt (me:=me) C j (by first|rfl|exact K) (show ju (cr l r)=[] from jv (Int.natCast_eq_zero.1 W)))
 refine WK Ac<|al fun _ Bs=>ay<|WS fun _ Ad=>rP 1 [] I ?_
 obtain ⟨x,hx⟩:=aM r.ak i om
 have Bk:=bL aO.cells hx
 refine rS (IA i U (aD 6 U) zO dc om om)<|rS (ot i 0 (aO.cells x) U cd (aD 6 U) Bk U dc U U)<|AL U EK fun Bv=>bo 1 U<|fQ U wb U<|RK Ad<|al fun _ p=>WS fun _ L=>rP 6 [0,1] (mc 2 U (mc 0 U I)) ?_
 refine cZ (xs:=[.tmp 95]) (cs:=[(vI x.gh)]) U cx i_ U U U U (by simp [Value.cells]) U U fun BS=>?_
 refine rS (CL (eg.eq (iH 0 ((l.ae.length:Int)-1) ([x.gh]) (some ⟨BS,0,none⟩) 1 (by (simp; done))) cU) (aw (a_ 0 U U (by simp [bK]) U)<|aK) U) ?_
 refine rP 2 [] I ?_
 refine ct (t:=99) U (bh fun BZ=>?_) (bg fun BZ=>?_)
 ·refine bo 27 U<|RK L<|aQ U<|WS fun _ Ae=>rP 2 [] I ?_
  refine RK Ae<|aq<|LX hQ (false,51,0,none,0,none,0,[],[],[],none,0,[],[],none,0) [] [] I U (by rfl) U U ?_
  exact q_<|pM (iX (me:=me) C (vr hx (by unfold j2 k7; omega)))
 refine rP 2 [] (mc 1 U I) ?_
 refine cZ (xs:=[.tmp 101]) (cs:=[(vI x.Read)]) U cx i_ U U U U (by simp [Value.cells]) U U fun BT=>?_
 refine rS (CL (eg.eq (iH 0 86400000 ([x.Read]) (some ⟨BT,0,none⟩) 1 (by (simp; done))) cU) (aw (a_ 0 U U (by simp [bK]) U)<|aK) U) ?_
 refine rP 3 [] I ?_
 refine ct (t:=106) U (bh fun AF=>?_) (bg fun AF=>?_)
 ·refine bo 20 U<|RK L<|aQ U<|WS fun _ Af=>rP 2 [] I ?_
  refine RK Af<|aq<|LX hQ (false,51,0,none,0,none,0,[],[],[],none,0,[],[],none,0) [] [] I U (by rfl) U U ?_
  exact q_<|pM (iX (me:=me) C (vr hx (by unfold j2 k7; omega)))
 refine rP 7 [0,1] (mc 2 U (mc 15 U I)) ?_
 refine ct (t:=113) U (aP fun AH=>?_) (aR fun AH=>?_)
 ·refine bo 13 U<|RK L<|aQ U<|WS fun _ Ag=>rP 2 [] I ?_
  refine RK Ag<|aq<|LX hQ (false,51,0,none,0,none,0,[],[],[],none,0,[],[],none,0) [] [] I U (by rfl) U U ?_
  exact q_<|pM (iX (me:=me) C (vr hx (by unfold j2 k7; omega)))
 refine rP 6 [0,1] (mc 2 U (mc 15 U I)) ?_
 refine ck (t:=119) U (aR fun AI=>?_) (aP fun AI=>?_)
 ·refine bo 7 U<|RK L<|aX U<|WK p<|al fun _ u=>WS fun _ Ak=>fD 2 [0,1] (mc 4 U (mc 2 U I)) U<|rS (CL (Kv l kA kC az cA cC bA bC x hin asm om) (bp [5,6,7,8]) U)<|AL U dg fun Bx=>fQ U cu U<|RK Ak<|WS fun _ Al=>rP 5 [] (mc 0 U I) ?_
  refine RK Al<|bV U (aR fun D=>?_) (aP fun D=>?_)
  ·refine WK u<|ao<|rP 1 [] (mc 3 U I) ?_
   refine jg (vs:=(aO.cells x)) (cs':=(aO.cells x)) (C':=[_,_,_,_,_,_,_,_,_,_,_,_,_,_,_,_,(bY V 131 (aO.cells x)),_]) 16 U U U wb U U U U U U U<|aG<|aH<|KK Bs ?_
   have BC:(aO.cells x)=(aO.cells (mA r.ak (i+1))):=by rw [o5 hx]
   rw [BC]
   refine ao<|rP 2 [] I ?_
   refine aG ?_
   rw [show (dZ l r.ak i)=(dZ l r.ak (i+1)) from (v7 hx D).symm]
   have BD:(vI (((i+1):Nat):Int))=(vI ((i:Int)+1)):=by exact cI om
   refine aW (T ⟨(i+1),⟨om,lK A hx (by unfold j2 k7; omega)⟩⟩ _ _ _ U os (cW 9<|bx U BD<|dB.nil _) (aL [4,5,6,7,8,9,10,11,12,13,14,15,16,17]))
  obtain ⟨mb,Z⟩:=aM (dZ l r.ak i) ((x.gh).toNat) om
  obtain ⟨ga,M⟩:=aM fb ((x.gh).toNat) om
  refine FW 17 Z M U U U ?_
  try dsimp only
  refine dq cy 10 kr<|km 1 U<|dS (SX (bO U U) U U)<|dP 4 [0,1] (mc 16 U (mc 5 U I)) ?_
  have BF:(List.map oC (eu fb l.ae.length))[(x.gh).toNat]? =some (oC (some ga)):=rf (oy M)
  refine dS (IA ((x.gh).toNat) U (aj (n:=l.ae.length) 17 U sq) FT dc om om) ?_
  refine dS (fY ((x.gh).toNat) 0 (Value.map (some ga)) U cd (aj (n:=(eu fb l.ae.length).length) 17 U sm) BF U dc U)<|mu 2 [] (mc 2 U I) U<|cL<|jW (kV:=iV) (x:=(i:Int)) (C':=[(ik iV ga (bT dV (eT mb (i:Int) (cK l x)))),_,_,_,_,_,_,_,_,_,_,_,_,_,_,_,_,_,_]) 0 U U U U nK (eL pK) U (ia _ _ _ _).symm U<|RK u<|ao<|rP 1 [] (mc 5 U I) ?_
  refine jg (vs:=(aO.cells x)) (cs':=(aO.cells x)) (C':=[_,_,_,_,_,_,_,_,_,_,_,_,_,_,_,_,_,_,(bY V 131 (aO.cells x))]) 18 U U U wb U U U U U U U<|aG<|aH<|KK Bs ?_
  have BA:(aO.cells x)=(aO.cells (mA r.ak (i+1))):=by rw [o5 hx]
  rw [BA]
  refine ao<|rP 2 [] I ?_
  refine aG ?_
  refine I7 (f:=q8) (ms:=(dZ l r.ak i)) (m:=(eT mb (i:Int) (cK l x))) 1 0 (by rw [jd]; omega) M U U U ?_
  rw [yf hx om D Z]
  have BB:(vI (((i+1):Nat):Int))=(vI ((i:Int)+1)):=by exact cI om
  refine aW (T ⟨(i+1),⟨om,lK A hx (by unfold j2 k7; omega)⟩⟩ _ _ _ U os (cW 9<|bx U BB<|dB.nil _) (aL [5,6,7,8,9,10,11,12,13,14,15,16,17,0]))
 refine rP 7 [0,1] (mc 2 U (mc 15 U I)) ?_
 refine RK L<|cO U (aP fun AJ=>?_) (aR fun AJ=>?_)
 ·refine WS fun _ Ah=>rP 2 [] I ?_
  refine RK Ah<|aq<|LX hQ (false,51,0,none,0,none,0,[],[],[],none,0,[],[],none,0) [] [] I U (by rfl) U U ?_
  exact q_<|pM (iX (me:=me) C (vr hx (by unfold j2 k7; omega)))
 refine WK p<|al fun _ s=>WS fun _ Ai=>fD 2 [0,1] (mc 4 U (mc 2 U I)) U<|rS (CL (Kv l kA kC az cA cC bA bC x hin asm om) (bp [5,6,7,8]) U)<|AL U dg fun Bw=>fQ U cu U<|RK Ai<|WS fun _ Aj=>rP 5 [] (mc 0 U I) ?_
 refine RK Aj<|bV U (aR fun D=>?_) (aP fun D=>?_)
 ·refine WK s<|ao<|rP 1 [] (mc 3 U I) ?_
  refine jg (vs:=(aO.cells x)) (cs':=(aO.cells x)) (C':=[_,_,_,_,_,_,_,_,_,_,_,_,_,_,_,_,(bY V 131 (aO.cells x)),_]) 16 U U U wb U U U U U U U<|aG<|aH<|KK Bs ?_
  have A9:(aO.cells x)=(aO.cells (mA r.ak (i+1))):=by rw [o5 hx]
  rw [A9]
  refine ao<|rP 2 [] I ?_
  refine aG ?_
  rw [show (dZ l r.ak i)=(dZ l r.ak (i+1)) from (v7 hx D).symm]
  have A_:(vI (((i+1):Nat):Int))=(vI ((i:Int)+1)):=by exact cI om
  refine aW (T ⟨(i+1),⟨om,lK A hx (by unfold j2 k7; omega)⟩⟩ _ _ _ U os (cW 9<|bx U A_<|dB.nil _) (aL [4,5,6,7,8,9,10,11,12,13,14,15,16,17]))
 obtain ⟨mb,Z⟩:=aM (dZ l r.ak i) ((x.gh).toNat) om
 obtain ⟨ga,M⟩:=aM fb ((x.gh).toNat) om
 refine FW 17 Z M U U U ?_
 try dsimp only
 refine dq cy 10 kr<|km 1 U<|dS (SX (bO U U) U U)<|dP 4 [0,1] (mc 16 U (mc 5 U I)) ?_
 have BE:(List.map oC (eu fb l.ae.length))[(x.gh).toNat]? =some (oC (some ga)):=rf (oy M)
 refine dS (IA ((x.gh).toNat) U (aj (n:=l.ae.length) 17 U sq) FT dc om om) ?_
 refine dS (fY ((x.gh).toNat) 0 (Value.map (some ga)) U cd (aj (n:=(eu fb l.ae.length).length) 17 U sm) BE U dc U)<|mu 2 [] (mc 2 U I) U<|cL<|jW (kV:=iV) (x:=(i:Int)) (C':=[(ik iV ga (bT dV (eT mb (i:Int) (cK l x)))),_,_,_,_,_,_,_,_,_,_,_,_,_,_,_,_,_,_]) 0 U U U U nK (eL pK) U (ia _ _ _ _).symm U<|RK s<|ao<|rP 1 [] (mc 5 U I) ?_
 refine jg (vs:=(aO.cells x)) (cs':=(aO.cells x)) (C':=[_,_,_,_,_,_,_,_,_,_,_,_,_,_,_,_,_,_,(bY V 131 (aO.cells x))]) 18 U U U wb U U U U U U U<|aG<|aH<|KK Bs ?_
 have A7:(aO.cells x)=(aO.cells (mA r.ak (i+1))):=by rw [o5 hx]
 rw [A7]
 refine ao<|rP 2 [] I ?_
 refine aG ?_
 refine I7 (f:=q8) (ms:=(dZ l r.ak i)) (m:=(eT mb (i:Int) (cK l x))) 1 0 (by rw [jd]; omega) M U U U ?_
 rw [yf hx om D Z]
 have A8:(vI (((i+1):Nat):Int))=(vI ((i:Int)+1)):=by exact cI om
 refine aW (T ⟨(i+1),⟨om,lK A hx (by unfold j2 k7; omega)⟩⟩ _ _ _ U os (cW 9<|bx U A8<|dB.nil _) (aL [5,6,7,8,9,10,11,12,13,14,15,16,17,0]))
end
section
open Go.RowKit
theorem IB (l:bf) (kA:OA) (kC:Nat) (az:List RA) (cA:OA) (cC:Nat) (bA:OA) (bC:Nat) (r:cE) (sgA:OA) (sgC:Nat) (bq_:Int) (hin:eB l az) (hsl:r.ak.length≤1000000):
 eg Tryz.prog 196 [(vA (bJ.cells (lh l kA kC cA cC bA bC))),(vA (eG.cells (mo r sgA sgC))),(vI bq_)] [(rd kA l.aI.length 9 (l.aI.map an.cells)),(rd cA l.ai.length 2 (List.zipWith au.cells l.ai az)),(e9 (aS au.gW l.ai az)),(rd bA l.ae.length 4 (l.ae.map bG.cells)),(rd sgA r.ak.length 2 (r.ak.map aO.cells))] (vT [(vA (aa.cells (eY l r bq_))),(vI (eO l r bq_))]):=by
 have A2:=hin.sf
 have Av:=hin.sh
 have Aq:=hin.oq
 have At:=hin.se
 have A0:=hin.side
 refine bI kr Tryz.func196 U U fun w0 Q hQ hN=>?_
 try dsimp only
 refine WS fun _ AF=>fR U fun b2=>fR U fun b3=>uh U U fun b4=>AL U dg fun b5=>bo 1 U<|RK AF<|WS fun _ p=>rP 2 [0,1] (mc 3 U (mc 2 U I)) ?_
 refine rS (FU U)<|cZ (xs:=[.tmp 17]) (cs:=[(Value.func (.func 198) [].toArray [(vP b2),(vP b4)].toArray)]) U Ov Sw U U U U (by simp [Value.cells]) U U fun b7=>cX (MT l kA kC az cA cC bA bC r sgA sgC (Value.func (.func 198) [].toArray [(vP b2),(vP b4)].toArray) (e9 [(rd kA l.aI.length 9 (l.aI.map an.cells)),(rd cA l.ai.length 2 (List.zipWith au.cells l.ai az)),(e9 (aS au.gW l.ai az)),(rd bA l.ae.length 4 (l.ae.map bG.cells)),(bY b2 28 (bJ.cells (lh l kA kC cA cC bA bC))),(bY b4 3 [(vI bq_)])]) (jz l bq_) b7 (by exact ny (fi:=[]) (ca:=[(vP b2),(vP b4)]) (lU (D6 l kA kC az cA cC bA bC b2 bq_ b4 (by first|assumption|omega)) (bp [0,1,2,3,4,5]))) hin hsl) (lO [5,6,7,8,9]<|aw (lW (bp [5,6,7,8,4,2]))<|fG 0 U U<|aK) U fun y8 AW=>?_
 obtain ⟨AX,Al,E,H,AD,g,j,m,B,L,J,K,A,G,d,f⟩:=y8
 cases AX
 ·obtain ⟨AS,he⟩:=AW.2 rfl
  try dsimp only at AS he
  subst AS
  try dsimp only [cond_true,cond_false,List.cons_append,List.nil_append]
  refine bo 5 U<|RK p<|al fun _ Am=>WS fun _ AO=>rP 2 [] I ?_
  refine RK AO<|bV U (bg fun AN=>?_) (bh fun AN=>?_)
  ·exact absurd AN he
  refine WS fun _ AP=>rS (SX (bj (xs:=[]) (cs:=(aa.cells (aa.mk 0 0))) U U (bk gj U)) U U)<|bo 1 U<|tw U cu U<|rP 1 [] I ?_
  refine RK AP<|aq<|lg hQ [0] (mc 1 U I) U ?_
  (have e:=ni (b:=bq_) he; rw [e.1,e.2]<;>rfl)
 obtain ⟨he,D,C,Ab,Aa,Ae⟩:=AW.1 rfl
 try dsimp only [cond_true,cond_false,List.cons_append,List.nil_append]
 dsimp only at D C Ab Aa Ae
 obtain ⟨AZ,AJ,Ad,Ax⟩:=jM he
 obtain ⟨Af,AU⟩:=gE AZ
 have Ac:=AU.head
 unfold gi at Ac
 have Ag:=ov Af AU AJ
 have Az:=AJ.time
 have Ay:=AJ.len
 have AT:(cQ l l.ae.length).length=l.ae.length:=ek
 have AV:(dZ l r.ak r.ak.length).length=l.ae.length:=jd
 have Aw:B.length=l.ae.length+1:=by have:=D.len; rw [show (cr l r).n=l.ae.length from ek] at this; exact this
 have Au:A.length=l.ae.length+1:=by have:=C.len; rw [show (cr l r).n=l.ae.length from ek] at this; exact this
 obtain ⟨Ar,As⟩:=Ew Ad
 obtain ⟨b,AG⟩: ∃ b:Nat,bq_=(b:Int):=⟨bq_.toNat,om⟩
 rw [AG]
 refine bo 5 U<|RK p<|al fun _ N=>WS fun _ O=>bo 1 U<|rS (SX (bZ (r:= .bool false) U U U ig) U U)<|RK O<|aX U<|WK N<|WS fun _ P=>rS (SX (bj (xs:=[(0,.const (vI 1))]) (cs:=(aa.cells (aa.mk 1 0))) U U (bk gj U)) U U)<|AL U dg fun AK=>fQ U cu U<|RK P<|WS fun _ R=>fD 1 [] (mc 0 U I) U<|AL U dg fun AM=>fQ U cu U<|RK R<|al fun _ T=>WS fun _ AC=>rP 2 [] (mc 12 U I) ?_
 obtain ⟨mf,Y⟩:=aM B b om
 obtain ⟨mb,Z⟩:=aM A (b+1) om
 refine cX (ID E b) (aK) U fun Ai An=>?_
 obtain ⟨AA,AB⟩:=Ai
 try dsimp only
 refine RK AC<|ay ?_
 refine nx (L0:=[(3,(vP b2)),(4,(vP b3)),(5,(vP b4)),(6,(vP b5)),(7,(vI 0)),(10,(vP AK)),(11,(vP AM))]) (F:=[(own H AD 3 1 ((cQ l l.ae.length).map iC)),(own g j 58 1 (List.zipWith gD (dZ l r.ak r.ak.length) m)),(bq (aS q8 (dZ l r.ak r.ak.length) m)),(own J K 274 1 (List.zipWith gD B L)),(bq (aS nG B L)),(own d f 274 1 (List.zipWith gD A G)),(bq (aS nG A G)),(bY E 270 (cb.cells (cb.mk (lh l kA kC cA cC bA bC) (mo r sgA sgC) (aN.mk H ((cQ l l.ae.length).length) AD) (aN.mk g ((dZ l r.ak r.ak.length).length) j) (aN.mk J B.length K) (aN.mk d A.length f)))),(bY AA 259 [(vP E)]),(bY AB 3 [(vI (b:Int))])]) (fun k (y:aa)=>(j3 k y)∧(∀ q∈k,q∈pI (cr l r) b mf mb)) (fun k y=>[(bY AM 38 (aa.cells y)),(bY AK 38 (aa.cells (aa.mk 1 0))),(bY b5 38 (aa.cells (aa.mk 0 0))),(bY b4 3 [(vI (b:Int))]),(bY b3 44 (eG.cells (mo r sgA sgC))),(bY b2 28 (bJ.cells (lh l kA kC cA cC bA bC))),(rd kA l.aI.length 9 (l.aI.map an.cells)).ro,(rd cA l.ai.length 2 (List.zipWith au.cells l.ai az)).ro,(e9 (aS au.gW l.ai az)).ro,(rd bA l.ae.length 4 (l.ae.map bG.cells)).ro,(rd sgA r.ak.length 2 (r.ak.map aO.cells)).ro]) (fun _ (_:Unit)=>False) (fun _ _=>[]) [2,3,13,14,15,16,17,18,19,20,21] [5,6,7,8,9,10,11,4,0,1] mg rfl rfl (GL (lh l kA kC cA cC bA bC) (mo r sgA sgC) (cQ l l.ae.length) (dZ l r.ak r.ak.length) H AD m g j B A L J K G d f E b AA AB mf mb (by rw [AT]; omega) (by exact Ag) (by rw [AV]; omega) (by exact D) om (by exact C) om (by show r.ak.length≤1000; omega) (by exact Y) (by exact Z)) rfl rfl rfl (by exact ⟨Bi,fun q hq=>by cases hq⟩) (by simp only [List.forall_mem_cons,List.not_mem_nil,false_imp_iff,implies_true,and_true]; exact ⟨⟨_,aU (i:=0) rfl,(j1 sm)⟩,⟨_,aU (i:=1) rfl,(j1 (by rw [List.length_zipWith]; omega))⟩,⟨_,aU (i:=2) rfl,s8⟩,⟨_,aU (i:=3) rfl,(j1 (by rw [List.length_zipWith]; omega))⟩,⟨_,aU (i:=4) rfl,s8⟩,⟨_,aU (i:=5) rfl,(j1 (by rw [List.length_zipWith]; omega))⟩,⟨_,aU (i:=6) rfl,s8⟩,⟨_,aU (i:=7) rfl,(bQ _)⟩,⟨_,aU (i:=8) rfl,(bQ _)⟩,⟨_,aU (i:=9) rfl,(bQ _)⟩⟩) (by rintro k x k2 ⟨o,_,rfl,_⟩; rfl) rfl (aV rfl) ?_ ?_ (fun _ _ _ h=>h.elim) (fun _ _ h=>h.elim)
 ·rintro k x k2 h lr ra rb S w1 K41 Qr42 A1 hx AH AQ X Ah Aj
  obtain ⟨q,hq,rfl,rfl⟩:=hx
  obtain ⟨a,c⟩:=AH
  try dsimp only
  refine ao<|AL U dg fun Ao=>fQ U cu U<|aG<|iZ (fun _ _ h=>h) (aL [1,0,2,3,4,5,6,7,8,9,10,11,12])<|aW (AQ _ _ ?_)
  refine ay<|al fun _ s=>WS fun _ AR=>rP 2 [0,1] (mc 2 U (mc 3 U I)) ?_
  refine rS (BI U (Ow _ _ h (aa.mk 1 0)))<|RK AR<|bV U (bg fun M=>?_) (bh fun M=>?_)
  ·refine WK s<|ao<|rP 1 [] (mc 1 U I) ?_
   refine Gl U cu U<|aG<|aH ?_
   exact X q.2 _ _ (by refine ⟨zh a (mL hq) ?_,fun z hz=>?_⟩; (first|exact if_neg M|exact if_pos M); (rcases List.mem_append.1 hz with hz|hz; exact c z hz; (rw [List.mem_singleton.1 hz]; exact hq))) (aL [0,2,3,4,5,6,7,8,9,10,11,12])
  refine ao<|fD 4 [0,1] (mc 1 U (mc 2 U I)) U<|rS (MN U)<|fD 4 [0,1] (mc 1 U (mc 2 U I)) U<|rS (MX U)<|rS (SX (bj (xs:=[(0,.tmp 40),(1,.tmp 45)]) (cs:=(aa.cells (aa.mk (min q.2.Lo h.Lo) (max q.2.Hi h.Hi)))) U U (bk gj U)) U U)<|tw U cu U<|RK s<|ao<|rP 1 [] (mc 1 U I) ?_
  refine Gl U cu U<|aG<|aH ?_
  exact X (aa.mk (min q.2.Lo h.Lo) (max q.2.Hi h.Hi)) _ _ (by refine ⟨zh a (mL hq) ?_,fun z hz=>?_⟩; (first|exact if_neg M|exact if_pos M); (rcases List.mem_append.1 hz with hz|hz; exact c z hz; (rw [List.mem_singleton.1 hz]; exact hq))) (aL [0,2,3,4,5,6,7,8,9,10,11,12])
 rintro A4 k h v AI
 obtain ⟨a,c⟩:=AI
 try dsimp only
 refine aH<|KK T<|al fun _ V=>WS fun _ W=>rP 2 [0,1] (mc 11 U (mc 12 U I)) ?_
 refine rS (BI U (sv _ _ h (aa.mk 1 0)))<|RK W<|bV U (aR fun AE=>?_) (aP fun AE=>?_)
 ·refine WK V<|WS fun _ u=>fD 1 [] (mc 11 U I) U<|jg (vs:=(aa.cells h)) (cs':=(aa.cells h)) (C':=[_,_,_,_,_,_,_,_,_,_,_,_,_,(bY b5 38 (aa.cells h)),_,_,_,_,_,_,_,_]) 13 U U U cu U U U U U U U<|rP 1 [] I ?_
  refine RK u<|aq<|hQ _ _ _ (oi 0 U U<|gV (vs:=[(vA (aa.cells h)),(vI 0)]) ⟨⟨_,U,.inl ⟨_,_,cd,pz (vs:=(aa.cells h)) 13 U U,U,U⟩⟩,U,trivial⟩ fun w hs=>Eo ?_ hs)
  show (vT [(vA (aa.cells h)),(vI 0)])=(vT [(vA (aa.cells (eY l r bq_))),(vI (eO l r bq_))])
  clear hs w hQ hN u W V AC T R P O N p AF
  (rw [AG] at he ⊢; have hh:h=mh l r b:=yZ (D.min _ _ Y) (C.max _ _ Z) (D.keys _ _ Y) (C.keys _ _ Z) c v a; (have e:=nU he (fun q=>AE (hh.trans q)); rw [e.1,e.2,hh]<;>rfl))
 refine WS fun _ t=>rS (SX (bj (xs:=[]) (cs:=(aa.cells (aa.mk 0 0))) U U (bk gj U)) U U)<|jg (vs:=(aa.cells (aa.mk 0 0))) (cs':=(aa.cells (aa.mk 0 0))) (C':=[_,_,_,_,_,_,_,_,_,_,_,_,_,(bY b5 38 (aa.cells (aa.mk 0 0))),_,_,_,_,_,_,_,_]) 13 U U U cu U U U U U U U<|rP 1 [] I ?_
 refine RK t<|aq<|hQ _ _ _ (oi 0 U U<|gV (vs:=[(vA (aa.cells (aa.mk 0 0))),(vI 6)]) ⟨⟨_,U,.inl ⟨_,_,cd,pz (vs:=(aa.cells (aa.mk 0 0))) 13 U U,U,U⟩⟩,U,trivial⟩ fun w hs=>Eo ?_ hs)
 show (vT [(vA (aa.cells (aa.mk 0 0))),(vI 6)])=(vT [(vA (aa.cells (eY l r bq_))),(vI (eO l r bq_))])
 clear hs w hQ hN t W V AC T R P O N p AF
 (rw [AG] at he ⊢; have hh:h=mh l r b:=yZ (D.min _ _ Y) (C.max _ _ Z) (D.keys _ _ Y) (C.keys _ _ Z) c v a; (have e:=qq he (hh.symm.trans AE); rw [e.1,e.2]<;>rfl))
theorem Q0 (l:bf) (kA:OA) (kC:Nat) (az:List RA) (cA:OA) (cC:Nat) (bA:OA) (bC:Nat) (r:cE) (sgA:OA) (sgC:Nat) (hin:eB l az) (hsl:r.ak.length≤1000000):
 eg Tryz.prog 195 [(vA (bJ.cells (lh l kA kC cA cC bA bC))),(vA (eG.cells (mo r sgA sgC)))] [(rd kA l.aI.length 9 (l.aI.map an.cells)),(rd cA l.ai.length 2 (List.zipWith au.cells l.ai az)),(e9 (aS au.gW l.ai az)),(rd bA l.ae.length 4 (l.ae.map bG.cells)),(rd sgA r.ak.length 2 (r.ak.map aO.cells))] (vT [(vA (aa.cells (zY l r))),(vI (eO l r l.bH))]):=by
 have N:=hin.sf
 have J:=hin.sh
 have H:=hin.oq
 have AA:=hin.se
 have M:=hin.side
 refine bI kr Tryz.func195 U U fun T Q hQ hN=>?_
 try dsimp only
 refine WS fun _ C=>fR U fun O=>fR U fun P=>AL U dg fun R=>bo 1 U<|RK C<|WS fun _ D=>fD 4 [0,1] (mc 2 U (mc 1 U I)) U<|rS (CL (IB l kA kC az cA cC bA bC r sgA sgC l.bH hin hsl) (bp [3,4,5,6,7]) U)<|bo 3 U<|AL U dg fun S=>fQ U cu U<|bo 1 U<|RK D<|al fun _ E=>WS fun _ F=>rP 2 [] I ?_
 refine RK F<|cO U (bh fun A=>?_) (bg fun A=>?_)
 ·refine WS fun _ G=>rS (SX (bj (xs:=[]) (cs:=(aa.cells (aa.mk 0 0))) U U (bk gj U)) U U)<|bo 1 U<|tw U cu U<|rP 1 [] I ?_
  refine RK G<|aq<|lg hQ [0] (mc 1 U I) U ?_
  (rw [Ef A]<;>rfl)
 refine WK E<|WS fun _ B=>rP 4 [0,1] (mc 0 U (mc 2 U I)) ?_
 have K:=w9 A
 have L:=(uK A).time
 refine fD 6 [0,1] (mc 0 U (mc 2 U I)) U<|rS (SX (bj (xs:=[(0,.tmp 24),(1,.tmp 29)]) (cs:=(aa.cells (aa.mk (((eY l r l.bH).Lo)-r.Start) (((eY l r l.bH).Hi)-r.Start)))) U U (bk gj U)) U U)<|tw U cu U<|rP 1 [] I ?_
 refine RK B<|aq<|lg hQ [0] (mc 1 U I) U ?_
 (rw [zx A,A]<;>rfl)
end
section
open Go.RowKit
theorem MD (l:bf) (kA:OA) (kC:Nat) (az:List RA) (cA:OA) (cC:Nat) (bA:OA) (bC:Nat) (d:ax) (sgA:OA) (sgC:Nat) (hin:eB l az):
 eg Tryz.prog 189 [(vA (bJ.cells (lh l kA kC cA cC bA bC))),(vA (bu.cells (bu.mk d.Out d.eK d.Time (mo d.cz sgA sgC))))] [(rd kA l.aI.length 9 (l.aI.map an.cells)),(rd cA l.ai.length 2 (List.zipWith au.cells l.ai az)),(e9 (aS au.gW l.ai az)),(rd bA l.ae.length 4 (l.ae.map bG.cells)),(rd sgA d.cz.ak.length 2 (d.cz.ak.map aO.cells))] (vT [(vA (aa.cells d.Time)),(vB (decide (d.eK=false∧d.Time=dA∧l9 d.cz)))]):=by
 refine bI kr Tryz.func189 U U fun K Q hQ hN=>?_
 try dsimp only
 refine WS fun _ B=>fR U fun H=>fR U fun AA=>AL U dg fun J=>rP 1 [] I ?_
 refine RK B<|al fun _ A=>dL cy [15] [] [] [1,2,3,4,5,6,7] [] U U U U U<|eS U (FA 2 U fB U)<|eS U (LP (aa.cells d.Time) 0 U cd U U U)<|eS U (FA 1 U fB U)<|eS U (L1 (vB d.eK) 0 U cd U U)<|eS U (NT U)<|eS U (MV U)<|qR (t:=11) U (fun G=>?_) (fun G=>?_)
 rotate_left 1
 ·rw [Bool.not_eq_false'] at G
  refine eS U (OX U)<|eS U (OX U)<|eS U (OX U)<|eS U (OX U)<|eS U (PK U)<|eS U (MV U)<|eS U (OX U)<|eS U (OX U)<|eS U (PK U)<|eS U (AG U)<|e7 U<|cf U fun T10 C=>fQ U cu U<|aG (C _ _ (aL [1,2,3,4,5,6,7]) ?_)
  refine fK U<|KK A<|aq<|lg hQ [0] (mc 0 U I) U ?_
  clear hQ hN C T10 A B
  refine congrArg (fun z=>Value.tuple #[_,vB z]) ?_
  first|rfl|(simp_all [dA]; done)
 rw [Bool.not_eq_true'] at G
 refine eS U (FA 2 U fB U)<|eS U (LP (aa.cells d.Time) 0 U cd U U U)<|eS U (SX (bj (xs:=[]) (cs:=(aa.cells (aa.mk 0 0))) U U (bk gj U)) U U)<|eS U (BI U (sv _ _ d.Time (aa.mk 0 0)))<|eS U (PK U)<|eS U (MV U)<|qR (t:=17) U (fun D=>?_) (fun D=>?_)
 rotate_left 1
 ·replace D:=DF D
  refine eS U (OX U)<|eS U (OX U)<|eS U (PK U)<|eS U (AG U)<|e7 U<|cf U fun T9 F=>fQ U cu U<|aG (F _ _ (aL [1,2,3,4,5,6,7]) ?_)
  refine fK U<|KK A<|aq<|lg hQ [0] (mc 0 U I) U ?_
  clear hQ hN F T9 A B
  refine congrArg (fun z=>Value.tuple #[_,vB z]) ?_
  first|rfl|(simp_all [dA]; done)
 replace D:=DT D
 refine eS U (LW 0 U cd U U)<|eS U (CL (Lw d sgA sgC) (bp [6]) U)<|eS U (PK U)<|eS U (AG U)<|e7 U<|cf U fun T8 E=>fQ U cu U<|aG (E _ _ (aL [1,2,3,4,5,6,7]) ?_)
 refine fK U<|KK A<|aq<|lg hQ [0] (mc 0 U I) U ?_
 clear hQ hN E T8 A B
 refine congrArg (fun z=>Value.tuple #[_,vB z]) ?_
 first|rfl|(simp_all [dA]; done)
theorem M1 (l:bf) (kA:OA) (kC:Nat) (az:List RA) (cA:OA) (cC:Nat) (bA:OA) (bC:Nat) (d:ax) (sgA:OA) (sgC:Nat) (hin:eB l az):
 eg Tryz.prog 192 [(vA (bJ.cells (lh l kA kC cA cC bA bC))),(vA (bu.cells (bu.mk d.Out d.eK d.Time (mo d.cz sgA sgC))))] [(rd kA l.aI.length 9 (l.aI.map an.cells)),(rd cA l.ai.length 2 (List.zipWith au.cells l.ai az)),(e9 (aS au.gW l.ai az)),(rd bA l.ae.length 4 (l.ae.map bG.cells)),(rd sgA d.cz.ak.length 2 (d.cz.ak.map aO.cells))] (vT [(vA (aa.cells d.Time)),(vB (decide (iE d.Time∧l9 d.cz)))]):=by
 refine bI kr Tryz.func192 U U fun AA Q hQ hN=>?_
 try dsimp only
 refine WS fun _ B=>fR U fun F=>fR U fun G=>AL U dg fun H=>rP 1 [] I ?_
 refine RK B<|al fun _ A=>dL cy [9] [] [] [1,2,3,4,5,6,7] [] U U U U U<|eS U (FA 2 U fB U)<|eS U (LP (aa.cells d.Time) 0 U cd U U U)<|eS U (FA 2 U fB U)<|eS U (LP (aa.cells d.Time) 0 U cd U U U)<|eS U (CL (E8 d.Time) (aK) U)<|eS U (MV U)<|qR (t:=11) U (fun C=>?_) (fun C=>?_)
 rotate_left 1
 ·replace C:=DF C
  refine eS U (OX U)<|eS U (OX U)<|eS U (PK U)<|eS U (AG U)<|e7 U<|cf U fun T8 E=>fQ U cu U<|aG (E _ _ (aL [1,2,3,4,5,6,7]) ?_)
  refine fK U<|KK A<|aq<|lg hQ [0] (mc 0 U I) U ?_
  clear hQ hN E T8 A B
  refine congrArg (fun z=>Value.tuple #[_,vB z]) ?_
  first|rfl|(simp_all; done)
 replace C:=DT C
 refine eS U (LW 0 U cd U U)<|eS U (CL (Lw d sgA sgC) (bp [6]) U)<|eS U (PK U)<|eS U (AG U)<|e7 U<|cf U fun T7 D=>fQ U cu U<|aG (D _ _ (aL [1,2,3,4,5,6,7]) ?_)
 refine fK U<|KK A<|aq<|lg hQ [0] (mc 0 U I) U ?_
 clear hQ hN D T7 A B
 refine congrArg (fun z=>Value.tuple #[_,vB z]) ?_
 first|rfl|(simp_all; done)
theorem Mg (l:bf) (kA:OA) (kC:Nat) (az:List RA) (cA:OA) (cC:Nat) (bA:OA) (bC:Nat) (d:ax) (sgA:OA) (sgC:Nat) (hin:eB l az) (hsl:d.cz.ak.length≤1000000):
 eg Tryz.prog 194 [(vA (bJ.cells (lh l kA kC cA cC bA bC))),(vA (bu.cells (bu.mk d.Out d.eK d.Time (mo d.cz sgA sgC))))] [(rd kA l.aI.length 9 (l.aI.map an.cells)),(rd cA l.ai.length 2 (List.zipWith au.cells l.ai az)),(e9 (aS au.gW l.ai az)),(rd bA l.ae.length 4 (l.ae.map bG.cells)),(rd sgA d.cz.ak.length 2 (d.cz.ak.map aO.cells))] (vT [(vA (aa.cells (zY l d.cz))),(vB (decide (eO l d.cz l.bH=0∧d.Time=dA)))]):=by
 have K:=hin.sf
 have AA:=hin.sh
 have G:=hin.oq
 have H:=hin.se
 have J:=hin.side
 refine bI kr Tryz.func194 U U fun P Q hQ hN=>?_
 try dsimp only
 refine WS fun _ C=>fR U fun L=>fR U fun M=>AL U dg fun N=>bo 1 U<|RK C<|WS fun _ D=>fD 2 [] (mc 2 U I) U<|rS (LP (eG.cells (mo d.cz sgA sgC)) 1 U cd U U U)<|rS (CL (Q0 l kA kC az cA cC bA bC d.cz sgA sgC hin hsl) (bp [3,4,5,6,7]) U)<|bo 3 U<|AL U dg fun O=>fQ U cu U<|rP 1 [] I ?_
 refine RK D<|al fun _ A=>dL cy [9] [] [] [0,2,3,4,5,6,7,8] [] U U U U U<|eS U (LW 0 U cd U U)<|eS U (MV U)<|eS U (BI U jA)<|eS U (MV U)<|qR (t:=18) U (fun E=>?_) (fun E=>?_)
 rotate_left 1
 ·replace E:=DF E
  refine eS U (OX U)<|eS U (OX U)<|eS U (OX U)<|eS U (OX U)<|eS U (PK U)<|eS U (AG U)<|e7 U<|cf U fun T10 B=>tw U cu U<|aG (B _ _ (aL [0,2,3,4,5,6,7,8]) ?_)
  refine fK U<|KK A<|aq<|lg hQ [0] (mc 1 U I) U ?_
  clear hQ hN B T10 A D C
  refine congrArg (fun z=>Value.tuple #[_,vB z]) ?_
  first|rfl|(simp_all [dA]; done)
 replace E:=DT E
 refine eS U (FA 2 U fB U)<|eS U (LP (aa.cells d.Time) 1 U cd U U U)<|eS U (SX (bj (xs:=[]) (cs:=(aa.cells (aa.mk 0 0))) U U (bk gj U)) U U)<|eS U (BI U (sv _ _ d.Time (aa.mk 0 0)))<|eS U (PK U)<|eS U (AG U)<|e7 U<|cf U fun T9 F=>tw U cu U<|aG (F _ _ (aL [0,2,3,4,5,6,7,8]) ?_)
 refine fK U<|KK A<|aq<|lg hQ [0] (mc 1 U I) U ?_
 clear hQ hN F T9 A D C
 refine congrArg (fun z=>Value.tuple #[_,vB z]) ?_
 first|rfl|(simp_all [dA]; done)
theorem Ga (d:ax) (sgA:OA) (sgC g1:Nat):
 eg Tryz.prog 78 [(vA (mB.cells (mB.mk (Value.func (.func 188) [].toArray [].toArray) (Value.func (.func 189) [].toArray [].toArray)))),(vP g1)] [(rd sgA d.cz.ak.length 2 (d.cz.ak.map aO.cells)),(bY g1 46 (bu.cells (bu.mk d.Out d.eK d.Time (mo d.cz sgA sgC))))] (vB d.Out):=by
 refine bI kr Tryz.func78 U U fun D Q hQ hN=>?_
 try dsimp only
 refine WS fun _ A=>fR U fun C=>bo 1 U<|RK A<|WS fun _ B=>fD 3 [0,1] (mc 0 U (mr 2 U I)) U<|rS (CL (SG d sgA sgC) (bp [1]) U)<|rP 1 [] I ?_
 refine RK B<|aq<|Q1 hQ U U U ?_
 rfl
theorem GN (d:ax) (sgA:OA) (sgC g1:Nat):
 eg Tryz.prog 78 [(vA (mB.cells (mB.mk (Value.func (.func 191) [].toArray [].toArray) (Value.func (.func 192) [].toArray [].toArray)))),(vP g1)] [(rd sgA d.cz.ak.length 2 (d.cz.ak.map aO.cells)),(bY g1 46 (bu.cells (bu.mk d.Out d.eK d.Time (mo d.cz sgA sgC))))] (vB d.eK):=by
 refine bI kr Tryz.func78 U U fun D Q hQ hN=>?_
 try dsimp only
 refine WS fun _ A=>fR U fun C=>bo 1 U<|RK A<|WS fun _ B=>fD 3 [0,1] (mc 0 U (mr 2 U I)) U<|rS (CL (RR d sgA sgC) (bp [1]) U)<|rP 1 [] I ?_
 refine RK B<|aq<|Q1 hQ U U U ?_
 rfl
theorem GB (d:ax) (sgA:OA) (sgC g1:Nat):
 eg Tryz.prog 78 [(vA (mB.cells (mB.mk (Value.func (.func 193) [].toArray [].toArray) (Value.func (.func 194) [].toArray [].toArray)))),(vP g1)] [(rd sgA d.cz.ak.length 2 (d.cz.ak.map aO.cells)),(bY g1 46 (bu.cells (bu.mk d.Out d.eK d.Time (mo d.cz sgA sgC))))] (vB true):=by
 refine bI kr Tryz.func78 U U fun D Q hQ hN=>?_
 try dsimp only
 refine WS fun _ A=>fR U fun C=>bo 1 U<|RK A<|WS fun _ B=>fD 3 [0,1] (mc 0 U (mr 2 U I)) U<|rS (CL (Rc d sgA sgC) (bp [1]) U)<|rP 1 [] I ?_
 refine RK B<|aq<|Q1 hQ U U U ?_
 rfl
end
section
open Go.RowKit
theorem w4 (d:ax) (sgA:OA) (sgC g1:Nat):
 eg Tryz.prog 77 [(vS dH 3 3),(Value.func (.func 78) [].toArray [(vP g1)].toArray)] [(rd dH 3 2 dp),(rd sgA d.cz.ak.length 2 (d.cz.ak.map aO.cells)),(bY g1 46 (bu.cells (bu.mk d.Out d.eK d.Time (mo d.cz sgA sgC))))] (vI (od d)):=by
 refine bI kr Tryz.func77 U U fun b Q hQ hN=>?_
 try dsimp only
 refine WS fun _ F=>bo 1 U<|RK F<|al fun _ AA=>WS fun _ G=>bo 3 U<|RK G<|ay<|jI 4<|eo fun R4 Z=>WS fun _ H=>rS (SX (bZ (r:= .bool true) U U U gO) U U)<|RK H<|al fun _ AB=>aQ U<|WK AB<|al fun _ J=>ay<|WS fun _ K=>bo 2 U<|RK K<|WS fun _ L=>rP 3 [] I ?_
 refine rS (IA 0 U (aD 0 U) Jz dc U om)<|rS (ot 0 0 (mB.cells (mB.mk (Value.func (.func 188) [].toArray [].toArray) (Value.func (.func 189) [].toArray [].toArray))) U cd (aD 0 U) (show dp[0]? =some [(Value.func (.func 188) [].toArray [].toArray),(Value.func (.func 189) [].toArray [].toArray)] from U) U dc U U)<|rS (CL (Ga d sgA sgC g1) (bp [1,2]) U)<|RK L<|cO U (fun X=>?_) (fun X=>?_)
 ·refine WS fun _ M=>rP 2 [] I ?_
  refine RK M<|aq<|Q1 hQ U U U ?_
  clear hQ hN M L K J AB H G AA F
  refine cI ?_
  simp [od, *]
 refine cp<|aH<|KK J<|ao<|rS (SX (bZ (r:= .int .i64 1) U U U (g8 ⟨dc,dc⟩)) U U)<|bo 1 U<|RK Z<|eo fun R12 W=>WS fun _ A=>rS (SX (bZ (r:= .bool true) U U U gO) U U)<|RK A<|al fun _ B=>aQ U<|WK B<|al fun _ C=>ay<|WS fun _ D=>bo 2 U<|RK D<|WS fun _ E=>rP 3 [] I ?_
 refine rS (IA 1 U (aD 0 U) Jz dc U om)<|rS (ot 1 0 (mB.cells (mB.mk (Value.func (.func 191) [].toArray [].toArray) (Value.func (.func 192) [].toArray [].toArray))) U cd (aD 0 U) (show dp[1]? =some [(Value.func (.func 191) [].toArray [].toArray),(Value.func (.func 192) [].toArray [].toArray)] from U) U dc U U)<|rS (CL (GN d sgA sgC g1) (bp [1,2]) U)<|RK E<|cO U (fun Y=>?_) (fun Y=>?_)
 ·refine WS fun _ N=>rP 2 [] I ?_
  refine RK N<|aq<|Q1 hQ U U U ?_
  clear hQ hN N E D C B A L K J AB H G AA F
  refine cI ?_
  simp [od, *]
 refine cp<|aH<|KK C<|ao<|rS (SX (bZ (r:= .int .i64 2) U U U (g8 ⟨dc,dc⟩)) U U)<|bo 1 U<|RK W<|eo fun R20 a=>WS fun _ O=>rS (SX (bZ (r:= .bool true) U U U gO) U U)<|RK O<|al fun _ P=>aQ U<|WK P<|al fun _ V=>ay<|WS fun _ R=>bo 2 U<|RK R<|WS fun _ S=>bo 3 U<|rS (IA 2 U (aD 0 U) Jz dc U om)<|rS (ot 2 0 (mB.cells (mB.mk (Value.func (.func 193) [].toArray [].toArray) (Value.func (.func 194) [].toArray [].toArray))) U cd (aD 0 U) (show dp[2]? =some [(Value.func (.func 193) [].toArray [].toArray),(Value.func (.func 194) [].toArray [].toArray)] from U) U dc U U)<|rS (CL (GB d sgA sgC g1) (bp [1,2]) U)<|RK S<|aQ U<|WS fun _ T=>rP 2 [] I ?_
 refine RK T<|aq<|Q1 hQ U U U ?_
 clear hQ hN T S R V P O E D C B A L K J AB H G AA F
 refine cI ?_
 simp [od, *]
end
section
open Go.RowKit
theorem RC (d:ax) (sgA:OA) (sgC g1:Nat) (hk:d.Out=true):
 eg Tryz.prog 77 [(vS dH 3 3),(Value.func (.func 78) [].toArray [(vP g1)].toArray)] [(rd dH 3 2 dp),(rd sgA d.cz.ak.length 2 (d.cz.ak.map aO.cells)),(bY g1 46 (bu.cells (bu.mk d.Out d.eK d.Time (mo d.cz sgA sgC))))] (vI 0):=by
 have h:=w4 d sgA sgC g1
 have e:od d=0:=by simp [od,hk]
 rw [e] at h
 exact h
theorem Rx (d:ax) (sgA:OA) (sgC g1:Nat) (hk:d.Out=false∧d.eK=true):
 eg Tryz.prog 77 [(vS dH 3 3),(Value.func (.func 78) [].toArray [(vP g1)].toArray)] [(rd dH 3 2 dp),(rd sgA d.cz.ak.length 2 (d.cz.ak.map aO.cells)),(bY g1 46 (bu.cells (bu.mk d.Out d.eK d.Time (mo d.cz sgA sgC))))] (vI 1):=by
 have h:=w4 d sgA sgC g1
 have e:od d=1:=by simp [od,hk]
 rw [e] at h
 exact h
theorem SS (d:ax) (sgA:OA) (sgC g1:Nat) (hk:d.Out=false∧d.eK=false):
 eg Tryz.prog 77 [(vS dH 3 3),(Value.func (.func 78) [].toArray [(vP g1)].toArray)] [(rd dH 3 2 dp),(rd sgA d.cz.ak.length 2 (d.cz.ak.map aO.cells)),(bY g1 46 (bu.cells (bu.mk d.Out d.eK d.Time (mo d.cz sgA sgC))))] (vI 2):=by
 have h:=w4 d sgA sgC g1
 have e:od d=2:=by simp [od,hk]
 rw [e] at h
 exact h
theorem Bv (l:bf) (kA:OA) (kC:Nat) (az:List RA) (cA:OA) (cC:Nat) (bA:OA) (bC:Nat) (d:ax) (sgA:OA) (sgC:Nat) (hin:eB l az) (hsl:d.cz.ak.length≤1000000) (hk:d.Out=true):
 eg Tryz.prog 52 [(vA (bJ.cells (lh l kA kC cA cC bA bC))),(vA (bu.cells (bu.mk d.Out d.eK d.Time (mo d.cz sgA sgC))))] [(rd dH 3 2 dp),(rd kA l.aI.length 9 (l.aI.map an.cells)),(rd cA l.ai.length 2 (List.zipWith au.cells l.ai az)),(e9 (aS au.gW l.ai az)),(rd bA l.ae.length 4 (l.ae.map bG.cells)),(rd sgA d.cz.ak.length 2 (d.cz.ak.map aO.cells))] (vT [(vA (aa.cells (dC l d))),(vB (decide (hU l d)))]):=by
 refine bI kr Tryz.func52 U U fun AA Q hQ hN=>?_
 try dsimp only
 refine WS fun _ A=>fR U fun G=>fR U fun D=>AL U dg fun H=>bo 1 U<|RK A<|WS fun _ B=>rS (SX (C_ U U zk) U U)<|rS (FU U)<|rS (CL (RC d sgA sgC D hk) (NZ 3 8 1 U U U U U U) U)<|bo 1 U<|RK B<|al fun _ C=>dq cy 9 kr<|km 1 U<|dS (SX (Em (k:=0) U U U zk U om) U U)<|dS (nH ((0*2)+1) U (aD 3 U) (Nat.mul_pos om dc) fB U)<|dS (fY 0 1 (Value.func (.func 189) [].toArray [].toArray) U cd (aD 3 U) (show dp[0]? =some [(Value.func (.func 188) [].toArray [].toArray),(Value.func (.func 189) [].toArray [].toArray)] from U) U dc U)<|mu 2 [0,1] (mc 2 U (mc 1 U I)) U<|dS (CL (MD l kA kC az cA cC bA bC d sgA sgC hin) (bp [4,5,6,7,8]) U)<|km 2 U<|cL<|fQ U cu U<|rP 1 [] I ?_
 refine RK C<|aq<|lg hQ [0] (mc 0 U I) U ?_
 have E:=Fj (l:=l) hk
 have F:=qy (l:=l) hk
 simp only [E,F]
theorem BB (l:bf) (kA:OA) (kC:Nat) (az:List RA) (cA:OA) (cC:Nat) (bA:OA) (bC:Nat) (d:ax) (sgA:OA) (sgC:Nat) (hin:eB l az) (hsl:d.cz.ak.length≤1000000) (hk:d.Out=false∧d.eK=true):
 eg Tryz.prog 52 [(vA (bJ.cells (lh l kA kC cA cC bA bC))),(vA (bu.cells (bu.mk d.Out d.eK d.Time (mo d.cz sgA sgC))))] [(rd dH 3 2 dp),(rd kA l.aI.length 9 (l.aI.map an.cells)),(rd cA l.ai.length 2 (List.zipWith au.cells l.ai az)),(e9 (aS au.gW l.ai az)),(rd bA l.ae.length 4 (l.ae.map bG.cells)),(rd sgA d.cz.ak.length 2 (d.cz.ak.map aO.cells))] (vT [(vA (aa.cells (dC l d))),(vB (decide (hU l d)))]):=by
 refine bI kr Tryz.func52 U U fun AA Q hQ hN=>?_
 try dsimp only
 refine WS fun _ A=>fR U fun G=>fR U fun D=>AL U dg fun H=>bo 1 U<|RK A<|WS fun _ B=>rS (SX (C_ U U zk) U U)<|rS (FU U)<|rS (CL (Rx d sgA sgC D hk) (NZ 3 8 1 U U U U U U) U)<|bo 1 U<|RK B<|al fun _ C=>dq cy 9 kr<|km 1 U<|dS (SX (Em (k:=1) U U U zk U om) U U)<|dS (nH ((1*2)+1) U (aD 3 U) (Nat.mul_pos om dc) fB U)<|dS (fY 1 1 (Value.func (.func 192) [].toArray [].toArray) U cd (aD 3 U) (show dp[1]? =some [(Value.func (.func 191) [].toArray [].toArray),(Value.func (.func 192) [].toArray [].toArray)] from U) U dc U)<|mu 2 [0,1] (mc 2 U (mc 1 U I)) U<|dS (CL (M1 l kA kC az cA cC bA bC d sgA sgC hin) (bp [4,5,6,7,8]) U)<|km 2 U<|cL<|fQ U cu U<|rP 1 [] I ?_
 refine RK C<|aq<|lg hQ [0] (mc 0 U I) U ?_
 have E:=zF (l:=l) hk
 have F:=sT (l:=l) hk
 simp only [E,F]
theorem CM (l:bf) (kA:OA) (kC:Nat) (az:List RA) (cA:OA) (cC:Nat) (bA:OA) (bC:Nat) (d:ax) (sgA:OA) (sgC:Nat) (hin:eB l az) (hsl:d.cz.ak.length≤1000000) (hk:d.Out=false∧d.eK=false):
 eg Tryz.prog 52 [(vA (bJ.cells (lh l kA kC cA cC bA bC))),(vA (bu.cells (bu.mk d.Out d.eK d.Time (mo d.cz sgA sgC))))] [(rd dH 3 2 dp),(rd kA l.aI.length 9 (l.aI.map an.cells)),(rd cA l.ai.length 2 (List.zipWith au.cells l.ai az)),(e9 (aS au.gW l.ai az)),(rd bA l.ae.length 4 (l.ae.map bG.cells)),(rd sgA d.cz.ak.length 2 (d.cz.ak.map aO.cells))] (vT [(vA (aa.cells (dC l d))),(vB (decide (hU l d)))]):=by
 refine bI kr Tryz.func52 U U fun AA Q hQ hN=>?_
 try dsimp only
 refine WS fun _ A=>fR U fun G=>fR U fun D=>AL U dg fun H=>bo 1 U<|RK A<|WS fun _ B=>rS (SX (C_ U U zk) U U)<|rS (FU U)<|rS (CL (SS d sgA sgC D hk) (NZ 3 8 1 U U U U U U) U)<|bo 1 U<|RK B<|al fun _ C=>dq cy 9 kr<|km 1 U<|dS (SX (Em (k:=2) U U U zk U om) U U)<|dS (nH ((2*2)+1) U (aD 3 U) (Nat.mul_pos om dc) fB U)<|dS (fY 2 1 (Value.func (.func 194) [].toArray [].toArray) U cd (aD 3 U) (show dp[2]? =some [(Value.func (.func 193) [].toArray [].toArray),(Value.func (.func 194) [].toArray [].toArray)] from U) U dc U)<|mu 2 [0,1] (mc 2 U (mc 1 U I)) U<|dS (CL (Mg l kA kC az cA cC bA bC d sgA sgC hin hsl) (bp [4,5,6,7,8]) U)<|km 2 U<|cL<|fQ U cu U<|rP 1 [] I ?_
 refine RK C<|aq<|lg hQ [0] (mc 0 U I) U ?_
 have E:=vz (l:=l) hk
 have F:=tn (l:=l) hk
 simp only [E,F]
theorem Dp (l:bf) (kA:OA) (kC:Nat) (az:List RA) (cA:OA) (cC:Nat) (bA:OA) (bC:Nat) (d:ax) (sgA:OA) (sgC:Nat) (hin:eB l az) (hsl:d.cz.ak.length≤1000000):
 eg Tryz.prog 52 [(vA (bJ.cells (lh l kA kC cA cC bA bC))),(vA (bu.cells (bu.mk d.Out d.eK d.Time (mo d.cz sgA sgC))))] [(rd dH 3 2 dp),(rd kA l.aI.length 9 (l.aI.map an.cells)),(rd cA l.ai.length 2 (List.zipWith au.cells l.ai az)),(e9 (aS au.gW l.ai az)),(rd bA l.ae.length 4 (l.ae.map bG.cells)),(rd sgA d.cz.ak.length 2 (d.cz.ak.map aO.cells))] (vT [(vA (aa.cells (dC l d))),(vB (decide (hU l d)))]):=by
 by_cases ho:d.Out=true
 ·exact Bv l kA kC az cA cC bA bC d sgA sgC hin hsl ho
 by_cases hf:d.eK=true
 ·exact BB l kA kC az cA cC bA bC d sgA sgC hin hsl ⟨by simpa using ho,hf⟩
 ·exact CM l kA kC az cA cC bA bC d sgA sgC hin hsl ⟨by simpa using ho,by simpa using hf⟩
end
section
open Go.RowKit
theorem LH (r:cm) (kA:OA) (kC:Nat) (az:List RA) (cA:OA) (cC:Nat) (bA:OA) (bC:Nat) (slA:OA) (slC:Nat) (drA:OA) (drC:Nat) (ha:List cS) (heA:OA) (heC:Nat) (tz:List RA) (tA:OA) (tC:Nat) (ms:Value) (gw h:Nat) (gm g1 g2:Nat) (hin:fm r az ha) (htz:tz.length=r.ar.length) (hh:h<r.ar.length) (hok:jX r (h+1)):
 CT Tryz.prog 79 [(vI (h:Int)),(vP g1),(vP g2)] [(rd kA r.ah.aI.length 9 (r.ah.aI.map an.cells)),(rd cA r.ah.ai.length 2 (List.zipWith au.cells r.ah.ai az)),(e9 (aS au.gW r.ah.ai az)),(rd bA r.ah.ae.length 4 (r.ah.ae.map bG.cells)),(rd slA r.aJ.length 1 (r.aJ.map iC)),(rd drA r.bB.length 1 (r.bB.map iC)),(rd heA r.ar.length 1 (List.zipWith cJ r.ar ha)),(e9 (aS iu r.ar ha)),(rd tA ((cR r).length) 1 (List.zipWith DD (cR r) tz)),(e9 (aS LY (cR r) tz)),(bY gw 88 (fO.cells (fO.mk (oE r kA kC cA cC bA bC slA slC drA drC heA heC) (aN.mk tA ((cR r).length) tC) ms))),(bY g1 80 [(vP gw)]),(bY g2 58 [(Value.map (some gm))])] (ik iV gm (bT dV (eh r.ah r.ar r.aJ.length h 0))) (fun (x:Unit)=>(vT [])) (fun (x:Unit)=>True) (fun (x:Unit)=>(ik iV gm (bT dV (eh r.ah r.ar r.aJ.length (h+1) 0)))):=by
 have v:=hin.line
 have AI:=hin.iQ
 have AJ:=hin.has
 have AC:=hin.iP
 have AA:=hin.draw
 have AD:=dG (r:=r)
 refine mx kr Tryz.func79 U U fun w0 Q hQ hN=>?_
 try dsimp only
 refine WS fun _ g=>fD 1 [] (mr 12 U I) U<|rS (SX (bO U U) U U)<|rP 3 [] (mr 11 U I) ?_
 obtain ⟨ht,B⟩:=aM r.ar h om
 obtain ⟨A,C⟩:=aM ha h om
 have Z:(List.zipWith cJ r.ar ha)[h]? =some (cJ ht A):=dT B C
 have s:=hin.oz _ _ _ B C
 have AB:=s.oq
 have N:=hok h ht om B
 obtain ⟨tr,G⟩:=aM (cR r) h om
 obtain ⟨tra,F⟩:=aM tz h om
 have c:(List.zipWith DD (cR r) tz)[h]? =some (DD tr tra):=dT G F
 refine rS (IA h U (aD 9 U) Mc dc om om)<|rS (fY h 0 (vS tra.1 tr.length tra.2) U cd (aD 9 U) c U dc U) ?_
 have AM:=ym B G
 have AF:tr.length=r.aJ.length:=by rw [AM,List.length_map]; exact N.1
 have AE:=N.1
 refine rP 2 [] I ?_
 refine RK g<|ay ?_
 have E:(0≤r.aJ.length):=by exact Nat.zero_le _
 refine bS (ι:={z:Nat // (z≤r.aJ.length)}) [0,1,2,14,15] [1,2,3,4,5,6,7,8,9,10,11,12,13] U U (fun z=>[(16,(vI (z.1:Int)))]) (fun z=>[(ik iV gm (bT dV (eh r.ah r.ar r.aJ.length h z.1)))]) (fun _=>rfl) (fun _=>rfl) (fun z=>r.aJ.length-z.1) ⟨0,E⟩ (aV U) (aL [1,2,3,4,5,6,7,8,9,10,11,12,13,0]) ?_
 clear E
 rintro ⟨i,u⟩ J2 K
 try dsimp only
 have a:i<r.aJ.length→(eh r.ah r.ar r.aJ.length h i).lookup (i:Int)=gI r.ah r.ar i h:=K6
 refine WS fun _ k=>rP 1 [] I ?_
 refine RK k<|al fun _ m=>bV U (aR fun h5=>?_) (aP fun h5=>?_)
 ·refine bE<|ag<|ag<|aA ?_
  rw [show (eh r.ah r.ar r.aJ.length h i)=(eh r.ah r.ar r.aJ.length (h+1) 0) from by rw [show i=r.aJ.length by omega]; exact Md]
  refine LM hN () 13 [] I U U U U ?_
  trivial
 refine WK m<|al fun _ L=>ay<|WS fun _ n=>rP 1 [] I ?_
 obtain ⟨x,hx⟩:=aM tr i om
 have y:=bL aa.cells hx
 refine rS (IA i U (show iU _ (rd tra.1 tr.length 2 (tr.map aa.cells)).holds from (dy 9 U (b_ G F (by simp [LY])))) jG dc om om)<|rS (ot i 0 (aa.cells x) U cd (show iU _ (rd tra.1 tr.length 2 (tr.map aa.cells)).holds from (dy 9 U (b_ G F (by simp [LY])))) y U dc U U)<|AL U dg fun b8=>bo 1 U<|fQ U cu U<|RK n<|WS fun _ o=>fD 2 [] (mr 13 U I) U<|rS (SX (kv (kV:=iV) (x:=(i:Int)) (l:=(eh r.ah r.ar r.aJ.length h i)) (f:=dV) (z:=(aa.mk 0 0)) U U U nK (eL pK) xd (by exact aD 14 U)) U U)<|bo 3 U<|AL U dg fun AG=>fQ U cu U<|bo 1 U<|RK o<|al fun _ P=>WS fun _ H=>fD 1 [] (mr 13 U I) U<|rS (SX (bO U U) U U)<|fD 4 [] (mr 12 U I) U<|rS (IA h U (aD 8 U) q9 dc om om)<|rS (fY h 0 (vS A.1.1 ht.length A.1.2) U cd (aD 8 U) Z U dc U)<|rP 1 [] I ?_
 obtain ⟨d,hd⟩:=aM ht i om
 obtain ⟨da,p⟩:=aM A.2 i om
 have q:(List.zipWith ax.cells ht A.2)[i]? =some (ax.cells d da):=dT hd p
 refine rS (IA i U (show iU _ (rd A.1.1 ht.length 7 (List.zipWith ax.cells ht A.2)).holds from (dy 9 U (b_ B C cj))) xn dc om om)<|rS (nH (i*7) U (show iU _ (rd A.1.1 ht.length 7 (List.zipWith ax.cells ht A.2)).holds from (dy 9 U (b_ B C cj))) (Nat.mul_pos om dc) fB U)<|rS (fY i 0 (vB d.Out) U cd (show iU _ (rd A.1.1 ht.length 7 (List.zipWith ax.cells ht A.2)).holds from (dy 9 U (b_ B C cj))) q U dc U)<|rP 1 [] I ?_
 refine ct (t:=39) U (fun J=>?_) (fun J=>?_)
 ·refine bo 3 U<|RK H<|aQ U<|WS fun _ R=>rP 2 [] (mr 14 U I) ?_
  have T:(cD (eh r.ah r.ar r.aJ.length h i) (i:Int))=(eh r.ah r.ar r.aJ.length h (i+1)):=by exact E2 (by exact Gd B hd J)
  refine o8 (kV:=iV) (x:=(i:Int)) (C':=[_,_,_,_,_,_,_,_,_,_,_,_,_,_,_,(ik iV gm (bT dV (eh r.ah r.ar r.aJ.length h (i+1))))]) 15 U U U U nK (eL pK) U ((ly _ _ _).symm.trans (congrArg _ T)) U<|RK R<|bE<|ag<|aA<|KK L<|ao<|rP 2 [] I ?_
  refine aG ?_
  have AH:(vI (((i+1):Nat):Int))=(vI ((i:Int)+1)):=by exact cI om
  refine aW (K ⟨(i+1),(by first|omega|(simp only []; omega))⟩ _ _ _ U os (cW 5<|bx U AH<|dB.nil _) (aL [2,3,4,5,6,7,8,9,10,11,12,13,14,15]))
 refine rP 3 [] I ?_
 refine RK H<|cO U (fun D=>?_) (fun D=>?_)
 ·rw [Bool.not_eq_true'] at D
  refine WS fun _ S=>rP 2 [] (mr 14 U I) ?_
  have V:(cD (eh r.ah r.ar r.aJ.length h i) (i:Int))=(eh r.ah r.ar r.aJ.length h (i+1)):=by exact E2 (by exact DE ((a om).symm.trans (Option.not_isSome_iff_eq_none.1 (by rw [D]; decide))))
  refine o8 (kV:=iV) (x:=(i:Int)) (C':=[_,_,_,_,_,_,_,_,_,_,_,_,_,_,_,(ik iV gm (bT dV (eh r.ah r.ar r.aJ.length h (i+1))))]) 15 U U U U nK (eL pK) U ((ly _ _ _).symm.trans (congrArg _ V)) U<|RK S<|bE<|ag<|aA<|KK L<|ao<|rP 2 [] I ?_
  refine aG ?_
  have W:(vI (((i+1):Nat):Int))=(vI ((i:Int)+1)):=by exact cI om
  refine aW (K ⟨(i+1),(by first|omega|(simp only []; omega))⟩ _ _ _ U os (cW 5<|bx U W<|dB.nil _) (aL [2,3,4,5,6,7,8,9,10,11,12,13,14,15]))
 rw [Bool.not_eq_false'] at D
 refine WK P<|ao ?_
 obtain ⟨O,b⟩:=Option.isSome_iff_exists.1 D
 have M:gI r.ah r.ar i h=some O:=(a om).symm.trans b
 have e:=Km AM hx hd
 have AK:=z7 (fun j x hj hx=>hok j x om hx) om M
 have w:=FO (N.2 d (aU hd))
 rw [← e] at w
 rw [show ((List.lookup (i:Int) (eh r.ah r.ar r.aJ.length h i)).getD (aa.mk 0 0))=O from by rw [b]; rfl]
 refine fD 6 [0,1,2] (mr 14 U (mc 0 U (mc 1 U I))) U<|rS (BI U (si om om om))<|fD 5 [0,1] (mc 0 U (mc 1 U I)) U<|rS (BI U (si om om om))<|rP 1 [] I ?_
 refine rS (SX (bj (xs:=[(0,.tmp 52),(1,.tmp 58)]) (cs:=(aa.cells (aa.mk (O.Lo+(x.Lo/10)) (O.Hi+(x.Hi/10))))) U U (bk gj U)) U U) ?_
 have X:(eT (eh r.ah r.ar r.aJ.length h i) (i:Int) (aa.mk (O.Lo+(x.Lo/10)) (O.Hi+(x.Hi/10))))=(eh r.ah r.ar r.aJ.length h (i+1)):=by exact N7 om (by rw [M]; rfl) (by rw [e]; exact Ex B hd (by rw [J]; decide) M)
 refine jW (kV:=iV) (x:=(i:Int)) (C':=[_,_,_,_,_,_,_,_,_,_,_,_,_,_,_,(ik iV gm (bT dV (eh r.ah r.ar r.aJ.length h (i+1))))]) 15 U U U U nK (eL pK) U ((ia _ _ _ _).symm.trans (congrArg _ X)) U<|aG<|aH<|KK L<|ao<|rP 2 [] I ?_
 refine aG ?_
 have Y:(vI (((i+1):Nat):Int))=(vI ((i:Int)+1)):=by exact cI om
 refine aW (K ⟨(i+1),(by first|omega|(simp only []; omega))⟩ _ _ _ U os (cW 5<|bx U Y<|dB.nil _) (aL [2,3,4,5,6,7,8,9,10,11,12,13,14,15]))
theorem OP (r:cm) (kA:OA) (kC:Nat) (az:List RA) (cA:OA) (cC:Nat) (bA:OA) (bC:Nat) (slA:OA) (slC:Nat) (drA:OA) (drC:Nat) (ha:List cS) (heA:OA) (heC:Nat) (tz:List RA) (tA:OA) (tC:Nat) (ms:Value) (gw n:Nat) (hin:fm r az ha) (htz:tz.length=r.ar.length) (hn:n≤r.ar.length) (hok:jX r n):
 lE Tryz.prog 53 [(vP gw),(vI (n:Int))] [(rd kA r.ah.aI.length 9 (r.ah.aI.map an.cells)),(rd cA r.ah.ai.length 2 (List.zipWith au.cells r.ah.ai az)),(e9 (aS au.gW r.ah.ai az)),(rd bA r.ah.ae.length 4 (r.ah.ae.map bG.cells)),(rd slA r.aJ.length 1 (r.aJ.map iC)),(rd drA r.bB.length 1 (r.bB.map iC)),(rd heA r.ar.length 1 (List.zipWith cJ r.ar ha)),(e9 (aS iu r.ar ha)),(rd tA ((cR r).length) 1 (List.zipWith DD (cR r) tz)),(e9 (aS LY (cR r) tz)),(bY gw 88 (fO.cells (fO.mk (oE r kA kC cA cC bA bC slA slC drA drC heA heC) (aN.mk tA ((cR r).length) tC) ms)))] (fun (x:Nat)=>(Value.map (some x))) (fun (x:Nat)=>True) (fun (x:Nat)=>[(ik iV x (bT dV (eI r n)))]):=by
 have c:=hin.line
 have m:=hin.iQ
 have o:=hin.has
 have e:=hin.iP
 have d:=hin.draw
 have f:=dG (r:=r)
 refine dv kr Tryz.func53 U U fun q Q hQ hN=>?_
 try dsimp only
 refine WS fun _ V=>uh U U fun k=>rP 1 [] I ?_
 refine RK V<|WS fun _ W=>oI (kV:=iV) U U fun B=>?_
 try dsimp only
 refine AL U Q8 fun l=>Gq U NH U U<|RK W<|al fun _ X=>WS fun _ Y=>fD 1 [] (mc 2 U I) U<|rS (SX (bO U U) U U)<|rP 5 [] (mr 13 U I) ?_
 refine RK Y<|ay ?_
 skip
 have A:(0≤r.aJ.length):=by exact Nat.zero_le _
 refine bS (ι:={z:Nat // (z≤r.aJ.length)}) [1,2,5,15] [0,2,3,4,5,6,7,8,9,10,11,12,13] U U (fun z=>[(16,(vI (z.1:Int)))]) (fun z=>[(ik iV B (bT dV (eh r.ah r.ar z.1 0 0)))]) (fun _=>rfl) (fun _=>rfl) (fun z=>r.aJ.length-z.1) ⟨0,A⟩ (aV U) (aL [0,2,3,4,5,6,7,8,9,10,11,12,13,1]) ?_
 clear A
 rintro ⟨i,a⟩ J8 AA
 try dsimp only
 refine WS fun _ Z=>rP 1 [] I ?_
 refine RK Z<|al fun _ D=>cO U (aP fun S=>?_) (aR fun S=>?_)
 ·refine WK D<|al fun _ E=>ay<|WS fun _ F=>bo 2 U<|RK F<|ao<|rP 2 [] (mc 0 U I) ?_
  refine rS (SX (bj (xs:=[]) (cs:=(aa.cells (aa.mk 0 0))) U U (bk gj U)) U U) ?_
  have O:(eT (eh r.ah r.ar i 0 0) (i:Int) (aa.mk 0 0))=(eh r.ah r.ar (i+1) 0 0):=by exact NI
  refine jW (kV:=iV) (x:=(i:Int)) (C':=[_,_,_,_,_,_,_,_,_,_,_,_,_,(ik iV B (bT dV (eh r.ah r.ar (i+1) 0 0)))]) 13 U U U U nK (eL pK) U ((ia _ _ _ _).symm.trans (congrArg _ O)) U<|aG<|aH<|KK E<|ao<|rP 2 [] I ?_
  refine aG ?_
  have P:(vI (((i+1):Nat):Int))=(vI ((i:Int)+1)):=by exact cI om
  refine aW (AA ⟨(i+1),(by first|omega|(simp only []; omega))⟩ _ _ _ U os (cW 4<|bx U P<|dB.nil _) (aL [0,1,2,3,4,5,6,7,8,9,10,11,12,13]))
 refine bE<|ag<|ag<|aA<|KK X<|WS fun _ G=>rS (FU U)<|bo 1 U<|RK G<|al fun _ H=>WS fun _ AB=>rP 2 [] I ?_
 refine RK AB<|ay ?_
 rw [show (eh r.ah r.ar i 0 0)=(eh r.ah r.ar r.aJ.length 0 0) from by rw [show i=r.aJ.length by omega]]
 have A:(0≤n):=by exact Nat.zero_le _
 refine bS (ι:={z:Nat // (z≤n)}) [2,5,7,24] [0,1,2,3,4,5,6,7,8,9,10,11,12] U U (fun z=>[(25,(vI (z.1:Int)))]) (fun z=>[(ik iV B (bT dV (eh r.ah r.ar r.aJ.length z.1 0)))]) (fun _=>rfl) (fun _=>rfl) (fun z=>n-z.1) ⟨0,A⟩ (aV U) (aL [0,1,2,3,4,5,6,7,8,9,10,11,12,13]) ?_
 clear A
 rintro ⟨h,b⟩ J19 C
 try dsimp only
 refine WS fun _ J=>rP 1 [] I ?_
 refine RK J<|al fun _ K=>bV U (aR fun T=>?_) (aP fun T=>?_)
 ·refine bE<|ag<|ag<|aA<|KK H<|al fun _ N=>?_
  rw [show (eh r.ah r.ar r.aJ.length h 0)=(eI r n) from by rw [show h=n by omega]; exact Mz]
  refine ao<|rP 2 [] (mc 0 U I) ?_
  refine RK N<|aq<|LX hQ B [13] [] I U U U U ?_
  trivial
 refine WK K<|al fun _ L=>ay<|WS fun _ M=>bo 2 U<|RK M<|ao<|rP 2 [] I ?_
 refine iI 13 U U U U (LH r kA kC az cA cC bA bC slA slC drA drC ha heA heC tz tA tC ms gw h B k l hin htz om (by exact fun j x hj hx=>hok j x om hx)) U (d_ 2 U U (dD (bQ _)) (d_ 3 U U (dD (bQ _)) (d_ 4 U U (dD (bQ _)) (d_ 5 U U (dD (bQ _)) (d_ 6 U U (dD (bQ _)) (d_ 7 U U (dD (bQ _)) (d_ 8 U U (dD (bQ _)) (d_ 9 U U (dD (bQ _)) (d_ 10 U U (dD (bQ _)) (d_ 11 U U (dD (bQ _)) (d_ 12 U U (dD (bQ _)) (d_ 1 U U (bQ _) (d_ 0 U U (bQ _) kb))))))))))))) U (fun p g=>?_)
 try dsimp only
 refine aG<|aH<|KK L<|ao<|rP 2 [] I ?_
 refine aG ?_
 have R:(vI (((h+1):Nat):Int))=(vI ((h:Int)+1)):=by exact cI om
 refine aW (C ⟨(h+1),(by first|omega|(simp only []; omega))⟩ _ _ _ U os (cW 4<|bx U R<|dB.nil _) (aL [0,1,2,3,4,5,6,7,8,9,10,11,12,13]))
end
section
open Go.RowKit
theorem nR (r:cm) (kA:OA) (kC:Nat) (az:List RA) (cA:OA) (cC:Nat) (bA:OA) (bC:Nat) (slA:OA) (slC:Nat) (drA:OA) (drC:Nat) (ha:List cS) (heA:OA) (heC:Nat) (hin:fm r az ha):
 lE Tryz.prog 31 [(vA (br.cells (oE r kA kC cA cC bA bC slA slC drA drC heA heC)))] [(rd dH 3 2 dp),(rd kA r.ah.aI.length 9 (r.ah.aI.map an.cells)),(rd cA r.ah.ai.length 2 (List.zipWith au.cells r.ah.ai az)),(e9 (aS au.gW r.ah.ai az)),(rd bA r.ah.ae.length 4 (r.ah.ae.map bG.cells)),(rd slA r.aJ.length 1 (r.aJ.map iC)),(rd drA r.bB.length 1 (r.bB.map iC)),(rd heA r.ar.length 1 (List.zipWith cJ r.ar ha)),(e9 (aS iu r.ar ha))] (fun (x:Bool×Int×Nat×Nat×(OA)×Nat×(List RA))=>bif x.1 then (vT [(Value.pointer (some ⟨x.2.2.1,0,none⟩)),(vI 0)]) else (vT [(Value.pointer none),(vI x.2.1)])) (fun (x:Bool×Int×Nat×Nat×(OA)×Nat×(List RA))=>(x.1=true→(bX r=0∧x.2.2.2.2.2.2.length=r.ar.length))∧(x.1=false→(x.2.1=bX r∧ ¬ bX r=0))) (fun (x:Bool×Int×Nat×Nat×(OA)×Nat×(List RA))=>bif x.1 then [(bY x.2.2.1 88 (fO.cells (fO.mk (oE r kA kC cA cC bA bC slA slC drA drC heA heC) (aN.mk x.2.2.2.2.1 ((cR r).length) x.2.2.2.2.2.1) (Value.map (some x.2.2.2.1))))),(own x.2.2.2.2.1 x.2.2.2.2.2.1 85 1 (List.zipWith DD (cR r) x.2.2.2.2.2.2)),(bq (aS CW (cR r) x.2.2.2.2.2.2)),(ik iV x.2.2.2.1 (bT dV (aF r)))] else []):=by
 have BC:=hin.line
 have BW:=hin.iQ
 have BX:=hin.has
 have BM:=hin.iP
 have BK:=hin.draw
 have Al:=dG (r:=r)
 refine dv kr Tryz.func31 U U fun w0 Q hQ hN=>?_
 try dsimp only
 refine WS fun _ A3=>fR U fun b2=>bo 2 U<|RK A3<|al fun _ A4=>WS fun _ A5=>bo 1 U<|rS (LP (bJ.cells (lh r.ah kA kC cA cC bA bC)) 0 U cd U U U)<|rS (CL (AS r.ah kA kC az cA cC bA bC asm) (bp [2,3,4,5]) U)<|bo 1 U<|RK A5<|WS fun _ A6=>rP 2 [] I ?_
 refine RK A6<|cO U (bh fun B=>?_) (bg fun B=>?_)
 ·refine WS fun _ A7=>rP 3 [] I ?_
  refine RK A7<|aq<|LX hQ (false,(dx r.ah),0,0,none,0,[]) [] [] I U (by rfl) U U ?_
  exact q_<|HZ (yg B) B
 refine WK A4<|WS fun _ A8=>fD 4 [] (mc 0 U I) U<|RK A8<|WS fun _ A9=>rP 2 [] (mc 0 U I) ?_
 refine cX (wS drA r.bB.length drC) (aK) U fun Ap BN=>?_
 try dsimp only
 refine cX (xy r.bB drA drC Ap asm) (bp [8,0]) U fun BJ BO=>?_
 obtain ⟨BQ,BV⟩:=BJ
 try dsimp only
 refine bo 1 U<|RK A9<|al fun _ e=>WS fun _ H=>rP 1 [] I ?_
 refine cZ (xs:=[.tmp 29]) (cs:=[(vI (r.aJ.length:Int))]) U cx i_ U U U U (by simp [Value.cells]) U U fun Aq=>?_
 refine rS (CL (eg.eq (j0 1 5 ([(r.aJ.length:Int)]) (some ⟨Aq,0,none⟩) 1 (by (simp; done))) cU) (aw (a_ 0 U U (by simp [bK]) U)<|aK) U) ?_
 refine rP 2 [] I ?_
 refine ct (t:=33) U (bh fun Au=>?_) (bg fun Au=>?_)
 ·refine bo 26 U<|RK H<|aQ U<|WS fun _ f=>rP 2 [] I ?_
  refine RK f<|aq<|LX hQ (false,60,0,0,none,0,[]) [] [] I U (by rfl) U U ?_
  exact q_<|pM (kl B (fun q:eV r=>by have q1:=q.num; have q2:=q.wm; have q3:=q.nh; have q4:=q.x5; omega))
 refine rP 6 [] I ?_
 refine ct (t:=39) U (bh fun Av=>?_) (bg fun Av=>?_)
 ·refine bo 20 U<|RK H<|aQ U<|WS fun _ g=>rP 2 [] I ?_
  refine RK g<|aq<|LX hQ (false,60,0,0,none,0,[]) [] [] I U (by rfl) U U ?_
  exact q_<|pM (kl B (fun q:eV r=>by have q1:=q.num; have q2:=q.wm; have q3:=q.nh; have q4:=q.x5; omega))
 refine rP 2 [] (mc 3 U I) ?_
 refine cZ (xs:=[.tmp 41]) (cs:=[(vI r.dW)]) U cx i_ U U U U (by simp [Value.cells]) U U fun Ar=>?_
 refine rS (CL (eg.eq (j0 0 5 ([r.dW]) (some ⟨Ar,0,none⟩) 1 (by (simp; done))) cU) (aw (a_ 0 U U (by simp [bK]) U)<|aK) U) ?_
 refine rP 3 [] I ?_
 refine ct (t:=46) U (bh fun Aw=>?_) (bg fun Aw=>?_)
 ·refine bo 13 U<|RK H<|aQ U<|WS fun _ k=>rP 2 [] I ?_
  refine RK k<|aq<|LX hQ (false,60,0,0,none,0,[]) [] [] I U (by rfl) U U ?_
  exact q_<|pM (kl B (fun q:eV r=>by have q1:=q.num; have q2:=q.wm; have q3:=q.nh; have q4:=q.x5; omega))
 refine rP 3 [] (mc 4 U I) ?_
 refine cZ (xs:=[.tmp 49]) (cs:=[(vI (r.ar.length:Int))]) U cx i_ U U U U (by simp [Value.cells]) U U fun As=>?_
 refine rS (CL (eg.eq (j0 1 3 ([(r.ar.length:Int)]) (some ⟨As,0,none⟩) 1 (by (simp; done))) cU) (aw (a_ 0 U U (by simp [bK]) U)<|aK) U) ?_
 refine rP 3 [] I ?_
 refine ct (t:=54) U (bh fun Ax=>?_) (bg fun Ax=>?_)
 ·refine bo 5 U<|RK H<|aQ U<|WS fun _ l=>rP 2 [] I ?_
  refine RK l<|aq<|LX hQ (false,60,0,0,none,0,[]) [] [] I U (by rfl) U U ?_
  exact q_<|pM (kl B (fun q:eV r=>by have q1:=q.num; have q2:=q.wm; have q3:=q.nh; have q4:=q.x5; omega))
 refine fD 2 [] (mc 5 U I) U<|rS (CL (j0 0 9999 r.aJ slA slC asm) (bp [11]) U)<|rP 2 [] I ?_
 refine RK H<|cO U (fun N=>?_) (fun N=>?_)
 ·rw [Bool.not_eq_true'] at N
  refine WS fun _ m=>rP 2 [] I ?_
  refine RK m<|aq<|LX hQ (false,60,0,0,none,0,[]) [] [] I U (by rfl) U U ?_
  exact q_<|pM (kl B (fun q:eV r=>by exact absurd (q.ins.symm.trans N) dc))
 rw [Bool.not_eq_false'] at N
 refine WK e<|al fun _ o=>WS fun _ p=>?_
 have BY:(di r.bB).length=r.aJ.length:=by rw [gp]; omega
 refine rP 2 [] I ?_
 refine RK p<|ay ?_
 have A:(0≤r.aJ.length)∧(qQ r 0):=by exact ⟨Nat.zero_le _,DV⟩
 refine bS (ι:={z:Nat // (z≤r.aJ.length)∧(qQ r z)}) [1,5,6,60] [3,5,6,7,8,9,10,11,12,13,14] U U (fun z=>[(61,(vI (z.1:Int)))]) (fun z=>[]) (fun _=>rfl) (fun _=>rfl) (fun z=>r.aJ.length-z.1) ⟨0,A⟩ (aV U) (aL [3,5,6,7,8,9,10,11,12,13,14]) ?_
 clear A
 rintro ⟨i,⟨BB,J⟩⟩ J28 V
 try dsimp only
 refine WS fun _ s=>rP 1 [] I ?_
 refine RK s<|al fun _ w=>cO U (aP fun Az=>?_) (aR fun Az=>?_)
 ·refine WK w<|al fun _ W=>ay<|WS fun _ AA=>bo 2 U<|RK AA<|al fun _ O=>dq cy 24 kr<|dP 2 [] I ?_
  obtain ⟨x,hx⟩:=aM (di r.bB) i om
  have BD:=bL iC hx
  refine dS (IA i U (aj (n:=r.bB.length) 0 U sq) cx dc om om) ?_
  refine dS (fY i 0 (vI x) U cd (aj (n:=(di r.bB).length) 0 U sm) BD U dc U)<|dP 3 [] I ?_
  refine gJ (t:=70) U (bh fun S=>?_) (bg fun S=>?_)
  ·refine km 17 U<|cL<|RK O<|aQ U<|WS fun _ AB=>rP 2 [] I ?_
   refine RK AB<|aq<|LX hQ (false,60,0,0,none,0,[]) [] [] I U (by rfl) U U ?_
   exact q_<|pM (kl B (fun q:eV r=>by exact absurd (q.drawn hx) S))
  refine dP 3 [] I ?_
  refine iw (t:=73) U (aR fun A0=>?_) (aP fun A0=>?_)
  ·refine km 14 U<|cL<|RK O<|aX U<|cp<|aH<|KK W<|ao<|rP 2 [] I ?_
   refine aG ?_
   have Ae:(vI (((i+1):Nat):Int))=(vI ((i:Int)+1)):=by exact cI om
   refine aW (V ⟨(i+1),⟨om,wB J hx S (fun u v hu hv hw=>by omega)⟩⟩ _ _ _ U os (cW 4<|bx U Ae<|dB.nil _) (aL [0,1,2,3,4,5,6,7,8,9,10]))
  refine dP 3 [] (mc 1 U I) ?_
  obtain ⟨y,hy⟩:=aM r.aJ i om
  have BE:=bL iC hy
  refine dS (IA i U (aD 7 U) cx dc om om)<|dS (fY i 0 (vI y) U cd (aD 7 U) BE U dc U)<|dP 4 [] (mc 1 U I) ?_
  obtain ⟨z,hz⟩:=aM r.aJ (i-1) om
  have BF:=bL iC hz
  refine dS (IA (i-1) U (aD 7 U) cx dc om om)<|dS (fY (i-1) 0 (vI z) U cd (aD 7 U) BF U dc U)<|dP 3 [] I ?_
  refine cL<|RK O<|bV U (aR fun A1=>?_) (aP fun A1=>?_)
  ·refine cp<|aH<|KK W<|ao<|rP 2 [] I ?_
   refine aG ?_
   have Ad:(vI (((i+1):Nat):Int))=(vI ((i:Int)+1)):=by exact cI om
   refine aW (V ⟨(i+1),⟨om,wB J hx S (fun u v hu hv hw=>by (rw [hy] at hu; cases hu; rw [hz] at hw; cases hw; omega))⟩⟩ _ _ _ rfl os (cW 4<|bx rfl Ad<|dB.nil _) (aL [0,1,2,3,4,5,6,7,8,9,10]))
  refine WS fun _ AC=>rP 2 [] I ?_
  refine RK AC<|aq<|LX hQ (false,60,0,0,none,0,[]) [] [] I U (by rfl) U U ?_
  exact q_<|pM (kl B (fun q:eV r=>by have q1:=(q.ids i y hy).2 z om hz; omega))
 refine bE<|ag<|ag<|aA<|KK o<|WS fun _ AD=>fD 1 [] (mc 1 U I) U<|rS (SX (bj (xs:=[(0,.tmp 89)]) (cs:=(fO.cells (fO.mk (oE r kA kC cA cC bA bC slA slC drA drC heA heC) (aN.mk none 0 0) (Value.map none)))) U U (bk Uj U)) U U)<|fR U fun L=>bo 1 U<|RK AD<|al fun _ AE=>WS fun _ AF=>rP 4 [] (mc 2 U I) ?_
 refine RK AF<|ay<|fT 85 1<|oa ?_
 have A:(0≤r.ar.length)∧(([]:List RA).length=0)∧(jX r 0):=by exact ⟨Nat.zero_le _,rfl,xR⟩
 refine bS (ι:={z:Nat×(List RA)×(OA)×Nat // (z.1≤r.ar.length)∧(z.2.1.length=z.1)∧(jX r z.1)}) [1,5,8,93,94] [3,4,5,6,7,8,9,10,11,12,13] U U (fun z=>[(95,(vI (z.1.1:Int)))]) (fun z=>[(bq (aS CW (gu r z.1.1) z.1.2.1)),(own z.1.2.2.1 z.1.2.2.2 85 1 (List.map sC (List.zipWith B_ (gu r z.1.1) z.1.2.1))),(bY L 88 (fO.cells (fO.mk (oE r kA kC cA cC bA bC slA slC drA drC heA heC) (aN.mk z.1.2.2.1 ((List.zipWith B_ (gu r z.1.1) z.1.2.1).length) z.1.2.2.2) (Value.map none))))]) (fun _=>rfl) (fun _=>rfl) (fun z=>r.ar.length-z.1.1) ⟨(0,([]:List RA),none,0),A⟩ (aV U) (aL [3,4,5,6,7,8,9,10,11,12,13,0,1,2]) ?_
 clear A
 rintro ⟨⟨h,tz,a,c⟩,⟨T,C,E⟩⟩ J42 Z
 try dsimp only at T C E
 try dsimp only
 refine WS fun _ AG=>rP 1 [] I ?_
 refine RK AG<|al fun _ AH=>bV U (aR fun A2=>?_) (aP fun A2=>?_)
 ·refine bE<|ag<|ag<|aA<|KK AE<|al fun _ Ab=>?_
  have BA:gu r h=cR r:=by unfold cR; rw [show h=r.ar.length by omega]
  have Am:tz.length=r.ar.length:=by omega
  rw [BA,yv,show (List.zipWith B_ (cR r) tz).length=(cR r).length from by rw [List.length_zipWith]; omega]
  have X:eV r:=KN (n:=i) om om om om om N J E om
  refine ao<|rP 5 [] (mc 1 U I) ?_
  refine cX (OP r kA kC az cA cC bA bC slA slC drA drC ha heA heC tz a c (Value.map none) L r.ar.length hin asm om (by exact X.Ag)) (lO [3,4,5,6,7,8,9,10]<|aw (aj (n:=(cR r).length) 12 U (mF (by rw [Al]; exact Am)))<|aw (dR 11 U tp)<|fG 13 U U<|aK) U fun K BP=>?_
  try dsimp only
  refine rS (SX (bO U U) U U)<|rP 1 [] I ?_
  refine jg (vs:=[(Value.map (some K))]) (cs':=(fO.cells (fO.mk (oE r kA kC cA cC bA bC slA slC drA drC heA heC) (aN.mk a ((cR r).length) c) (Value.map (some K))))) (C':=[_,_,_,_,_,_,_,_,_,_,_,_,_,_,(bY L 88 (fO.cells (fO.mk (oE r kA kC cA cC bA bC slA slC drA drC heA heC) (aN.mk a ((cR r).length) c) (Value.map (some K)))))]) 14 U U U NH U U U U U U U<|RK Ab<|al fun _ Ac=>?_
  rw [show eI r r.ar.length=aF r from rfl]
  refine ao<|rP 3 [] I ?_
  refine RK Ac<|aq ?_
  refine LX hQ (true,0,L,K,a,c,tz) [14,13,12,0] [] I U (by (show List.all _ _=true; simp only [cond_true,fH,List.all_nil,wh,Bool.and_true]; rfl)) U U ?_
  exact ⟨fun _=>⟨AJ B X,Am⟩,Np⟩
 refine WK AH<|al fun _ AI=>ay<|WS fun _ AK=>?_
 obtain ⟨ht,D⟩:=aM r.ar h om
 obtain ⟨G,BG⟩:=aM ha h om
 have Ak:(List.zipWith cJ r.ar ha)[h]? =some (cJ ht G):=dT D BG
 refine rS (IA h U (aD 9 U) q9 dc om om)<|rS (fY h 0 (vS G.1.1 ht.length G.1.2) U cd (aD 9 U) Ak U dc U)<|rP 1 [] I ?_
 refine RK AK<|al fun _ AM=>WS fun _ AN=>?_
 have Aj:=hin.oz _ _ _ D BG
 have BL:=Aj.oq
 refine rP 4 [] I ?_
 refine RK AN<|cO U (bh fun Y=>?_) (bg fun Y=>?_)
 ·refine WS fun _ AO=>rP 2 [] I ?_
  refine RK AO<|aq<|LX hQ (false,60,0,0,none,0,[]) [] [] I U (by rfl) U U ?_
  exact q_<|pM (kl B (fun q:eV r=>by have q1:=(q.oz ht (aU D)).1; omega))
 refine WK AM<|WS fun _ AP=>bo 1 U<|RK AP<|al fun _ AQ=>WS fun _ AR=>rP 3 [] I ?_
 refine RK AR<|ay<|fT 38 2 ?_
 have A:(0≤ht.length)∧(n8 r.ah ht 0):=by exact ⟨Nat.zero_le _,u3⟩
 refine bS (ι:={z:Nat×(OA)×Nat // (z.1≤ht.length)∧(n8 r.ah ht z.1)}) [1,5,8,10,93,94,95,103,104] [1,2,3,4,5,6,7,8,9,10,11,12,13,14] U U (fun z=>[(11,(vS z.1.2.1 (((ht.take z.1.1).map (dC r.ah)).length) z.1.2.2)),(105,(vI (z.1.1:Int)))]) (fun z=>[(own z.1.2.1 z.1.2.2 38 2 (((ht.take z.1.1).map (dC r.ah)).map aa.cells))]) (fun _=>rfl) (fun _=>rfl) (fun z=>ht.length-z.1.1) ⟨(0,none,0),A⟩ (aV U) (aL [1,2,3,4,5,6,7,8,9,10,11,12,13,14,0]) ?_
 clear A
 rintro ⟨⟨j,la,lc⟩,⟨An,F⟩⟩ J53 b
 try dsimp only at An F
 try dsimp only
 refine WS fun _ AT=>rP 1 [] I ?_
 refine RK AT<|al fun _ AU=>bV U (aR fun Ay=>?_) (aP fun Ay=>?_)
 ·refine bE<|ag<|ag<|aA<|KK AQ<|ao<|bo 2 U<|rS (SX (bO U U) U U)<|rP 2 [] (mc 13 U I) ?_
  rw [show ((ht.take j).map (dC r.ah))=ht.map (dC r.ah) from by rw [List.take_of_length_le om]]
  refine rP 1 [] I ?_
  refine cZ (xs:=[.tmp 128]) (cs:=[(vS la ((ht.map (dC r.ah)).length) lc)]) U Mc RO U U U U (by simp [Value.cells]) U U fun BU=>?_
  refine df (es2:=(List.map sC (List.zipWith B_ (gu r (h+1)) (tz++[(la,lc)])))) (m':=(List.zipWith B_ (gu r (h+1)) (tz++[(la,lc)])).length) 13 U U U SF U U sm (a_ (es:=List.map sC [(aN.mk la ((ht.map (dC r.ah)).length) lc)]) 0 U U (by simp [yP]) U) (KS _) (by rw [List.length_zipWith,kB om]; omega) (by rw [List.length_zipWith,kB om]; simp only [maxLen]; omega) (by rw [tj D C,List.map_append]; rfl) (by rw [tj D C]; simp) U fun P R=>?_
  try dsimp only
  refine rS (SX (bO U U) U U)<|bo 1 U<|jg (vs:=[(vS P ((List.zipWith B_ (gu r (h+1)) (tz++[(la,lc)])).length) R)]) (cs':=(fO.cells (fO.mk (oE r kA kC cA cC bA bC slA slC drA drC heA heC) (aN.mk P ((List.zipWith B_ (gu r (h+1)) (tz++[(la,lc)])).length) R) (Value.map none)))) (C':=[_,_,_,_,_,_,_,_,_,_,_,_,_,_,(bY L 88 (fO.cells (fO.mk (oE r kA kC cA cC bA bC slA slC drA drC heA heC) (aN.mk P ((List.zipWith B_ (gu r (h+1)) (tz++[(la,lc)])).length) R) (Value.map none)))),_]) 14 U U U Ul U U U U U U U<|aG<|aH<|KK AI<|ao<|rP 2 [] I ?_
  refine aG<|Cu (X':=aS CW (gu r (h+1)) (tz++[(la,lc)])) 12 15 U U (Cz (a:=(la,lc)) D C) ?_
  have Ah:(vI (((h+1):Nat):Int))=(vI ((h:Int)+1)):=by exact cI om
  refine aW (Z ⟨((h+1),(tz++[(la,lc)]),P,R),⟨om,by simp; omega,xx E D (Fp om F om)⟩⟩ _ _ _ U os (cW 5<|bx U Ah<|dB.nil _) (aL [2,3,4,5,6,7,8,9,10,11,12,0,13,14]))
 refine WK AU<|al fun _ AV=>ay<|WS fun _ AW=>?_
 obtain ⟨d,hd⟩:=aM ht j om
 obtain ⟨da,Ai⟩:=aM G.2 j om
 have A_:(List.zipWith ax.cells ht G.2)[j]? =some (ax.cells d da):=dT hd Ai
 refine rS (IA j U (show iU _ (rd G.1.1 ht.length 7 (List.zipWith ax.cells ht G.2)).holds from (dy 10 U (b_ D BG cj))) xn dc om om)<|rS (ot j 0 (bu.cells (bu.mk d.Out d.eK d.Time (eG.mk d.cz.Start d.cz.gf (aN.mk da.1 d.cz.ak.length da.2)))) U cd (show iU _ (rd G.1.1 ht.length 7 (List.zipWith ax.cells ht G.2)).holds from (dy 10 U (b_ D BG cj))) A_ U dc U U)<|AL U M5 fun BR=>fQ U Pr U<|RK AW<|WS fun _ AX=>bo 1 U<|rS (LP (bJ.cells (lh r.ah kA kC cA cC bA bC)) 2 U cd U U U)<|rP 1 [] (mc 0 U I) ?_
 have BZ:=Aj.sig d (aU hd)
 refine rS (CL (Dp r.ah kA kC az cA cC bA bC d da.1 da.2 asm asm) (lO [3,4,5,6,7]<|aw (show iU _ (rd da.1 d.cz.ak.length 2 (d.cz.ak.map aO.cells)).holds from (dy 11 U (b_ D BG (cT _ (b_ hd Ai (by simp [ax.gW]))))))<|aK) U)<|bo 3 U<|AL U dg fun BS=>fQ U cu U<|bo 1 U<|RK AX<|al fun _ AY=>WS fun _ AZ=>rP 2 [] I ?_
 refine RK AZ<|bV U (bg fun M=>?_) (bh fun M=>?_)
 ·refine WK AY<|ao<|rP 2 [] (mc 0 U I) ?_
  refine cZ (xs:=[.tmp 119]) (cs:=(aa.cells (dC r.ah d))) U jG dg U U U U (by simp [Value.cells,aa.aT]) U U fun BT=>?_
  refine df (es2:=(List.map aa.cells ((ht.take (j+1)).map (dC r.ah)))) (m':=((ht.take (j+1)).map (dC r.ah)).length) 17 U U U EE U U sm (a_ (es:=List.map aa.cells [(dC r.ah d)]) 0 U U (by simp [aa.aT]) U) (gR _) (by simp only [List.length_map,List.length_take]; omega) (by simp only [maxLen,List.length_map,List.length_take]; omega) (by rw [List.take_add_one,hd]; simp) sq U fun Ao At=>?_
  try dsimp only
  refine bo 1 U<|aG<|aH<|KK AV<|ao<|rP 2 [] I ?_
  refine aG ?_
  have Af:(vI (((j+1):Nat):Int))=(vI ((j:Int)+1)):=by exact cI om
  refine aW (b ⟨((j+1),Ao,At),⟨om,uT F hd M⟩⟩ _ _ _ U os (cW 10<|bx U Af<|dB.nil _) (aL [3,4,5,6,7,8,9,10,11,12,13,14,15,16,17]))
 refine WS fun _ Aa=>rP 2 [] I ?_
 refine RK Aa<|aq<|LX hQ (false,60,0,0,none,0,[]) [] [] I U (by rfl) U U ?_
 exact q_<|pM (kl B (fun q:eV r=>by exact M ((q.oz ht (aU D)).2 d (aU hd))))
end
section
open Go.RowKit
theorem Ej (l:List Int) (lA:OA) (lC:Nat) (hlen:l.length=1):
 CT Tryz.prog 56 [(vS lA 1 lC)] [] (own lA lC 3 1 (l.map iC)) (fun (x:Unit)=>(vS lA 1 lC)) (fun (x:Unit)=>True) (fun (x:Unit)=>(own lA lC 3 1 (l.map iC))):=by
 refine mx kr Tryz.func56 U U fun E Q hQ hN=>?_
 try dsimp only
 refine WS fun _ A=>bo 1 U<|RK A<|al fun _ D=>WS fun _ B=>bo 2 U<|rS (SX (bZ (r:= .bool true) U U U gO) U U)<|RK B<|aQ U<|WS fun _ C=>rP 2 [] I ?_
 refine RK C<|aq<|LM hQ () 0 [] I U U U U ?_
 trivial
theorem DX (l:List Int) (lA:OA) (lC:Nat) (hlen:l.length=2):
 CT Tryz.prog 56 [(vS lA 2 lC)] [] (own lA lC 3 1 (l.map iC)) (fun (x:(List Int))=>(vS lA (HV l) lC)) (fun (x:(List Int))=>True) (fun (x:(List Int))=>(own lA lC 3 1 (x.map iC))):=by
 refine mx kr Tryz.func56 U U fun c Q hQ hN=>?_
 try dsimp only
 refine WS fun _ M=>bo 1 U<|RK M<|al fun _ N=>WS fun _ O=>bo 2 U<|rS (SX (bZ (r:= .bool false) U U U gO) U U)<|RK O<|aX U<|WK N<|al fun _ P=>WS fun _ R=>bo 1 U<|RK R<|ay<|jI 3<|eo fun R6 V=>al fun _ S=>WS fun _ T=>bo 3 U<|rS (SX (bZ (r:= .bool true) U U U gO) U U)<|RK T<|aQ U<|WK S<|al fun _ AA=>ay<|al fun _ B=>dq cy 10 kr<|dP 2 [] I ?_
 obtain ⟨x,hx⟩:=aM l 1 om
 have W:=bL iC hx
 refine dS (IA 1 U (aj (n:=2) 0 U sq) cx dc U om) ?_
 refine dS (fY 1 0 (vI x) U cd (aj (n:=l.length) 0 U sm) W U dc U)<|dP 2 [] I ?_
 refine dS (SX (bZ (r:= .int .i64 0) U U U (ru ⟨dc,dc⟩)) U U) ?_
 obtain ⟨y,hy⟩:=aM l 0 om
 have X:=bL iC hy
 refine dS (IA 0 U (aj (n:=2) 0 U sq) cx dc U om) ?_
 refine dS (fY 0 0 (vI y) U cd (aj (n:=l.length) 0 U sm) X U dc U)<|dP 1 [] I ?_
 refine cL<|RK B<|bV U (aR fun A=>?_) (aP fun A=>?_)
 ·refine cp<|aH<|KK AA<|ao<|bo 1 U<|rS (SX (bZ (r:= .int .i64 2) U U U (g8 ⟨dc,dc⟩)) U U)<|bo 1 U<|RK V<|eo fun R19 b=>al fun _ Z=>WS fun _ AB=>bo 3 U<|rS (SX (bZ (r:= .bool false) U U U gO) U U)<|RK AB<|aX U<|bE<|ag<|ag<|aA<|KK P<|WS fun _ J=>rP 2 [] I ?_
  refine RK J<|aq ?_
  refine LM hQ l 0 [] I U U U ?_ ?_
  ·(rw [AP hlen hy hx A,hlen]; rfl)
  ·trivial
 refine WS fun _ C=>rP 2 [] I ?_
 refine rS (U3 1 U cx U os) ?_
 refine bo 1 U<|RK C<|al fun _ D=>WS fun _ E=>bo 1 U<|RK E<|ay<|jI 2<|eo fun R14 a=>al fun _ Y=>WS fun _ F=>rP 4 [] I ?_
 refine RK F<|cO U (aP fun L=>?_) (aR fun L=>?_)
 ·exfalso; omega
 refine bE<|ag<|ag<|aA<|KK D<|WS fun _ G=>rP 2 [] I ?_
 refine rS (U3 1 U cx U os) ?_
 refine NF (k:=1) 0 rfl rfl pO (by intro v hv; simp [Value.cells] at hv; subst hv; rfl) rfl os om ?_
 try dsimp only
 rw [show (own lA lC 3 1 ((l.map iC).take 1))=(own lA lC 3 1 ((l.take 1).map iC)) from by rw [List.map_take]]
 refine RK G<|WS fun _ H=>Ig 0 U fun K=>?_
 simp only [List.length_map,List.length_take] at K
 refine bo 2 U<|rS (UN 1 U cx U om)<|rP 1 [] I ?_
 refine RK H<|aq ?_
 refine LM hQ (l.take 1) 0 [] I U U U ?_ ?_
 ·(rw [yR hlen hy hx A]; rfl)
 ·trivial
end
section
open Go.RowKit
theorem zb (r:cm) (kA:OA) (kC:Nat) (az:List RA) (cA:OA) (cC:Nat) (bA:OA) (bC:Nat) (slA:OA) (slC:Nat) (drA:OA) (drC:Nat) (ha:List cS) (heA:OA) (heC:Nat) (a:Int) (gq:Nat) (hin:fm r az ha):
 lE Tryz.prog 34 [(vA (br.cells (oE r kA kC cA cC bA bC slA slC drA drC heA heC))),(vS (some ⟨gq,0,none⟩) 1 1)] [(rd dH 3 2 dp),(rd kA r.ah.aI.length 9 (r.ah.aI.map an.cells)),(rd cA r.ah.ai.length 2 (List.zipWith au.cells r.ah.ai az)),(e9 (aS au.gW r.ah.ai az)),(rd bA r.ah.ae.length 4 (r.ah.ae.map bG.cells)),(rd slA r.aJ.length 1 (r.aJ.map iC)),(rd drA r.bB.length 1 (r.bB.map iC)),(rd heA r.ar.length 1 (List.zipWith cJ r.ar ha)),(e9 (aS iu r.ar ha)),(bY gq 3 [(vI a)])] (fun (x:Bool×Int×Nat×Nat×(OA)×Nat×(List RA)×(OA)×Nat)=>bif x.1 then (vT [(Value.pointer (some ⟨x.2.2.1,0,none⟩)),(vS x.2.2.2.2.2.2.2.1 1 x.2.2.2.2.2.2.2.2),(vI 0)]) else (vT [(Value.pointer none),(vS none 0 0),(vI x.2.1)])) (fun (x:Bool×Int×Nat×Nat×(OA)×Nat×(List RA)×(OA)×Nat)=>(x.1=true→(kG r a=0∧x.2.2.2.2.2.2.1.length=r.ar.length))∧(x.1=false→(x.2.1=kG r a∧ ¬ kG r a=0))) (fun (x:Bool×Int×Nat×Nat×(OA)×Nat×(List RA)×(OA)×Nat)=>bif x.1 then [(bY x.2.2.1 88 (fO.cells (fO.mk (oE r kA kC cA cC bA bC slA slC drA drC heA heC) (aN.mk x.2.2.2.2.1 ((cR r).length) x.2.2.2.2.2.1) (Value.map (some x.2.2.2.1))))),(own x.2.2.2.2.1 x.2.2.2.2.2.1 85 1 (List.zipWith DD (cR r) x.2.2.2.2.2.2.1)),(bq (aS CW (cR r) x.2.2.2.2.2.2.1)),(ik iV x.2.2.2.1 (bT dV (aF r))),(own x.2.2.2.2.2.2.2.1 x.2.2.2.2.2.2.2.2 38 2 ([(aB (aF r) a)].map aa.cells))] else []):=by
 have y:=hin.line
 have AN:=hin.iQ
 have AO:=hin.has
 have AF:=hin.iP
 have AE:=hin.draw
 have g:=dG (r:=r)
 refine dv kr Tryz.func34 U U fun w0 Q hQ hN=>?_
 try dsimp only
 refine WS fun _ w=>fR U fun b2=>bo 3 U<|RK w<|WS fun _ N=>rP 1 [] (mc 0 U I) ?_
 refine cX (nR r kA kC az cA cC bA bC slA slC drA drC ha heA heC hin) (bp [1,2,3,4,5,6,7,8,9]) U fun y4 j=>?_
 obtain ⟨k,AM,F,E,m,B,C⟩:=y4
 cases k
 ·obtain ⟨e,he⟩:=j.2 rfl
  try dsimp only at e he
  subst e
  try dsimp only [cond_true,cond_false,List.cons_append,List.nil_append]
  refine bo 5 U<|RK N<|al fun _ AB=>WS fun _ H=>rP 2 [] I ?_
  refine RK H<|bV U (bg fun G=>?_) (bh fun G=>?_)
  ·exact absurd G he
  refine WS fun _ AR=>rP 4 [] I ?_
  refine RK AR<|aq<|LX hQ (false,(bX r),0,0,none,0,[],none,0) [] [] I U (by rfl) U U ?_
  exact q_<|HZ (Il (i:=a) he) he
 obtain ⟨he,h⟩:=j.1 rfl
 try dsimp only [cond_true,cond_false,List.cons_append,List.nil_append]
 refine bo 5 U<|RK N<|al fun _ J=>WS fun _ K=>bo 1 U<|rS (SX (bZ (r:= .bool false) U U U ig) U U)<|RK K<|aX U<|WK J<|al fun _ L=>WS fun _ A=>rP 2 [] I ?_
 refine rS (CL (eg.eq (Aw r kA kC az cA cC bA bC slA slC drA drC ha heA heC C m B (Value.map (some E)) F ([a]) (some ⟨gq,0,none⟩) 1 hin (by (simp; done))) cU) (lO [6,7,8,9,10,11,12,13]<|aw (aj (n:=(cR r).length) 1 U (mF (by rw [g]; exact h)))<|aw (dR 2 U tp)<|fG 0 U U<|aw (nX 14 U U (by simp [bK]) U)<|aK) U) ?_
 refine rP 2 [] I ?_
 refine ct (t:=26) U (bh fun v=>?_) (bg fun v=>?_)
 ·refine bo 3 U<|bo 4 U<|bo 2 U<|RK A<|aQ U<|WS fun _ M=>rP 3 [] I ?_
  refine RK M<|aq<|LX hQ (false,2,0,0,none,0,[],none,0) [] [] I U (by rfl) U U ?_
  exact q_<|pM (HW (i:=a) he om)
 refine rP 1 [] I ?_
 refine cX (wS (some ⟨gq,0,none⟩) 1 1) (aK) U fun q AG=>?_
 try dsimp only
 refine cX (xy ([a]) (some ⟨gq,0,none⟩) 1 q (by (simp; done))) (aw (nX 15 U U (by simp [bK]) U)<|fG 0 U U<|aK) U fun AA AH=>?_
 obtain ⟨o,s⟩:=AA
 try dsimp only
 try dsimp only
 refine iI 0 U U U U (Ej (di ([a])) o s (by (simp; done))) U kb U (fun AP AI=>?_)
 try dsimp only
 refine bo 3 U<|rS (SX (bZ (r:= .bool false) U U U gO) U U)<|bo 1 U<|RK A<|aX U<|WK L<|WS fun _ O=>bo 1 U<|RK O<|al fun _ P=>WS fun _ R=>bo 3 U<|RK R<|ay<|jI 2<|eo fun R33 d=>WS fun _ S=>rS (SX (bZ (r:= .bool true) U U U gO) U U)<|RK S<|al fun _ T=>aQ U<|WK T<|al fun _ AQ=>ay<|WS fun _ V=>rS (Te 0 0 U cx U dc U)<|fD 2 [] (mr 16 U I) U<|RK V<|WS fun _ W=>bo 1 U<|rS (SX (bO U U) U U)<|fD 3 [] (mc 2 U I) U<|rS (SX (kv (kV:=iV) (x:=a) (l:=(aF r)) (f:=dV) (z:=(aa.mk 0 0)) U U U nK (eL pK) xd (by exact aD 5 U)) U U)<|bo 3 U<|AL U dg fun AJ=>fQ U cu U<|rP 1 [] I ?_
 refine RK W<|al fun _ X=>WS fun _ Y=>?_
 rw [show ((List.lookup a (aF r)).getD (aa.mk 0 0))=(aB (aF r) a) from rfl]
 refine rP 2 [] I ?_
 refine RK Y<|cO U (fun D=>?_) (fun D=>?_)
 ·rw [Bool.not_eq_true'] at D
  refine WS fun _ Z=>rP 3 [] I ?_
  refine RK Z<|aq<|LX hQ (false,6,0,0,none,0,[],none,0) [] [] I U (by rfl) U U ?_
  exact q_<|pM (Hz (i:=a) he om asm)
 rw [Bool.not_eq_false'] at D
 refine WK X<|ao<|rP 2 [] (mc 0 U I) ?_
 refine cZ (xs:=[.tmp 54]) (cs:=(aa.cells (aB (aF r) a))) U jG dg U U U U (by simp [Value.cells,aa.aT]) U U fun AK=>dM 38 2<|df (es2:=(List.map aa.cells ([(aB (aF r) a)]))) (m':=([(aB (aF r) a)]).length) 0 U U U EE U U sm (a_ (es:=List.map aa.cells [(aB (aF r) a)]) 1 U U (by simp [aa.aT]) U) (gR _) sm (by simp [maxLen]) sm sm U fun p u=>?_
 try dsimp only
 refine bo 1 U<|aG<|aH<|KK AQ<|ao<|rS (SX (bZ (r:= .int .i64 1) U U U (g8 ⟨dc,dc⟩)) U U)<|bo 1 U<|RK d<|eo fun R46 AD=>WS fun _ b=>rS (SX (bZ (r:= .bool false) U U U gO) U U)<|RK b<|al fun _ AC=>aX U<|bE<|ag<|ag<|aA<|KK P<|WS fun _ c=>rP 5 [] I ?_
 refine RK c<|aq ?_
 refine LX hQ (true,0,F,E,m,B,C,p,u) [5,6,7,8,0] [] I U (by (show List.all _ _=true; simp only [cond_true,fH,List.all_nil,wh,Bool.and_true]; rfl)) U U ?_
 exact ⟨fun _=>⟨Nl he om asm,h⟩,Np⟩
end
section
open Go.RowKit
theorem yo (r:cm) (kA:OA) (kC:Nat) (az:List RA) (cA:OA) (cC:Nat) (bA:OA) (bC:Nat) (slA:OA) (slC:Nat) (drA:OA) (drC:Nat) (ha:List cS) (heA:OA) (heC:Nat) (a b:Int) (gq:Nat) (hin:fm r az ha):
 lE Tryz.prog 34 [(vA (br.cells (oE r kA kC cA cC bA bC slA slC drA drC heA heC))),(vS (some ⟨gq,0,none⟩) 2 2)] [(rd dH 3 2 dp),(rd kA r.ah.aI.length 9 (r.ah.aI.map an.cells)),(rd cA r.ah.ai.length 2 (List.zipWith au.cells r.ah.ai az)),(e9 (aS au.gW r.ah.ai az)),(rd bA r.ah.ae.length 4 (r.ah.ae.map bG.cells)),(rd slA r.aJ.length 1 (r.aJ.map iC)),(rd drA r.bB.length 1 (r.bB.map iC)),(rd heA r.ar.length 1 (List.zipWith cJ r.ar ha)),(e9 (aS iu r.ar ha)),(bY gq 3 [(vI a),(vI b)])] (fun (x:Bool×Int×Nat×Nat×(OA)×Nat×(List RA)×(OA)×Nat)=>bif x.1 then (vT [(Value.pointer (some ⟨x.2.2.1,0,none⟩)),(vS x.2.2.2.2.2.2.2.1 2 x.2.2.2.2.2.2.2.2),(vI 0)]) else (vT [(Value.pointer none),(vS none 0 0),(vI x.2.1)])) (fun (x:Bool×Int×Nat×Nat×(OA)×Nat×(List RA)×(OA)×Nat)=>(x.1=true→(j_ r a b=0∧x.2.2.2.2.2.2.1.length=r.ar.length))∧(x.1=false→(x.2.1=j_ r a b∧ ¬ j_ r a b=0))) (fun (x:Bool×Int×Nat×Nat×(OA)×Nat×(List RA)×(OA)×Nat)=>bif x.1 then [(bY x.2.2.1 88 (fO.cells (fO.mk (oE r kA kC cA cC bA bC slA slC drA drC heA heC) (aN.mk x.2.2.2.2.1 ((cR r).length) x.2.2.2.2.2.1) (Value.map (some x.2.2.2.1))))),(own x.2.2.2.2.1 x.2.2.2.2.2.1 85 1 (List.zipWith DD (cR r) x.2.2.2.2.2.2.1)),(bq (aS CW (cR r) x.2.2.2.2.2.2.1)),(ik iV x.2.2.2.1 (bT dV (aF r))),(own x.2.2.2.2.2.2.2.1 x.2.2.2.2.2.2.2.2 38 2 ([(aB (aF r) a),(aB (aF r) b)].map aa.cells))] else []):=by
 have AK:=hin.line
 have Ad:=hin.iQ
 have Ae:=hin.has
 have AR:=hin.iP
 have AQ:=hin.draw
 have v:=dG (r:=r)
 refine dv kr Tryz.func34 U U fun w0 Q hQ hN=>?_
 try dsimp only
 refine WS fun _ AJ=>fR U fun b2=>bo 3 U<|RK AJ<|WS fun _ N=>rP 1 [] (mc 0 U I) ?_
 refine cX (nR r kA kC az cA cC bA bC slA slC drA drC ha heA heC hin) (bp [1,2,3,4,5,6,7,8,9]) U fun y4 y=>?_
 obtain ⟨AA,Ab,F,E,AB,C,D⟩:=y4
 cases AA
 ·obtain ⟨u,he⟩:=y.2 rfl
  try dsimp only at u he
  subst u
  try dsimp only [cond_true,cond_false,List.cons_append,List.nil_append]
  refine bo 5 U<|RK N<|al fun _ AN=>WS fun _ H=>rP 2 [] I ?_
  refine RK H<|bV U (bg fun G=>?_) (bh fun G=>?_)
  ·exact absurd G he
  refine WS fun _ Ah=>rP 4 [] I ?_
  refine RK Ah<|aq<|LX hQ (false,(bX r),0,0,none,0,[],none,0) [] [] I U (by rfl) U U ?_
  exact q_<|HZ (Ln (a:=a) (b:=b) he) he
 obtain ⟨he,w⟩:=y.1 rfl
 try dsimp only [cond_true,cond_false,List.cons_append,List.nil_append]
 refine bo 5 U<|RK N<|al fun _ J=>WS fun _ K=>bo 1 U<|rS (SX (bZ (r:= .bool false) U U U ig) U U)<|RK K<|aX U<|WK J<|al fun _ L=>WS fun _ B=>rP 2 [] I ?_
 refine rS (CL (eg.eq (Aw r kA kC az cA cC bA bC slA slC drA drC ha heA heC D AB C (Value.map (some E)) F ([a,b]) (some ⟨gq,0,none⟩) 2 hin (by (simp; done))) qN) (lO [6,7,8,9,10,11,12,13]<|aw (aj (n:=(cR r).length) 1 U (mF (by rw [v]; exact w)))<|aw (dR 2 U tp)<|fG 0 U U<|aw (nX 14 U U (by simp [bK]) U)<|aK) U) ?_
 refine rP 2 [] I ?_
 refine ct (t:=26) U (bh fun AH=>?_) (bg fun AH=>?_)
 ·refine bo 3 U<|bo 4 U<|bo 2 U<|RK B<|aQ U<|WS fun _ M=>rP 3 [] I ?_
  refine RK M<|aq<|LX hQ (false,2,0,0,none,0,[],none,0) [] [] I U (by rfl) U U ?_
  exact q_<|pM (BX (a:=a) (b:=b) he om)
 refine rP 1 [] I ?_
 refine cX (wS (some ⟨gq,0,none⟩) 2 2) (aK) U fun AE AS=>?_
 try dsimp only
 refine cX (xy ([a,b]) (some ⟨gq,0,none⟩) 2 AE (by (simp; done))) (aw (nX 15 U U (by simp [bK]) U)<|fG 0 U U<|aK) U fun AM AT=>?_
 obtain ⟨AC,AF⟩:=AM
 try dsimp only
 try dsimp only
 refine iI 0 U U U U (DX (di ([a,b])) AC AF (by (simp; done))) U kb U (fun Af AU=>?_)
 try dsimp only
 refine rP 3 [] I ?_
 have Ac:=KF a b
 refine rP 2 [] I ?_
 refine RK B<|cO U (aP fun AI=>?_) (aR fun AI=>?_)
 ·refine WS fun _ O=>rP 3 [] I ?_
  refine RK O<|aq<|LX hQ (false,2,0,0,none,0,[],none,0) [] [] I U (by rfl) U U ?_
  exact q_<|pM (BX (a:=a) (b:=b) he om)
 refine WK L<|WS fun _ P=>bo 1 U<|RK P<|al fun _ R=>WS fun _ S=>bo 3 U<|RK S<|ay<|jI 3<|eo fun R35 q=>WS fun _ T=>rS (SX (bZ (r:= .bool true) U U U gO) U U)<|RK T<|al fun _ Ag=>aQ U<|WK Ag<|al fun _ V=>ay<|WS fun _ W=>rS (Te 0 0 U cx U dc U)<|fD 2 [] (mr 16 U I) U<|RK W<|WS fun _ X=>bo 1 U<|rS (SX (bO U U) U U)<|fD 3 [] (mc 2 U I) U<|rS (SX (kv (kV:=iV) (x:=a) (l:=(aF r)) (f:=dV) (z:=(aa.mk 0 0)) U U U nK (eL pK) xd (by exact aD 5 U)) U U)<|bo 3 U<|AL U dg fun AW=>fQ U cu U<|rP 1 [] I ?_
 refine RK X<|al fun _ Y=>WS fun _ Z=>?_
 rw [show ((List.lookup a (aF r)).getD (aa.mk 0 0))=(aB (aF r) a) from rfl]
 refine rP 2 [] I ?_
 refine RK Z<|cO U (fun A=>?_) (fun A=>?_)
 ·rw [Bool.not_eq_true'] at A
  refine WS fun _ c=>rP 3 [] I ?_
  refine RK c<|aq<|LX hQ (false,6,0,0,none,0,[],none,0) [] [] I U (by rfl) U U ?_
  exact q_<|pM (zg (a:=a) (b:=b) he om (by exact .inl asm))
 rw [Bool.not_eq_false'] at A
 refine WK Y<|ao<|rP 2 [] (mc 0 U I) ?_
 refine cZ (xs:=[.tmp 54]) (cs:=(aa.cells (aB (aF r) a))) U jG dg U U U U (by simp [Value.cells,aa.aT]) U U fun AX=>dM 38 2<|df (es2:=(List.map aa.cells ([(aB (aF r) a)]))) (m':=([(aB (aF r) a)]).length) 0 U U U EE U U sm (a_ (es:=List.map aa.cells [(aB (aF r) a)]) 1 U U (by simp [aa.aT]) U) (gR _) sm (by simp [maxLen]) sm sm U fun AV Aa=>?_
 try dsimp only
 refine bo 1 U<|aG<|aH<|KK V<|ao<|rS (SX (bZ (r:= .int .i64 1) U U U (g8 ⟨dc,dc⟩)) U U)<|bo 1 U<|RK q<|eo fun R48 s=>WS fun _ d=>rS (SX (bZ (r:= .bool true) U U U gO) U U)<|RK d<|al fun _ e=>aQ U<|WK e<|al fun _ g=>ay<|WS fun _ h=>rS (Te 1 1 U cx U dc U)<|fD 2 [] (mr 19 U I) U<|RK h<|WS fun _ i=>bo 1 U<|rS (SX (bO U U) U U)<|fD 3 [] (mc 5 U I) U<|rS (SX (kv (kV:=iV) (x:=b) (l:=(aF r)) (f:=dV) (z:=(aa.mk 0 0)) U U U nK (eL pK) xd (by exact aD 8 U)) U U)<|bo 3 U<|AL U dg fun AY=>fQ U cu U<|rP 1 [] I ?_
 refine RK i<|al fun _ j=>WS fun _ k=>?_
 rw [show ((List.lookup b (aF r)).getD (aa.mk 0 0))=(aB (aF r) b) from rfl]
 refine rP 2 [] I ?_
 refine RK k<|cO U (fun A=>?_) (fun A=>?_)
 ·rw [Bool.not_eq_true'] at A
  refine WS fun _ m=>rP 3 [] I ?_
  refine RK m<|aq<|LX hQ (false,6,0,0,none,0,[],none,0) [] [] I U (by rfl) U U ?_
  exact q_<|pM (zg (a:=a) (b:=b) he om (by exact .inr asm))
 rw [Bool.not_eq_false'] at A
 refine WK j<|ao<|rP 2 [] (mc 0 U I) ?_
 refine cZ (xs:=[.tmp 54]) (cs:=(aa.cells (aB (aF r) b))) U jG dg U U U U (by simp [Value.cells,aa.aT]) U U fun AZ=>df (es2:=(List.map aa.cells ([(aB (aF r) a),(aB (aF r) b)]))) (m':=([(aB (aF r) a),(aB (aF r) b)]).length) 2 U U U EE U U sm (a_ (es:=List.map aa.cells [(aB (aF r) b)]) 0 U U (by simp [aa.aT]) U) (gR _) sm (by simp [maxLen]) sm sm U fun AD AG=>?_
 try dsimp only
 refine bo 1 U<|aG<|aH<|KK g<|ao<|rS (SX (bZ (r:= .int .i64 2) U U U (g8 ⟨dc,dc⟩)) U U)<|bo 1 U<|RK s<|eo fun R61 AP=>WS fun _ o=>rS (SX (bZ (r:= .bool false) U U U gO) U U)<|RK o<|al fun _ AO=>aX U<|bE<|ag<|ag<|aA<|KK R<|WS fun _ p=>rP 5 [] I ?_
 refine RK p<|aq ?_
 refine LX hQ (true,0,F,E,AB,C,D,AD,AG) [7,8,9,10,2] [] I U (by (show List.all _ _=true; simp only [cond_true,fH,List.all_nil,wh,Bool.and_true]; rfl)) U U ?_
 exact ⟨fun _=>⟨NM he om asm asm,w⟩,Np⟩
end
section
open Go.RowKit
theorem KE (m:qo) (gm g1:Nat):
 Ds Tryz.prog 83 [] [(vP g1)] [(ik iV gm (bT vB m)),(bY g1 62 [(Value.map (some gm))])] ([]:List Int) (fun ys x ys'=> ∃ n zs,(ys++[n]++zs).Perm (m.map (·.1))∧x=[vI n]∧ys'=ys++[n]) (fun ys=>ys.Perm (m.map (·.1))):=by
 refine sK kr Tryz.func83 U U fun l J Z A0 S Q hY M L hQ hN=>?_
 try dsimp only
 refine WS fun _ O=>rP 1 [] (mr 2 U I) ?_
 refine jL (kV:=iV) (m:=bT vB m) 1 U U BF U ⟨U,fun h=>h⟩ (by exact kU 1 U) U fun V=>?_
 try dsimp only
 refine RK O<|ay ?_
 have G:(og m m ([]:List Int))∧(∀ p∈m,p∈m)∧(J ([]:List Int) A0)∧(Fo A0 S A0):=by exact ⟨u9,fun p hp=>hp,M,L⟩
 refine bS (ι:={z:qo×(List Int)×av // (og m z.1 z.2.1)∧(∀ p∈z.1,p∈m)∧(J z.2.1 z.2.2)∧(Fo A0 S z.2.2)}) [0,1,5] [2,3] U U (fun z=>[]) (fun z=>[(yx iV V gm (bT vB m) (bT vB z.1.1) none),z.1.2.2]) (fun _=>rfl) (fun _=>rfl) (fun z=>z.1.1.length) ⟨(m,([]:List Int),A0),G⟩ (dB.nil _) (aL [2,3,0,1]) ?_
 clear G
 rintro ⟨⟨left,ys,A⟩,⟨B,H,C,D⟩⟩ J3 N
 try dsimp only at B H C D
 try dsimp only
 refine WS fun _ AB=>iW (eL pK).inj (f:=Value.bool) 2 U U U U (fun T=>?_) (fun x y hm hn=>?_)
 ·refine rP 1 [] I ?_
  refine RK AB<|al fun _ AA=>aX U<|bE<|ag<|ag<|aA ?_
  refine hN _ _ _ (gV (vs:=[]) trivial fun w hs=>Kn 3 U (by rw [T] at B; exact w5 B) C D hs)
 try dsimp only
 refine bo 1 U<|RK AB<|al fun _ P=>aQ U<|WK P<|ay<|WS fun _ R=>rS (SX (ja 2 U U U) U U)<|bo 2 U<|RK R<|WS fun _ K=>rP 2 [] I ?_
 refine kf (k:=ys) (k':=(ys++[(x)])) 3 (by first|exact hsz|exact Nat.le_refl _) hY C D U U U (by exact ⟨x,_,nV hn hm B,U,U⟩) U U (fun B9 F E=>?_) (fun B9 F E=>?_)
 rotate_left 1
 ·refine rP 1 [] I ?_
  refine RK K<|aQ U<|aq ?_
  refine hQ _ _ _ (gV (vs:=[]) trivial fun w hs=>rn 3 U F E hs)
 refine rP 1 [] I ?_
 refine RK K<|aX U<|cp<|aH<|gQ 2 U fz U ?_
 refine aW (N ⟨((cD left x),(ys++[(x)]),B9),⟨nV hn hm B,fU H,F,E⟩⟩ _ _ _ U (eW hm) (aV U) (aL [0,1,2,3]))
theorem M7 (gm:Nat):
 lE Tryz.prog 59 [(Value.map (some gm))] [] (fun (x:Nat)=>(Value.func (.func 83) [].toArray [(vP x)].toArray)) (fun (x:Nat)=>True) (fun (x:Nat)=>[(bY x 62 [(Value.map (some gm))])]):=by
 refine dv kr Tryz.func59 U U fun D Q hQ hN=>?_
 try dsimp only
 refine WS fun _ A=>uh U U fun C=>bo 1 U<|RK A<|WS fun _ B=>rS (FU U)<|rP 1 [] I ?_
 refine RK B<|aq<|LX hQ C [0] [] I U U U U ?_
 trivial
end
section
open Go.RowKit
theorem GC (m:qo) (gm g1:Nat) (hlen:m.length≤12):
 lE Tryz.prog 85 [(vS none 0 0),(Value.func (.func 83) [].toArray [(vP g1)].toArray)] [(ik iV gm (bT vB m)),(bY g1 62 [(Value.map (some gm))])] (fun (x:(List Int)×(OA)×Nat)=>(vS x.2.1 x.1.length x.2.2)) (fun (x:(List Int)×(OA)×Nat)=>x.1.Perm (m.map (·.1))) (fun (x:(List Int)×(OA)×Nat)=>[(own x.2.1 x.2.2 3 1 (x.1.map iC))]):=by
 refine dv kr Tryz.func85 U U fun X Q hQ hN=>?_
 try dsimp only
 refine WS fun _ AB=>uh U U fun N=>bo 1 U<|RK AB<|al fun _ J=>WS fun _ K=>rP 1 [] I ?_
 refine RK K<|ay<|kp 1 U (by exact fun _ h=>h)<|kp 3 U (by exact fun _ h=>h)<|fT 3 1 ?_
 refine nx (L0:=[(2,(vP N))]) (F:=[(ik iV gm (bT vB m)).ro,(bY g1 62 [(Value.map (some gm))]).ro]) (fun k (y:(OA)×Nat)=>(∃ zs,(k++zs).Perm (m.map (·.1)))) (fun k y=>[(own y.1 y.2 3 1 (k.map iC)),(bY N 29 [(vS y.1 k.length y.2)]),(ik iV gm (bT vB m)).ro]) (fun _ (_:Unit)=>False) (fun _ _=>[]) [0,3,4] [2,1] (none,0) rfl rfl (KE m gm g1) rfl rfl rfl (by exact ⟨_,List.Perm.refl _⟩) (by simp only [List.forall_mem_cons,List.not_mem_nil,false_imp_iff,implies_true,and_true]; exact ⟨⟨_,sm,(dD (bQ _))⟩,⟨_,sm,(dD (bQ _))⟩⟩) (by rintro k x AA ⟨n,zs,_,rfl,_⟩; rfl) rfl (aV rfl) ?_ ?_ (fun _ _ _ h=>h.elim) (fun _ _ h=>h.elim)
 rotate_left 1
 ·rintro V k ⟨a,c⟩ E A
  have B:=A
  try dsimp only at B
  try dsimp only
  refine aH<|KK J<|WS fun _ C=>rP 2 [] (mc 4 U I) ?_
  refine RK C<|aq<|hQ _ _ _ (oi 0 U U<|gV (vs:=[(vS a k.length c)]) ⟨U,trivial⟩ fun w hs=>Ly (k,a,c) [3] ?_ ?_ U U U hs)
  ·rfl
  ·first|exact E|exact hys
 rintro k x AA ⟨a,c⟩ l ra rb S Y K5 Qr6 T hx G L D O P
 obtain ⟨n,zs,hn,rfl,rfl⟩:=hx; have M:=hn.length_eq; simp only [List.length_append,List.length_map,List.length_singleton] at M
 have B:=G
 try dsimp only at B
 try dsimp only
 refine ao<|rP 1 [] I ?_
 refine aG<|aW (L _ _ ?_)
 refine ay<|ao<|rP 2 [] (mc 2 U I) ?_
 refine cZ (xs:=[.tmp 9]) (cs:=[(vI n)]) U cx i_ U U U U (by simp [Value.cells]) U U fun W=>?_
 refine df (es2:=(List.map iC (k++[n]))) (m':=(k++[n]).length) 2 U U U pO U U sm (a_ (es:=List.map iC [n]) 0 U U (by simp [bK]) U) (j9 _) os (by simp only [maxLen]; omega) sm sm U fun R H=>?_
 try dsimp only
 refine TR U zX U U<|aG<|aH ?_
 exact D (R,H) _ _ (by exact ⟨_,hn⟩) (aL [1,2,3,4])
end
section
open Go.RowKit
theorem DC (m:qo) (gm g1:Nat) (hlen:m.length≤12):
 lE Tryz.prog 63 [(Value.func (.func 83) [].toArray [(vP g1)].toArray)] [(ik iV gm (bT vB m)),(bY g1 62 [(Value.map (some gm))])] (fun (x:(List Int)×(OA)×Nat)=>(vS x.2.1 x.1.length x.2.2)) (fun (x:(List Int)×(OA)×Nat)=>x.1.Perm (m.map (·.1))) (fun (x:(List Int)×(OA)×Nat)=>[(own x.2.1 x.2.2 3 1 (x.1.map iC))]):=by
 refine dv kr Tryz.func63 U U fun AA Q hQ hN=>?_
 try dsimp only
 refine WS fun _ A=>bo 1 U<|RK A<|WS fun _ B=>rP 1 [] I ?_
 refine cX (GC m gm g1 hlen) (bp [0,1]) U fun H C=>?_
 obtain ⟨E,F,G⟩:=H
 try dsimp only
 have D:=C
 refine rP 1 [] I ?_
 refine RK B<|aq<|LX hQ (E,F,G) [0] [] I U U U U ?_
 first|exact hfin|exact D
theorem Gw (m:qo) (gm g1:Nat) (hlen:m.length≤12):
 lE Tryz.prog 41 [(Value.func (.func 83) [].toArray [(vP g1)].toArray)] [(ik iV gm (bT vB m)),(bY g1 62 [(Value.map (some gm))])] (fun (x:(OA)×Nat)=>(vS x.1 m.length x.2)) (fun (x:(OA)×Nat)=>True) (fun (x:(OA)×Nat)=>[(own x.1 x.2 3 1 ((di (m.map (·.1))).map iC))]):=by
 refine dv kr Tryz.func41 U U fun M Q hQ hN=>?_
 try dsimp only
 refine WS fun _ E=>bo 1 U<|RK E<|WS fun _ F=>rP 1 [] I ?_
 refine cX (DC m gm g1 hlen) (bp [0,1]) U fun L H=>?_
 obtain ⟨AA,J,K⟩:=L
 try dsimp only
 have D:=H
 refine bo 1 U<|RK F<|WS fun _ G=>rP 1 [] I ?_
 have B:=D.length_eq
 simp only [List.length_map] at B
 refine iI 0 U U U U (zU AA J K om) U kb U (fun ms C=>?_)
 try dsimp only
 refine RK G<|WS fun _ A=>?_
 obtain rfl:=pV (C.1.trans D) C.2
 skip
 refine rP 2 [] I ?_
 refine RK A<|aq ?_
 refine LX hQ (J,K) [0] [] I U U U ?_ ?_
 ·first|rfl|(rw [B]; rfl)
 ·trivial
end
section
open Go.RowKit
theorem Kg (m:qo) (gm:Nat):
 lE Tryz.prog 57 [(Value.map (some gm))] [(ik iV gm (bT vB m))] (fun (x:Nat)=>(Value.map (some x))) (fun (x:Nat)=>True) (fun (x:Nat)=>[(ik iV x (bT vB m))]):=by
 refine dv Ue Tryz.func57 U U fun F Q hQ hN=>?_
 try dsimp only
 refine WS fun _ A=>bo 1 U<|RK A<|al fun _ B=>WS fun _ C=>bo 1 U<|rS (SX (bZ (r:= .bool false) U U U (Pw BF)) U U)<|RK C<|aX U<|WK B<|WS fun _ D=>rP 1 [] I ?_
 refine rS (SX (M4 U U BF) U U)<|Kt (kV:=iV) (fn:=Tryz.f81) U U Tryz.func81 U U U kr (by exact kU 0 U) U fun E=>?_
 try dsimp only
 refine rS (SX (Rr U U BF) U U)<|rP 1 [] I ?_
 refine RK D<|aq<|LX hQ E [0] [] I U U U U ?_
 trivial
end
section
open Go.RowKit
theorem GF (r:cm) (kA:OA) (kC:Nat) (cA:OA) (cC:Nat) (bA:OA) (bC:Nat) (slA:OA) (slC:Nat) (drA:OA) (drC:Nat) (heA:OA) (heC:Nat) (tA:OA) (tN tC:Nat) (gs gw:Nat) (m:g3) (i:Int) (g1 g2:Nat) (hb: ∀ p∈m,0≤p.2.Lo∧p.2.Lo≤p.2.Hi∧p.2.Hi≤30000000):
 Ds Tryz.prog 82 [] [(vP g1),(vP g2)] [(bY gw 88 (fO.cells (fO.mk (oE r kA kC cA cC bA bC slA slC drA drC heA heC) (aN.mk tA tN tC) (Value.map (some gs))))),(ik iV gs (bT dV m)),(bY g1 80 [(vP gw)]),(bY g2 3 [(vI i)])] ([]:List Int) (fun ys x ys'=> ∃ n,n∈(jx m i (aB m i))∧x=[vI n]∧ys'=ys++[n]) (fun ys=> ∀ n,n∈ys↔n∈(jx m i (aB m i))):=by
 have BF:=gL (i:=i) hb
 refine sK kr Tryz.func82 U U fun l J Z A0 w0 Q hY An Am hQ hN=>?_
 try dsimp only
 refine al fun _ Ao=>dL cy [6,7] [] [] [0,1,2,3,4] [] U U U U U<|eS U (Tc 3 U cd U)<|eS U (SX (bO U U) U U)<|eS U (FA 12 U fB U)<|eS U (HN (Value.map (some gs)) 1 U cd U U)<|eS U (Tc 4 U cd U)<|eS U (SX (kM (kV:=iV) (x:=i) (l:=m) (f:=dV) (z:=(aa.mk 0 0)) U U U nK (eL pK) xd (by exact kU 2 U)) U U)<|e7 U<|cf U fun T2 Aq=>AL U dg fun b3=>aG (Aq _ _ (aL [1,2,3,4,5]) ?_)
 refine cf U fun T4 Ar=>fQ U cu U<|aG (Ar _ _ (aL [1,2,3,4,5]) ?_)
 refine fK U<|KK Ao<|al fun _ Ap=>WS fun _ AR=>?_
 rw [show ((List.lookup i m).getD (aa.mk 0 0))=(aB m i) from rfl]
 refine rP 3 [] (mc 0 U I) ?_
 refine kf (k:=([]:List Int)) (k':=(([]:List Int)++[((aB m i).Lo)])) 1 (by first|exact hsz|exact Nat.le_refl _) hY An Am U U U (by exact ⟨_,cj ..,U,U⟩) U U (fun B7 u s=>?_) (fun B7 u s=>?_)
 rotate_left 1
 ·refine rP 1 [] I ?_
  refine RK AR<|aQ U<|aq ?_
  refine hQ _ _ _ (gV (vs:=[]) trivial fun w hs=>rn 1 U u s hs)
 refine bo 1 U<|RK AR<|aX U<|WK Ap<|WS fun _ AA=>fD 1 [] (mr 4 U I) U<|rS (SX (bO U U) U U)<|rP 2 [] (mr 2 U I) ?_
 refine jL (kV:=iV) (m:=bT dV m) 3 U U nK U ⟨U,fun h=>h⟩ (by exact kU 3 U) U fun At=>?_
 try dsimp only
 refine RK AA<|ay ?_
 have j:(yr m i (aB m i) m (([]:List Int)++[((aB m i).Lo)]))∧(∀ p∈m,p∈m)∧(J (([]:List Int)++[((aB m i).Lo)]) B7)∧(Fo A0 w0 B7):=by exact ⟨JB,fun p hp=>hp,asm,asm⟩
 refine bS (ι:={z:g3×(List Int)×av // (yr m i (aB m i) z.1 z.2.1)∧(∀ p∈z.1,p∈m)∧(J z.2.1 z.2.2)∧(Fo A0 w0 z.2.2)}) [0,1,2,4,24] [1,3,4,5,6] U U (fun z=>[]) (fun z=>[(yx iV At gs (bT dV m) (bT dV z.1.1) none),z.1.2.2]) (fun _=>rfl) (fun _=>rfl) (fun z=>z.1.1.length) ⟨(m,(([]:List Int)++[((aB m i).Lo)]),B7),j⟩ (dB.nil _) (aL [1,3,4,5,6,0,2]) ?_
 clear j
 rintro ⟨⟨left,ys,A⟩,⟨D,B,E,F⟩⟩ J12 G
 try dsimp only at D B E F
 try dsimp only
 refine WS fun _ o=>iW (eL pK).inj (f:=dV) 5 U U U U (fun q=>?_) (fun x y hm hn=>?_)
 ·refine rP 1 [] I ?_
  refine RK o<|al fun _ Au=>aX U<|bE<|ag<|ag<|aA ?_
  refine hN _ _ _ (gV (vs:=[]) trivial fun w hs=>Kn 6 U (by rw [q] at D; exact MW D) E F hs)
 try dsimp only
 refine bo 1 U<|RK o<|al fun _ AB=>aQ U<|WK AB<|ay<|WS fun _ AC=>rS (SX (ja 5 U U U) U U)<|bo 2 U<|AL U dg fun BE=>bo 1 U<|fQ U cu U<|RK AC<|WS fun _ AD=>rP 1 [] I ?_
 have As:=hb _ (B _ hm)
 dsimp only at As
 refine fD 5 [] (mc 0 U I) U<|rS (SX (bj (xs:=[(0,.tmp 32),(1,.tmp 35)]) (cs:=[(vI (y.Lo+1)),(vI (y.Hi+1))]) U U (bk Q4 U)) U U)<|bo 1 U<|RK AD<|ay<|jI 3<|eo fun R19 c=>WS fun _ AE=>rS (SX (bZ (r:= .bool true) U U U gO) U U)<|RK AE<|al fun _ AF=>aQ U<|WK AF<|al fun _ X=>ay<|WS fun _ AG=>rS (SX (qX (v:=(vI (y.Lo+1))) 0 U U U Fu cd U dc U) U U)<|bo 1 U<|RK AG<|WS fun _ M=>rP 4 [] (mr 5 U I) ?_
 refine ck (t:=43) U (bg fun q=>?_) (bh fun q=>?_)
 ·refine bo 14 U<|RK M<|aX U<|cp<|aH<|KK X<|ao<|rS (SX (bZ (r:= .int .i64 1) U U U (g8 ⟨dc,dc⟩)) U U)<|bo 1 U<|RK c<|eo fun R73 g=>WS fun _ AV=>rS (SX (bZ (r:= .bool true) U U U gO) U U)<|RK AV<|al fun _ AW=>aQ U<|WK AW<|al fun _ b=>ay<|WS fun _ AX=>rS (SX (qX (v:=(vI (y.Hi+1))) 1 U U U Fu cd U dc U) U U)<|bo 1 U<|RK AX<|WS fun _ P=>rP 4 [] (mr 5 U I) ?_
  refine ck (t:=43) U (bg fun Ak=>?_) (bh fun Ak=>?_)
  ·refine bo 14 U<|RK P<|aX U<|cp<|aH<|KK b<|ao<|rS (SX (bZ (r:= .int .i64 2) U U U (g8 ⟨dc,dc⟩)) U U)<|rP 1 [] I ?_
   refine RK g<|eo fun R91 BC=>WS fun _ Aa=>rS (SX (bZ (r:= .bool false) U U U gO) U U)<|RK Aa<|al fun _ A4=>aX U<|bE<|ag<|ag<|aA<|aH<|gQ 6 U fz U ?_
   refine aW (G ⟨((cD left x),ys,A),⟨kW hn hm B D (fun n C=>by first|exact C|(simp [C]; done)) (fun n C=>by exact .inl C) (fun L n C K=>by simp only [er,List.not_mem_nil,or_false] at C; rcases C with rfl|rfl<;>first|(simp; done)|(exfalso; omega)),fU B,E,F⟩⟩ _ _ _ rfl (eW hm) (aV rfl) (aL [1,2,3,4,5,6,7]))
  refine fD 5 [] (mc 1 U I) U<|cZ (xs:=[.tmp 48]) (cs:=[(vI (y.Hi+1))]) U cx i_ U U U U (by simp [Value.cells]) U U fun Ae=>rS (CL (eg.eq (j0 ((aB m i).Lo) ((aB m i).Hi) ([(y.Hi+1)]) (some ⟨Ae,0,none⟩) 1 om) cU) (aw (a_ 0 U U (by simp [bK]) U)<|aK) U)<|rP 2 [] I ?_
  refine ck (t:=52) U (aR fun Al=>?_) (aP fun Al=>?_)
  ·refine bo 5 U<|RK P<|aX U<|cp<|aH<|KK b<|ao<|rS (SX (bZ (r:= .int .i64 2) U U U (g8 ⟨dc,dc⟩)) U U)<|rP 1 [] I ?_
   refine RK g<|eo fun R88 BB=>WS fun _ AZ=>rS (SX (bZ (r:= .bool false) U U U gO) U U)<|RK AZ<|al fun _ A3=>aX U<|bE<|ag<|ag<|aA<|aH<|gQ 7 U fz U ?_
   refine aW (G ⟨((cD left x),ys,A),⟨kW hn hm B D (fun n C=>by first|exact C|(simp [C]; done)) (fun n C=>by exact .inl C) (fun L n C K=>by simp only [er,List.not_mem_nil,or_false] at C; rcases C with rfl|rfl<;>first|(simp; done)|(exfalso; omega)),fU B,E,F⟩⟩ _ _ _ rfl (eW hm) (aV rfl) (aL [2,3,4,5,6,7,8]))
  refine rP 2 [] I ?_
  refine kf (k:=ys) (k':=(ys++[((y.Hi+1))])) 8 (by first|exact hsz|exact Nat.le_refl _) hY E F U U U (by exact ⟨_,mC (B _ hm) dso (by first|exact .inl rfl|exact .inr U) om,U,U⟩) U U (fun B82 W T=>?_) (fun B82 W T=>?_)
  rotate_left 1
  ·refine rP 2 [] I ?_
   refine RK P<|aQ U<|aq ?_
   refine hQ _ _ _ (gV (vs:=[]) trivial fun w hs=>rn 8 U W T hs)
  refine bo 2 U<|RK P<|aX U<|cp<|aH<|KK b<|ao<|rS (SX (bZ (r:= .int .i64 2) U U U (g8 ⟨dc,dc⟩)) U U)<|rP 1 [] I ?_
  refine RK g<|eo fun R85 BA=>WS fun _ AY=>rS (SX (bZ (r:= .bool false) U U U gO) U U)<|RK AY<|al fun _ A2=>aX U<|bE<|ag<|ag<|aA<|aH<|gQ 7 U fz U ?_
  refine aW (G ⟨((cD left x),(ys++[((y.Hi+1))]),B82),⟨kW hn hm B D (fun n C=>by first|exact C|(simp [C]; done)) (fun n C=>by (simp only [kH,bW] at C; rcases C with C|rfl<;>first|exact .inl C|exact .inr (mC (B _ hm) dso sm om))) (fun L n C K=>by simp only [er,List.not_mem_nil,or_false] at C; rcases C with rfl|rfl<;>first|(simp; done)|(exfalso; omega)),fU B,W,T⟩⟩ _ _ _ rfl (eW hm) (aV rfl) (aL [2,3,4,5,6,7,8]))
 refine rP 5 [] (mc 1 U I) ?_
 refine cZ (xs:=[.tmp 48]) (cs:=[(vI (y.Lo+1))]) U cx i_ U U U U (by simp [Value.cells]) U U fun Ab=>?_
 refine rS (CL (eg.eq (j0 ((aB m i).Lo) ((aB m i).Hi) ([(y.Lo+1)]) (some ⟨Ab,0,none⟩) 1 (by (simp; done))) cU) (aw (a_ 0 U U (by simp [bK]) U)<|aK) U) ?_
 refine rP 2 [] I ?_
 refine ck (t:=52) U (aR fun Af=>?_) (aP fun Af=>?_)
 ·refine bo 5 U<|RK M<|aX U<|cp<|aH<|KK X<|ao<|rS (SX (bZ (r:= .int .i64 1) U U U (g8 ⟨dc,dc⟩)) U U)<|bo 1 U<|RK c<|eo fun R52 e=>WS fun _ AO=>rS (SX (bZ (r:= .bool true) U U U gO) U U)<|RK AO<|al fun _ AP=>aQ U<|WK AP<|al fun _ a=>ay<|WS fun _ AQ=>rS (SX (qX (v:=(vI (y.Hi+1))) 1 U U U Fu cd U dc U) U U)<|bo 1 U<|RK AQ<|WS fun _ O=>rP 4 [] (mr 6 U I) ?_
  refine ck (t:=43) U (bg fun Ai=>?_) (bh fun Ai=>?_)
  ·refine bo 14 U<|RK O<|aX U<|cp<|aH<|KK a<|ao<|rS (SX (bZ (r:= .int .i64 2) U U U (g8 ⟨dc,dc⟩)) U U)<|rP 1 [] I ?_
   refine RK e<|eo fun R70 A_=>WS fun _ AU=>rS (SX (bZ (r:= .bool false) U U U gO) U U)<|RK AU<|al fun _ A1=>aX U<|bE<|ag<|ag<|aA<|aH<|gQ 7 U fz U ?_
   refine aW (G ⟨((cD left x),ys,A),⟨kW hn hm B D (fun n C=>by first|exact C|(simp [C]; done)) (fun n C=>by exact .inl C) (fun L n C K=>by simp only [er,List.not_mem_nil,or_false] at C; rcases C with rfl|rfl<;>first|(simp; done)|(exfalso; omega)),fU B,E,F⟩⟩ _ _ _ rfl (eW hm) (aV rfl) (aL [2,3,4,5,6,7,8]))
  refine rP 5 [] (mc 2 U I) ?_
  refine cZ (xs:=[.tmp 48]) (cs:=[(vI (y.Hi+1))]) U cx i_ U U U U (by simp [Value.cells]) U U fun Ad=>?_
  refine rS (CL (eg.eq (j0 ((aB m i).Lo) ((aB m i).Hi) ([(y.Hi+1)]) (some ⟨Ad,0,none⟩) 1 (by (simp; done))) cU) (aw (a_ 0 U U (by simp [bK]) U)<|aK) U) ?_
  refine rP 2 [] I ?_
  refine ck (t:=52) U (aR fun Aj=>?_) (aP fun Aj=>?_)
  ·refine bo 5 U<|RK O<|aX U<|cp<|aH<|KK a<|ao<|rS (SX (bZ (r:= .int .i64 2) U U U (g8 ⟨dc,dc⟩)) U U)<|rP 1 [] I ?_
   refine RK e<|eo fun R67 A9=>WS fun _ AT=>rS (SX (bZ (r:= .bool false) U U U gO) U U)<|RK AT<|al fun _ Az=>aX U<|bE<|ag<|ag<|aA<|aH<|gQ 8 U fz U ?_
   refine aW (G ⟨((cD left x),ys,A),⟨kW hn hm B D (fun n C=>by first|exact C|(simp [C]; done)) (fun n C=>by exact .inl C) (fun L n C K=>by simp only [er,List.not_mem_nil,or_false] at C; rcases C with rfl|rfl<;>first|(simp; done)|(exfalso; omega)),fU B,E,F⟩⟩ _ _ _ rfl (eW hm) (aV rfl) (aL [3,4,5,6,7,8,9]))
  refine rP 2 [] I ?_
  refine kf (k:=ys) (k':=(ys++[((y.Hi+1))])) 9 (by first|exact hsz|exact Nat.le_refl _) hY E F U U U (by exact ⟨_,mC (B _ hm) dso (by first|exact .inl rfl|exact .inr U) om,U,U⟩) U U (fun B61 V S=>?_) (fun B61 V S=>?_)
  rotate_left 1
  ·refine rP 2 [] I ?_
   refine RK O<|aQ U<|aq ?_
   refine hQ _ _ _ (gV (vs:=[]) trivial fun w hs=>rn 9 U V S hs)
  refine bo 2 U<|RK O<|aX U<|cp<|aH<|KK a<|ao<|rS (SX (bZ (r:= .int .i64 2) U U U (g8 ⟨dc,dc⟩)) U U)<|rP 1 [] I ?_
  refine RK e<|eo fun R64 A8=>WS fun _ AS=>rS (SX (bZ (r:= .bool false) U U U gO) U U)<|RK AS<|al fun _ Ay=>aX U<|bE<|ag<|ag<|aA<|aH<|gQ 8 U fz U ?_
  refine aW (G ⟨((cD left x),(ys++[((y.Hi+1))]),B61),⟨kW hn hm B D (fun n C=>by first|exact C|(simp [C]; done)) (fun n C=>by (simp only [kH,bW] at C; rcases C with C|rfl<;>first|exact .inl C|exact .inr (mC (B _ hm) dso sm om))) (fun L n C K=>by simp only [er,List.not_mem_nil,or_false] at C; rcases C with rfl|rfl<;>first|(simp; done)|(exfalso; omega)),fU B,V,S⟩⟩ _ _ _ rfl (eW hm) (aV rfl) (aL [3,4,5,6,7,8,9]))
 refine rP 2 [] I ?_
 refine kf (k:=ys) (k':=(ys++[((y.Lo+1))])) 8 (by first|exact hsz|exact Nat.le_refl _) hY E F U U U (by exact ⟨_,mC (B _ hm) dso (by first|exact .inl rfl|exact .inr U) om,U,U⟩) U U (fun B28 BG H=>?_) (fun B28 BG H=>?_)
 rotate_left 1
 ·refine rP 2 [] I ?_
  refine RK M<|aQ U<|aq ?_
  refine hQ _ _ _ (gV (vs:=[]) trivial fun w hs=>rn 8 U BG H hs)
 refine bo 2 U<|RK M<|aX U<|cp<|aH<|KK X<|ao<|rS (SX (bZ (r:= .int .i64 1) U U U (g8 ⟨dc,dc⟩)) U U)<|bo 1 U<|RK c<|eo fun R31 d=>WS fun _ AH=>rS (SX (bZ (r:= .bool true) U U U gO) U U)<|RK AH<|al fun _ AI=>aQ U<|WK AI<|al fun _ Y=>ay<|WS fun _ AJ=>rS (SX (qX (v:=(vI (y.Hi+1))) 1 U U U Fu cd U dc U) U U)<|bo 1 U<|RK AJ<|WS fun _ N=>rP 4 [] (mr 6 U I) ?_
 refine ck (t:=43) U (bg fun Ag=>?_) (bh fun Ag=>?_)
 ·refine bo 14 U<|RK N<|aX U<|cp<|aH<|KK Y<|ao<|rS (SX (bZ (r:= .int .i64 2) U U U (g8 ⟨dc,dc⟩)) U U)<|rP 1 [] I ?_
  refine RK d<|eo fun R49 A7=>WS fun _ AN=>rS (SX (bZ (r:= .bool false) U U U gO) U U)<|RK AN<|al fun _ Ax=>aX U<|bE<|ag<|ag<|aA<|aH<|gQ 7 U fz U ?_
  refine aW (G ⟨((cD left x),(ys++[((y.Lo+1))]),B28),⟨kW hn hm B D (fun n C=>by first|exact C|(simp [C]; done)) (fun n C=>by (simp only [kH,bW] at C; rcases C with C|rfl<;>first|exact .inl C|exact .inr (mC (B _ hm) dso sm om))) (fun L n C K=>by simp only [er,List.not_mem_nil,or_false] at C; rcases C with rfl|rfl<;>first|(simp; done)|(exfalso; omega)),fU B,BG,H⟩⟩ _ _ _ rfl (eW hm) (aV rfl) (aL [2,3,4,5,6,7,8]))
 refine rP 5 [] (mc 2 U I) ?_
 refine cZ (xs:=[.tmp 48]) (cs:=[(vI (y.Hi+1))]) U cx i_ U U U U (by simp [Value.cells]) U U fun Ac=>?_
 refine rS (CL (eg.eq (j0 ((aB m i).Lo) ((aB m i).Hi) ([(y.Hi+1)]) (some ⟨Ac,0,none⟩) 1 (by (simp; done))) cU) (aw (a_ 0 U U (by simp [bK]) U)<|aK) U) ?_
 refine rP 2 [] I ?_
 refine ck (t:=52) U (aR fun Ah=>?_) (aP fun Ah=>?_)
 ·refine bo 5 U<|RK N<|aX U<|cp<|aH<|KK Y<|ao<|rS (SX (bZ (r:= .int .i64 2) U U U (g8 ⟨dc,dc⟩)) U U)<|rP 1 [] I ?_
  refine RK d<|eo fun R46 A6=>WS fun _ AM=>rS (SX (bZ (r:= .bool false) U U U gO) U U)<|RK AM<|al fun _ Aw=>aX U<|bE<|ag<|ag<|aA<|aH<|gQ 8 U fz U ?_
  refine aW (G ⟨((cD left x),(ys++[((y.Lo+1))]),B28),⟨kW hn hm B D (fun n C=>by first|exact C|(simp [C]; done)) (fun n C=>by (simp only [kH,bW] at C; rcases C with C|rfl<;>first|exact .inl C|exact .inr (mC (B _ hm) dso sm om))) (fun L n C K=>by simp only [er,List.not_mem_nil,or_false] at C; rcases C with rfl|rfl<;>first|(simp; done)|(exfalso; omega)),fU B,BG,H⟩⟩ _ _ _ rfl (eW hm) (aV rfl) (aL [3,4,5,6,7,8,9]))
 refine rP 2 [] I ?_
 refine kf (k:=(ys++[((y.Lo+1))])) (k':=((ys++[((y.Lo+1))])++[((y.Hi+1))])) 9 (by first|exact hsz|exact Nat.le_refl _) hY BG H U U U (by exact ⟨_,mC (B _ hm) dso (by first|exact .inl rfl|exact .inr U) om,U,U⟩) U U (fun B40 BD R=>?_) (fun B40 BD R=>?_)
 rotate_left 1
 ·refine rP 2 [] I ?_
  refine RK N<|aQ U<|aq ?_
  refine hQ _ _ _ (gV (vs:=[]) trivial fun w hs=>rn 9 U BD R hs)
 refine bo 2 U<|RK N<|aX U<|cp<|aH<|KK Y<|ao<|rS (SX (bZ (r:= .int .i64 2) U U U (g8 ⟨dc,dc⟩)) U U)<|rP 1 [] I ?_
 refine RK d<|eo fun R43 A5=>WS fun _ AK=>rS (SX (bZ (r:= .bool false) U U U gO) U U)<|RK AK<|al fun _ Av=>aX U<|bE<|ag<|ag<|aA<|aH<|gQ 8 U fz U ?_
 refine aW (G ⟨((cD left x),((ys++[((y.Lo+1))])++[((y.Hi+1))]),B40),⟨kW hn hm B D (fun n C=>by first|exact C|(simp [C]; done)) (fun n C=>by (simp only [kH,bW] at C; rcases C with (C|rfl)|rfl<;>first|exact .inl C|exact .inr (mC (B _ hm) dso sm om))) (fun L n C K=>by simp only [er,List.not_mem_nil,or_false] at C; rcases C with rfl|rfl<;>first|(simp; done)|(exfalso; omega)),fU B,BD,R⟩⟩ _ _ _ rfl (eW hm) (aV rfl) (aL [3,4,5,6,7,8,9]))
theorem Iv (gw:Nat) (i:Int):
 lE Tryz.prog 58 [(vP gw),(vI i)] [] (fun (x:Nat×Nat)=>(Value.func (.func 82) [].toArray [(Value.pointer (some ⟨x.1,0,none⟩)),(Value.pointer (some ⟨x.2,0,none⟩))].toArray)) (fun (x:Nat×Nat)=>True) (fun (x:Nat×Nat)=>[(bY x.1 80 [(vP gw)]),(bY x.2 3 [(vI i)])]):=by
 refine dv kr Tryz.func58 U U fun E Q hQ hN=>?_
 try dsimp only
 refine WS fun _ A=>uh U U fun C=>uh U U fun D=>bo 1 U<|RK A<|WS fun _ B=>rS (FU U)<|rP 1 [] I ?_
 refine RK B<|aq<|LX hQ (C,D) [1,0] [] I U U U U ?_
 trivial
end
section
open Go.RowKit
theorem zt (r:cm) (kA:OA) (kC:Nat) (cA:OA) (cC:Nat) (bA:OA) (bC:Nat) (slA:OA) (slC:Nat) (drA:OA) (drC:Nat) (heA:OA) (heC:Nat) (tA:OA) (tN tC:Nat) (gs gw:Nat) (m:g3) (i:Int) (hb: ∀ p∈m,0≤p.2.Lo∧p.2.Lo≤p.2.Hi∧p.2.Hi≤30000000) (hi:m.lookup i≠none) (hm12:m.length≤12):
 lE Tryz.prog 36 [(vP gw),(vI i)] [(bY gw 88 (fO.cells (fO.mk (oE r kA kC cA cC bA bC slA slC drA drC heA heC) (aN.mk tA tN tC) (Value.map (some gs))))),(ik iV gs (bT dV m))] (fun (x:(OA)×Nat)=>(vS x.1 ((db m i (aB m i)).length) x.2)) (fun (x:(OA)×Nat)=>True) (fun (x:(OA)×Nat)=>[(own x.1 x.2 3 1 ((db m i (aB m i)).map iC))]):=by
 refine dv kr Tryz.func36 U U fun w0 Q hQ hN=>?_
 try dsimp only
 refine WS fun _ Ao=>uh U U fun b2=>uh U U fun b3=>rP 1 [] I ?_
 refine RK Ao<|WS fun _ Ap=>oI (kV:=iV) U U fun Av=>?_
 try dsimp only
 refine AL U Uw fun b6=>Gq U Tl U U<|RK Ap<|al fun _ Aq=>WS fun _ Ar=>fD 1 [] (mc 3 U I) U<|rS (SX (bO U U) U U)<|fD 2 [] (mr 4 U I) U<|rS (SX (Ec U U nK (by exact kU 5 U)) U U)<|rP 1 [] I ?_
 refine RK Ar<|ay ?_
 have A:(0≤m.length)∧(iK ([]:qo) (fun u=>1≤u∧u≤(0:Int))):=by exact ⟨Nat.zero_le _,LS fun k=>by omega⟩
 refine bS (ι:={z:Nat×qo // (z.1≤m.length)∧(iK z.2 (fun u=>1≤u∧u≤(z.1:Int)))}) [2,3,5,20] [0,2,3,4,5] U U (fun z=>[(21,(vI (z.1.1:Int)))]) (fun z=>[(ik iV Av (bT vB z.1.2))]) (fun _=>rfl) (fun _=>rfl) (fun z=>m.length-z.1.1) ⟨(0,([]:qo)),A⟩ (aV U) (aL [0,2,3,4,5,1]) ?_
 clear A
 rintro ⟨⟨n,nv⟩,⟨j,K⟩⟩ J9 An
 try dsimp only at j K
 try dsimp only
 refine WS fun _ AD=>rP 1 [] I ?_
 refine RK AD<|al fun _ AE=>cO U (aP fun Ak=>?_) (aR fun Ak=>?_)
 ·refine WK AE<|al fun _ AF=>ay<|WS fun _ AG=>bo 2 U<|RK AG<|ao<|fD 3 [] (mc 0 U I) U<|jW (kV:=iV) (x:=((n:Int)+1)) (C':=[_,_,_,_,_,(ik iV Av (bT vB (eT nv ((n:Int)+1) true)))]) 5 U U U U BF (eL pK) U (ia _ _ _ _).symm U<|aG<|aH<|KK AF<|ao<|rP 2 [] I ?_
  refine aG ?_
  have Af:(vI (((n+1):Nat):Int))=(vI ((n:Int)+1)):=by exact cI om
  refine aW (An ⟨((n+1),(eT nv ((n:Int)+1) true)),⟨om,(Ls K om).x7 fun k=>by omega⟩⟩ _ _ _ U os (cW 4<|bx U Af<|dB.nil _) (aL [0,1,2,3,4,5]))
 refine bE<|ag<|ag<|aA<|KK Aq<|WS fun _ AH=>rP 1 [] (mc 0 U I) ?_
 refine cX (Kg nv Av) (bp [5]) U fun G A7=>?_
 try dsimp only
 refine bo 1 U<|RK AH<|al fun _ AI=>WS fun _ AJ=>rP 2 [0,1] (mc 3 U (mc 2 U I)) ?_
 refine cX (Iv gw i) (aK) U fun Az A8=>?_
 obtain ⟨Z,c⟩:=Az
 try dsimp only
 refine RK AJ<|ay<|kp 6 U (by exact fun _ h=>h)<|kp 8 U (by exact fun _ h=>h) ?_
 refine nx (L0:=[(2,(vP b2)),(3,(vP b3)),(5,(vP b6)),(7,(Value.map (some G)))]) (F:=[(bY gw 88 (fO.cells (fO.mk (oE r kA kC cA cC bA bC slA slC drA drC heA heC) (aN.mk tA tN tC) (Value.map (some gs))))).ro,(ik iV gs (bT dV m)).ro,(bY Z 80 [(vP gw)]),(bY c 3 [(vI i)])]) (fun k (y:qo)=>(iK y (uw m i k))) (fun k y=>[(ik iV G (bT vB nv)),(bY b6 62 [(Value.map (some Av))]),(bY b3 3 [(vI i)]),(bY b2 80 [(vP gw)]),(bY gw 88 (fO.cells (fO.mk (oE r kA kC cA cC bA bC slA slC drA drC heA heC) (aN.mk tA tN tC) (Value.map (some gs))))).ro,(ik iV gs (bT dV m)).ro,(ik iV Av (bT vB y))]) (fun _ (_:Unit)=>False) (fun _ _=>[]) [4,5,6,7,8,9,10] [1,0,2,3] nv rfl rfl (GF r kA kC cA cC bA bC slA slC drA drC heA heC tA tN tC gs gw m i Z c (by exact hb)) rfl rfl rfl (by exact HX (K.x7 fun k=>by omega)) (by simp only [List.forall_mem_cons,List.not_mem_nil,false_imp_iff,implies_true,and_true]; exact ⟨⟨_,sm,(dD (bQ _))⟩,⟨_,sm,(dD (bQ _))⟩,⟨_,sm,(bQ _)⟩,⟨_,sm,(bQ _)⟩⟩) (by rintro k x k2 ⟨n,_,rfl,_⟩; rfl) rfl (aV rfl) ?_ ?_ (fun _ _ _ h=>h.elim) (fun _ _ h=>h.elim)
 rotate_left 1
 ·rintro BJ k nw Ag g
  have T:=g
  try dsimp only
  refine aH<|KK AI<|al fun _ Aa=>WS fun _ Ab=>rP 1 [] (mc 6 U I) ?_
  refine tH 11 U U BF U U fun Ax=>?_
  try dsimp only
  refine RK Ab<|ay ?_
  have A:(∀ p∈nw,p∈nw)∧(iK nv (fun u=>(1≤u∧u≤(m.length:Int))∧ ¬ (uw m i k u∧u ∉ nw.map (·.1)))):=by exact ⟨fun p hp=>hp,K.x7 fun u=>⟨fun q=>⟨om,fun z=>z.2 ((T.2 u).2 z.1)⟩,fun q=>by omega⟩⟩
  refine bS (ι:={z:qo×qo // (∀ p∈z.1,p∈nw)∧(iK z.2 (fun u=>(1≤u∧u≤(m.length:Int))∧ ¬ (uw m i k u∧u ∉ z.1.map (·.1))))}) [7,68] [0,1,2,9,10] U U (fun z=>[]) (fun z=>[(ik iV G (bT vB z.1.2)),(yk iV Ax Av (bT vB nw) (bT vB z.1.1) none)]) (fun _=>rfl) (fun _=>rfl) (fun z=>z.1.1.length) ⟨(nw,nv),A⟩ (dB.nil _) (aL [0,1,2,9,10,5,11]) ?_
  clear A
  rintro ⟨⟨left,rk⟩,⟨A2,J⟩⟩ J55 AC
  try dsimp only at A2 J
  try dsimp only
  refine WS fun _ X=>rQ (eL pK).inj (f:=Value.bool) 6 U U U U (fun Am=>?_) (fun u v Ah BB=>?_)
  rotate_left 1
  ·try dsimp only
   refine bo 1 U<|RK X<|al fun _ Ad=>aQ U<|WK Ad<|ay<|WS fun _ Ae=>rS (SX (rU 6 U U U) U U)<|bo 2 U<|RK Ae<|ao<|rP 2 [] I ?_
   refine o8 (kV:=iV) (x:=u) (C':=[_,_,_,_,_,(ik iV G (bT vB (cD rk u))),_]) 5 U U U U BF (eL pK) U (ly _ _ _).symm U<|aG<|aH<|gQ 6 U xj U ?_
   refine aW (AC ⟨((cD left u),(cD rk u)),⟨fU A2,Mt A2 T Ah J⟩⟩ _ _ _ U (eW Ah) (aV U) (aL [0,1,2,3,4,5,6]))
  refine rP 1 [] I ?_
  refine RK X<|al fun _ A6=>aX U<|bE<|ag<|ag<|aA<|KK Aa<|WS fun _ Ac=>?_
  have Ai:iK rk (fun u=>(1≤u∧u≤(m.length:Int))∧ ¬ uw m i k u):=J.x7 fun u=>⟨fun q=>⟨q.1,fun z=>q.2 ⟨z,by rw [Am]; simp⟩⟩,fun q=>⟨q.1,fun z=>q.2 z.1⟩⟩
  have Y:di (rk.map (·.1))=(db m i (aB m i)):=Dw hi Ag Ai
  have BD:rk.length≤m.length:=Lb Ai fun k q=>q.1
  have As:rk.length=(db m i (aB m i)).length:=by rw [← Y]; simp
  refine rP 1 [] I ?_
  refine cX (M7 G) (aK) U fun Aj A9=>?_
  try dsimp only
  refine cX (Gw rk G Aj om) (bp [6,0]) U fun A0 A_=>?_
  obtain ⟨o,AA⟩:=A0
  try dsimp only
  rw [Y]
  refine rP 1 [] I ?_
  refine RK Ac<|aq<|hQ _ _ _ (oi 2 U U<|gV (vs:=[(vS o rk.length AA)]) ⟨U,trivial⟩ fun w hs=>Ly (o,AA) [0] ?_ ?_ U U U hs)
  ·(rw [← As]; rfl)
  ·trivial
 rintro k x k2 nw l ra rb S w1 K26 Qr27 BH hx e AK d Ay A1
 obtain ⟨n,BC,rfl,rfl⟩:=hx
 have T:=e
 try dsimp only
 refine ao<|rP 1 [] I ?_
 refine aG<|aW (AK _ _ ?_)
 refine ay<|WS fun _ AM=>bo 2 U<|RK AM<|al fun _ AN=>WS fun _ AO=>fD 1 [] (mc 4 U I) U<|rS (SX (bO U U) U U)<|rP 2 [] (mr 5 U I) ?_
 refine jL (kV:=iV) (m:=bT dV m) 6 U U nK U ⟨U,fun h=>h⟩ (by exact kU 6 U) U fun Aw=>?_
 try dsimp only
 refine RK AO<|ay ?_
 have A:((1:Int)+(gH m i n:Int)=1+(gH m i n:Int))∧((1:Int)+(jo m i n:Int)=1+(jo m i n:Int))∧(∀ p∈m,p∈m)∧(1≤(1:Int)∧1≤(1:Int)):=by exact ⟨rfl,rfl,fun p hp=>hp,om⟩
 refine bS (ι:={z:g3×Int×Int // (z.2.1+(gH z.1 i n:Int)=1+(gH m i n:Int))∧(z.2.2+(jo z.1 i n:Int)=1+(jo m i n:Int))∧(∀ p∈z.1,p∈m)∧(1≤z.2.1∧1≤z.2.2)}) [2,3,5,7,8,38] [1,2,3,4,5,6,7,8] U U (fun z=>[(9,(vI z.1.2.1)),(10,(vI z.1.2.2))]) (fun z=>[(yx iV Aw gs (bT dV m) (bT dV z.1.1) none)]) (fun _=>rfl) (fun _=>rfl) (fun z=>z.1.1.length) ⟨(m,(1:Int),(1:Int)),A⟩ (aV U) (aL [1,2,3,4,5,6,7,8,0]) ?_
 clear A
 rintro ⟨⟨left,s,t⟩,⟨C,D,B,R⟩⟩ J33 L
 try dsimp only at C D B R
 try dsimp only
 have At:=FN (m:=m) (i:=i) (n:=n)
 have Au:=H6 (m:=m) (i:=i) (n:=n)
 refine WS fun _ V=>iW (eL pK).inj (f:=dV) 8 U U U U (fun P=>?_) (fun x y hm hn=>?_)
 ·refine bo 1 U<|RK V<|al fun _ A5=>aX U<|bE<|ag<|ag<|aA<|KK AN<|WS fun _ AP=>rP 2 [] I ?_
  refine RK AP<|ay ?_
  have A:(s≤s∧(s≤t+1∨s=s))∧(iK nw (fun u=>uw m i k u∧ ¬ (s≤u∧u<s))):=by exact ⟨⟨Int.le_refl _,.inr rfl⟩,T.x7 fun u=>⟨fun q=>⟨q,fun z=>by omega⟩,fun q=>q.1⟩⟩
  refine bS (ι:={z:Int×qo // (s≤z.1∧(z.1≤t+1∨z.1=s))∧(iK z.2 (fun u=>uw m i k u∧ ¬ (s≤u∧u<z.1)))}) [2,3,5,7,8,9,10] [0,1,2,3,4,5,6,8] U U (fun z=>[(13,(vI z.1.1))]) (fun z=>[(ik iV Av (bT vB z.1.2))]) (fun _=>rfl) (fun _=>rfl) (fun z=>(t+1-z.1.1).toNat) ⟨(s,nw),A⟩ (aV U) (aL [0,1,2,3,4,5,6,8,7]) ?_
  clear A
  rintro ⟨⟨q,n2⟩,⟨N,H⟩⟩ J37 AB
  try dsimp only at N H
  try dsimp only
  have At:=FN (m:=m) (i:=i) (n:=n)
  have Au:=H6 (m:=m) (i:=i) (n:=n)
  have BE:s=1+(gH m i n:Int):=by rw [P] at C; simp only [yq] at C; omega
  have BG:t=1+(jo m i n:Int):=by rw [P] at D; simp only [Cv] at D; omega
  refine al fun _ AQ=>WS fun _ AR=>rP 3 [] I ?_
  refine RK AR<|bV U (aR fun Al=>?_) (aP fun Al=>?_)
  ·refine bE<|ag<|ag<|aA<|aH ?_
   exact d n2 _ _ (by exact I8 (a:=s) (b:=t) (by rw [P,yq] at C; omega) (by rw [P,Cv] at D; omega) (H.x7 fun u=>⟨fun z=>⟨z.1,fun w=>z.2 om⟩,fun z=>⟨z.1,fun w=>z.2 om⟩⟩)) (aL [0,1,2,3,4,5,6,8])
  refine WK AQ<|al fun _ AS=>ay<|ao<|fD 2 [] (mc 2 U I) U<|o8 (kV:=iV) (x:=q) (C':=[_,_,_,_,_,_,_,_,(ik iV Av (bT vB (cD n2 q)))]) 8 U U U U BF (eL pK) U (ly _ _ _).symm U<|aG<|aH<|KK AS<|ao<|rP 3 [] I ?_
  refine aG ?_
  refine aW (AB ⟨((q+1),(cD n2 q)),⟨om,Ey N.1 H⟩⟩ _ _ _ U dso (aV U) (aL [0,1,2,3,4,5,6,7,8]))
 try dsimp only
 refine bo 1 U<|RK V<|al fun _ AT=>aQ U<|WK AT<|ay<|WS fun _ AU=>rS (SX (ja 8 U U U) U U)<|bo 2 U<|AL U dg fun BA=>bo 1 U<|fQ U cu U<|RK AU<|al fun _ AV=>WS fun _ AW=>rP 3 [] (mc 4 U I) ?_
 refine RK AW<|cO U (aP fun E=>?_) (aR fun E=>?_)
 ·refine bE<|ag<|aA<|gQ 9 U fz U ?_
  refine aW (L ⟨((cD left x),s,t),(by refine ⟨?_,?_,fU B,?_⟩<;>dsimp only <;>first|omega|(rw [← G7 hn hm E]; omega)|(rw [← Iu hn hm E]; omega))⟩ _ _ _ U (eW hm) (aV U) (aL [1,2,3,4,5,6,7,8,9]))
 refine WK AV<|al fun _ W=>WS fun _ AX=>rP 4 [] (mc 0 U I) ?_
 refine RK AX<|bV U (aR fun O=>?_) (aP fun O=>?_)
 ·refine WK W<|WS fun _ AZ=>rP 4 [] (mc 0 U I) ?_
  refine RK AZ<|bV U (aR fun M=>?_) (aP fun M=>?_)
  ·refine cp<|aH<|gQ 9 U fz U ?_
   refine aW (L ⟨((cD left x),s,t),(by refine ⟨?_,?_,fU B,?_⟩<;>dsimp only <;>first|omega|(have:=Co hn hm E O; omega)|(have:=EO hn hm E M; omega))⟩ _ _ _ U (eW hm) (aV U) (aL [1,2,3,4,5,6,7,8,9]))
  refine ao<|rP 3 [] I ?_
  refine aG<|aH<|gQ 9 U fz U ?_
  refine aW (L ⟨((cD left x),s,(t+1)),(by refine ⟨?_,?_,fU B,?_⟩<;>dsimp only <;>first|omega|(have:=Co hn hm E O; omega)|(have:=Cg hn hm E M; omega))⟩ _ _ _ U (eW hm) (aV U) (aL [1,2,3,4,5,6,7,8,9]))
 refine ao<|bo 3 U<|RK W<|WS fun _ AY=>rP 4 [] (mc 0 U I) ?_
 refine RK AY<|bV U (aR fun M=>?_) (aP fun M=>?_)
 ·refine cp<|aH<|gQ 9 U fz U ?_
  refine aW (L ⟨((cD left x),(s+1),t),(by refine ⟨?_,?_,fU B,?_⟩<;>dsimp only <;>first|omega|(have:=zp hn hm E O; omega)|(have:=EO hn hm E M; omega))⟩ _ _ _ U (eW hm) (aV U) (aL [1,2,3,4,5,6,7,8,9]))
 refine ao<|rP 3 [] I ?_
 refine aG<|aH<|gQ 9 U fz U ?_
 refine aW (L ⟨((cD left x),(s+1),(t+1)),(by refine ⟨?_,?_,fU B,?_⟩<;>dsimp only <;>first|omega|(have:=zp hn hm E O; omega)|(have:=Cg hn hm E M; omega))⟩ _ _ _ U (eW hm) (aV U) (aL [1,2,3,4,5,6,7,8,9]))
end
section
open Go.RowKit
theorem Ap (i:Int) (r:cm) (kA:OA) (kC:Nat) (az:List RA) (cA:OA) (cC:Nat) (bA:OA) (bC:Nat) (slA:OA) (slC:Nat) (drA:OA) (drC:Nat) (ha:List cS) (heA:OA) (heC:Nat) (hin:fm r az ha):
 lE Tryz.prog 15 [(vA (br.cells (oE r kA kC cA cC bA bC slA slC drA drC heA heC))),(vI i)] [(rd dH 3 2 dp),(rd kA r.ah.aI.length 9 (r.ah.aI.map an.cells)),(rd cA r.ah.ai.length 2 (List.zipWith au.cells r.ah.ai az)),(e9 (aS au.gW r.ah.ai az)),(rd bA r.ah.ae.length 4 (r.ah.ae.map bG.cells)),(rd slA r.aJ.length 1 (r.aJ.map iC)),(rd drA r.bB.length 1 (r.bB.map iC)),(rd heA r.ar.length 1 (List.zipWith cJ r.ar ha)),(e9 (aS iu r.ar ha))] (fun (x:(OA)×Nat)=>(vT [(vS x.1 ((cH r i).length) x.2),(vI (kG r i))])) (fun (x:(OA)×Nat)=>True) (fun (x:(OA)×Nat)=>[(own x.1 x.2 3 1 ((cH r i).map iC))]):=by
 have V:=hin.line
 have k:=hin.iQ
 have l:=hin.has
 have c:=hin.iP
 have Z:=hin.draw
 have d:=dG (r:=r)
 refine dv kr Tryz.func15 U U fun o Q hQ hN=>?_
 try dsimp only
 refine WS fun _ AA=>fR U fun n=>bo 2 U<|RK AA<|WS fun _ G=>rP 2 [] (mc 0 U I) ?_
 refine cZ (xs:=[.tmp 11]) (cs:=[(vI i)]) U cx i_ U U U U (by simp [Value.cells]) U U fun h=>cX (zb r kA kC az cA cC bA bC slA slC drA drC ha heA heC i h hin) (bp [2,3,4,5,6,7,8,9,10,0]) U fun m L=>?_
 obtain ⟨M,j,T,S,N,O,zW,f,g⟩:=m
 cases M
 ·obtain ⟨H,he⟩:=L.2 rfl
  try dsimp only at H he
  subst H
  try dsimp only [cond_true,cond_false,List.cons_append,List.nil_append]
  refine bo 7 U<|RK G<|al fun _ Y=>WS fun _ B=>rP 2 [] I ?_
  refine RK B<|bV U (bg fun A=>?_) (bh fun A=>?_)
  ·exact absurd A he
  refine WS fun _ C=>dM 3 1 ?_
  rw [show (own none 0 3 1 ([]:List (List Value)))=own none 0 3 1 ((cH r i).map iC) from by rw [zl he]; rfl]
  refine bo 1 U<|rP 2 [] I ?_
  refine RK C<|aq ?_
  refine LX hQ (none,0) [0] [] I U U U ?_ ?_
  ·(rw [zl he]; rfl)
  ·trivial
 obtain ⟨he,W⟩:=L.1 rfl
 try dsimp only [cond_true,cond_false,List.cons_append,List.nil_append]
 try dsimp only at W
 obtain ⟨J,a,AB⟩:=yV he
 have K:=m_ J
 have b:=oM J
 refine bo 7 U<|RK G<|al fun _ D=>WS fun _ E=>bo 1 U<|rS (SX (bZ (r:= .bool false) U U U ig) U U)<|RK E<|aX U<|WK D<|WS fun _ F=>rP 2 [] I ?_
 refine cX (zt r kA kC cA cC bA bC slA slC drA drC heA heC N ((cR r).length) O S T (aF r) i (by exact K) (by exact AB) om) (bp [0,3]) U fun X e=>?_
 obtain ⟨P,R⟩:=X
 try dsimp only
 rw [show (db (aF r) i (aB (aF r) i))=cH r i from (yp he).symm]
 refine rP 2 [] I ?_
 refine RK F<|aq ?_
 refine LX hQ (P,R) [0] [] I U U U ?_ ?_
 ·(rw [he]; rfl)
 ·trivial
theorem wV (a b:Int) (r:cm) (kA:OA) (kC:Nat) (az:List RA) (cA:OA) (cC:Nat) (bA:OA) (bC:Nat) (slA:OA) (slC:Nat) (drA:OA) (drC:Nat) (ha:List cS) (heA:OA) (heC:Nat) (hin:fm r az ha):
 eg Tryz.prog 12 [(vA (br.cells (oE r kA kC cA cC bA bC slA slC drA drC heA heC))),(vI a),(vI b)] [(rd dH 3 2 dp),(rd kA r.ah.aI.length 9 (r.ah.aI.map an.cells)),(rd cA r.ah.ai.length 2 (List.zipWith au.cells r.ah.ai az)),(e9 (aS au.gW r.ah.ai az)),(rd bA r.ah.ae.length 4 (r.ah.ae.map bG.cells)),(rd slA r.aJ.length 1 (r.aJ.map iC)),(rd drA r.bB.length 1 (r.bB.map iC)),(rd heA r.ar.length 1 (List.zipWith cJ r.ar ha)),(e9 (aS iu r.ar ha))] (vT [(Value.int .u8 (pS r a b)),(vI (j_ r a b))]):=by
 have M:=hin.line
 have k:=hin.iQ
 have l:=hin.has
 have V:=hin.iP
 have R:=hin.draw
 have W:=dG (r:=r)
 refine bI kr Tryz.func12 U U fun p Q hQ hN=>?_
 try dsimp only
 refine WS fun _ L=>fR U fun o=>bo 2 U<|RK L<|WS fun _ H=>rP 3 [] (mc 0 U I) ?_
 refine cZ (xs:=[.tmp 13,.tmp 14]) (cs:=[(vI a),(vI b)]) U cx i_ U U U U (by simp [Value.cells]) U U fun d=>cX (yo r kA kC az cA cC bA bC slA slC drA drC ha heA heC a b d hin) (bp [2,3,4,5,6,7,8,9,10,0]) U fun m J=>?_
 obtain ⟨K,e,g,f,Z,c,zW,X,Y⟩:=m
 cases K
 ·obtain ⟨AB,he⟩:=J.2 rfl
  try dsimp only at AB he
  subst AB
  try dsimp only [cond_true,cond_false,List.cons_append,List.nil_append]
  refine bo 7 U<|RK H<|al fun _ P=>WS fun _ C=>rP 2 [] I ?_
  refine RK C<|bV U (bg fun B=>?_) (bh fun B=>?_)
  ·exact absurd B he
  refine WS fun _ D=>rP 3 [] I ?_
  refine RK D<|aq<|Q2 hQ U U U U ?_
  (rw [show pS r a b=0 from if_neg he]; done)
 obtain ⟨he,O⟩:=J.1 rfl
 try dsimp only [cond_true,cond_false,List.cons_append,List.nil_append]
 try dsimp only at O
 obtain ⟨N,S,T,AA⟩:=tS he
 have A:=m_ N
 have h:=gL (i:=a) A
 have j:=gL (i:=b) A
 refine bo 7 U<|RK H<|al fun _ E=>WS fun _ F=>bo 1 U<|rS (SX (bZ (r:= .bool false) U U U ig) U U)<|RK F<|aX U<|WK E<|al fun _ G=>dq cy 21 kr<|dP 1 [] I ?_
 refine dS (IA 0 U (aj (n:=2) 4 U sq) jG dc U om) ?_
 refine dS (nH ((0*2)+1) U (aj (n:=([(aB (aF r) a),(aB (aF r) b)]).length) 4 U sm) (Nat.succ_pos _) fB U)<|dS (fY 0 1 (vI ((aB (aF r) a).Hi)) U cd (aj (n:=([(aB (aF r) a),(aB (aF r) b)]).length) 4 U sm) (show ([(aB (aF r) a),(aB (aF r) b)].map aa.cells)[0]? =some [(vI ((aB (aF r) a).Lo)),(vI ((aB (aF r) a).Hi))] from U) U dc U)<|dP 1 [] I ?_
 refine dS (IA 1 U (aj (n:=2) 4 U sq) jG dc U om) ?_
 refine dS (nH (1*2) U (aj (n:=([(aB (aF r) a),(aB (aF r) b)]).length) 4 U sm) (Nat.succ_pos _) fB U)<|dS (fY 1 0 (vI ((aB (aF r) b).Lo)) U cd (aj (n:=([(aB (aF r) a),(aB (aF r) b)]).length) 4 U sm) (show ([(aB (aF r) a),(aB (aF r) b)].map aa.cells)[1]? =some [(vI ((aB (aF r) b).Lo)),(vI ((aB (aF r) b).Hi))] from U) U dc U)<|dP 2 [] I ?_
 refine dS (IA 0 U (aj (n:=2) 4 U sq) jG dc U om) ?_
 refine dS (nH (0*2) U (aj (n:=([(aB (aF r) a),(aB (aF r) b)]).length) 4 U sm) (Nat.succ_pos _) fB U)<|dS (fY 0 0 (vI ((aB (aF r) a).Lo)) U cd (aj (n:=([(aB (aF r) a),(aB (aF r) b)]).length) 4 U sm) (show ([(aB (aF r) a),(aB (aF r) b)].map aa.cells)[0]? =some [(vI ((aB (aF r) a).Lo)),(vI ((aB (aF r) a).Hi))] from U) U dc U)<|dP 1 [] I ?_
 refine dS (IA 1 U (aj (n:=2) 4 U sq) jG dc U om) ?_
 refine dS (nH ((1*2)+1) U (aj (n:=([(aB (aF r) a),(aB (aF r) b)]).length) 4 U sm) (Nat.succ_pos _) fB U)<|dS (fY 1 1 (vI ((aB (aF r) b).Hi)) U cd (aj (n:=([(aB (aF r) a),(aB (aF r) b)]).length) 4 U sm) (show ([(aB (aF r) a),(aB (aF r) b)].map aa.cells)[1]? =some [(vI ((aB (aF r) b).Lo)),(vI ((aB (aF r) b).Hi))] from U) U dc U)<|km 1 U<|dS (CL (wH (decide (((aB (aF r) a).Hi)<((aB (aF r) b).Lo))) (decide (((aB (aF r) a).Lo)<((aB (aF r) b).Hi)))) (aK) U)<|dP 2 [] I ?_
 refine cL<|RK G<|aq<|Q2 hQ U U U U ?_
 (rw [he,show pS r a b=wv _ _ from if_pos he,← L7])
theorem C4 (a b:Int) (r:cm) (kA:OA) (kC:Nat) (az:List RA) (cA:OA) (cC:Nat) (bA:OA) (bC:Nat) (slA:OA) (slC:Nat) (drA:OA) (drC:Nat) (ha:List cS) (heA:OA) (heC:Nat) (hin:fm r az ha):
 eg Tryz.prog 13 [(vA (br.cells (oE r kA kC cA cC bA bC slA slC drA drC heA heC))),(vI a),(vI b)] [(rd dH 3 2 dp),(rd kA r.ah.aI.length 9 (r.ah.aI.map an.cells)),(rd cA r.ah.ai.length 2 (List.zipWith au.cells r.ah.ai az)),(e9 (aS au.gW r.ah.ai az)),(rd bA r.ah.ae.length 4 (r.ah.ae.map bG.cells)),(rd slA r.aJ.length 1 (r.aJ.map iC)),(rd drA r.bB.length 1 (r.bB.map iC)),(rd heA r.ar.length 1 (List.zipWith cJ r.ar ha)),(e9 (aS iu r.ar ha))] (vT [(Value.int .u8 (l6 r a b)),(vI (j_ r a b))]):=by
 have T:=hin.line
 have q:=hin.iQ
 have s:=hin.has
 have d:=hin.iP
 have X:=hin.draw
 have e:=dG (r:=r)
 refine bI kr Tryz.func13 U U fun w Q hQ hN=>?_
 try dsimp only
 refine WS fun _ P=>fR U fun v=>bo 2 U<|RK P<|WS fun _ J=>rP 3 [] (mc 0 U I) ?_
 refine cZ (xs:=[.tmp 14,.tmp 15]) (cs:=[(vI a),(vI b)]) U cx i_ U U U U (by simp [Value.cells]) U U fun l=>cX (yo r kA kC az cA cC bA bC slA slC drA drC ha heA heC a b l hin) (bp [2,3,4,5,6,7,8,9,10,0]) U fun u N=>?_
 obtain ⟨O,m,p,o,h,j,zW,f,g⟩:=u
 cases O
 ·obtain ⟨M,he⟩:=N.2 rfl
  try dsimp only at M he
  subst M
  try dsimp only [cond_true,cond_false,List.cons_append,List.nil_append]
  refine bo 7 U<|RK J<|al fun _ W=>WS fun _ E=>rP 2 [] I ?_
  refine RK E<|bV U (bg fun D=>?_) (bh fun D=>?_)
  ·exact absurd D he
  refine WS fun _ F=>rP 3 [] I ?_
  refine RK F<|aq<|Q2 hQ U U U U ?_
  (rw [show l6 r a b=0 from if_neg he]; done)
 obtain ⟨he,V⟩:=N.1 rfl
 try dsimp only [cond_true,cond_false,List.cons_append,List.nil_append]
 try dsimp only at V
 obtain ⟨AA,Y,Z,c⟩:=tS he
 have B:=m_ AA
 have R:=gL (i:=a) B
 have S:=gL (i:=b) B
 refine bo 7 U<|RK J<|al fun _ G=>WS fun _ H=>rP 1 [] I ?_
 refine rS (SX (bZ (r:= .bool false) U U U ig) U U)<|RK H<|aX U<|WK G<|al fun _ AB=>dL cy [19,20] [] [] [0,1,2,3,4,5,6,7,8,9,10,11,12,13,14,15] [] U U U U U<|eS U (MV U) ?_
 refine eS U (IA 0 U (aj (n:=2) 4 U sq) jG dc U om) ?_
 refine eS U (nH (0*2) U (aj (n:=([(aB (aF r) a),(aB (aF r) b)]).length) 4 U sm) (Nat.succ_pos _) fB U)<|eS U (fY 0 0 (vI ((aB (aF r) a).Lo)) U cd (aj (n:=([(aB (aF r) a),(aB (aF r) b)]).length) 4 U sm) (show ([(aB (aF r) a),(aB (aF r) b)].map aa.cells)[0]? =some [(vI ((aB (aF r) a).Lo)),(vI ((aB (aF r) a).Hi))] from U) U dc U)<|eS U (MV U) ?_
 refine eS U (IA 1 U (aj (n:=2) 4 U sq) jG dc U om) ?_
 refine eS U (nH (1*2) U (aj (n:=([(aB (aF r) a),(aB (aF r) b)]).length) 4 U sm) (Nat.succ_pos _) fB U)<|eS U (fY 1 0 (vI ((aB (aF r) b).Lo)) U cd (aj (n:=([(aB (aF r) a),(aB (aF r) b)]).length) 4 U sm) (show ([(aB (aF r) a),(aB (aF r) b)].map aa.cells)[1]? =some [(vI ((aB (aF r) b).Lo)),(vI ((aB (aF r) b).Hi))] from U) U dc U)<|eS U (MX U)<|eS U (MV U) ?_
 refine eS U (IA 0 U (aj (n:=2) 4 U sq) jG dc U om) ?_
 refine eS U (nH ((0*2)+1) U (aj (n:=([(aB (aF r) a),(aB (aF r) b)]).length) 4 U sm) (Nat.succ_pos _) fB U)<|eS U (fY 0 1 (vI ((aB (aF r) a).Hi)) U cd (aj (n:=([(aB (aF r) a),(aB (aF r) b)]).length) 4 U sm) (show ([(aB (aF r) a),(aB (aF r) b)].map aa.cells)[0]? =some [(vI ((aB (aF r) a).Lo)),(vI ((aB (aF r) a).Hi))] from U) U dc U)<|eS U (MV U) ?_
 refine eS U (IA 1 U (aj (n:=2) 4 U sq) jG dc U om) ?_
 refine eS U (nH ((1*2)+1) U (aj (n:=([(aB (aF r) a),(aB (aF r) b)]).length) 4 U sm) (Nat.succ_pos _) fB U)<|eS U (fY 1 1 (vI ((aB (aF r) b).Hi)) U cd (aj (n:=([(aB (aF r) a),(aB (aF r) b)]).length) 4 U sm) (show ([(aB (aF r) a),(aB (aF r) b)].map aa.cells)[1]? =some [(vI ((aB (aF r) b).Lo)),(vI ((aB (aF r) b).Hi))] from U) U dc U)<|eS U (MN U)<|eS U (SX (bj (xs:=[(0,.tmp 32),(1,.tmp 41)]) (cs:=(aa.cells (aa.mk (max ((aB (aF r) a).Lo) ((aB (aF r) b).Lo)) (min ((aB (aF r) a).Hi) ((aB (aF r) b).Hi))))) U U (bk gj U)) U U)<|e7 U<|cf U fun T22 K=>AL U dg fun k=>aG (K _ _ (aL [1,2,3,4,5,6,7,8,9,10,11,12,13,14,15,16]) ?_)
 refine cf U fun T24 L=>fQ U cu U<|aG (L _ _ (aL [1,2,3,4,5,6,7,8,9,10,11,12,13,14,15,16]) ?_)
 refine fK U<|KK AB<|al fun _ A=>dq cy 22 kr<|dP 1 [] I ?_
 refine dS (IA 0 U (aj (n:=2) 5 U sq) jG dc U om) ?_
 refine dS (ot 0 0 (aa.cells (aB (aF r) a)) U cd (aj (n:=([(aB (aF r) a),(aB (aF r) b)]).length) 5 U sm) (show ([(aB (aF r) a),(aB (aF r) b)].map aa.cells)[0]? =some [(vI ((aB (aF r) a).Lo)),(vI ((aB (aF r) a).Hi))] from U) U dc U U)<|dP 1 [] I ?_
 refine dS (IA 1 U (aj (n:=2) 5 U sq) jG dc U om) ?_
 refine dS (ot 1 0 (aa.cells (aB (aF r) b)) U cd (aj (n:=([(aB (aF r) a),(aB (aF r) b)]).length) 5 U sm) (show ([(aB (aF r) a),(aB (aF r) b)].map aa.cells)[1]? =some [(vI ((aB (aF r) b).Lo)),(vI ((aB (aF r) b).Hi))] from U) U dc U U)<|dS (BI U (sv _ _ (aB (aF r) a) (aB (aF r) b)))<|dP 1 [] I ?_
 refine iw (t:=50) U (aR fun C=>?_) (aP fun C=>?_)
 ·refine mu 11 [] (mc 0 U I) U<|dS (CL (wH false (decide ((max ((aB (aF r) a).Lo) ((aB (aF r) b).Lo))≤(min ((aB (aF r) a).Hi) ((aB (aF r) b).Hi))))) (aK) U)<|dP 2 [] I ?_
  refine cL<|RK A<|aq<|Q2 hQ U U U U ?_
  (rw [he,show l6 r a b=nA _ _ from if_pos he,← M3 R.2.1 S.2.1 C]; done)
 refine mu 11 [] (mc 0 U I) U<|dS (CL (wH (decide ((max ((aB (aF r) a).Lo) ((aB (aF r) b).Lo))=(min ((aB (aF r) a).Hi) ((aB (aF r) b).Hi)))) (decide ((max ((aB (aF r) a).Lo) ((aB (aF r) b).Lo))≤(min ((aB (aF r) a).Hi) ((aB (aF r) b).Hi))))) (aK) U)<|dP 2 [] I ?_
 refine cL<|RK A<|aq<|Q2 hQ U U U U ?_
 (rw [he,show l6 r a b=nA _ _ from if_pos he,← Ia C]; done)
end
section
open Go.RowKit
theorem Ix (i:Int) (r:cm) (kA:OA) (kC:Nat) (az:List RA) (cA:OA) (cC:Nat) (bA:OA) (bC:Nat) (slA:OA) (slC:Nat) (drA:OA) (drC:Nat) (ha:List cS) (heA:OA) (heC:Nat) (hin:fm r az ha):
 eg Tryz.prog 11 [(vA (br.cells (oE r kA kC cA cC bA bC slA slC drA drC heA heC))),(vI i)] [(rd dH 3 2 dp),(rd kA r.ah.aI.length 9 (r.ah.aI.map an.cells)),(rd cA r.ah.ai.length 2 (List.zipWith au.cells r.ah.ai az)),(e9 (aS au.gW r.ah.ai az)),(rd bA r.ah.ae.length 4 (r.ah.ae.map bG.cells)),(rd slA r.aJ.length 1 (r.aJ.map iC)),(rd drA r.bB.length 1 (r.bB.map iC)),(rd heA r.ar.length 1 (List.zipWith cJ r.ar ha)),(e9 (aS iu r.ar ha))] (vT [(vA (aa.cells (pP r i))),(vI (kG r i))]):=by
 have M:=hin.line
 have g:=hin.iQ
 have h:=hin.has
 have W:=hin.iP
 have R:=hin.draw
 have X:=dG (r:=r)
 refine bI kr Tryz.func11 U U fun m Q hQ hN=>?_
 try dsimp only
 refine WS fun _ L=>fR U fun k=>AL U dg fun l=>bo 1 U<|RK L<|WS fun _ G=>rP 2 [] (mc 1 U I) ?_
 refine cZ (xs:=[.tmp 11]) (cs:=[(vI i)]) U cx i_ U U U U (by simp [Value.cells]) U U fun d=>cX (zb r kA kC az cA cC bA bC slA slC drA drC ha heA heC i d hin) (bp [3,4,5,6,7,8,9,10,11,0]) U fun j J=>?_
 obtain ⟨K,e,f,O,a,b,c,Y,Z⟩:=j
 cases K
 ·obtain ⟨H,he⟩:=J.2 rfl
  try dsimp only at H he
  subst H
  try dsimp only [cond_true,cond_false,List.cons_append,List.nil_append]
  refine bo 7 U<|RK G<|al fun _ P=>WS fun _ B=>rP 2 [] I ?_
  refine RK B<|bV U (bg fun A=>?_) (bh fun A=>?_)
  ·exact absurd A he
  refine WS fun _ C=>rS (SX (bj (xs:=[]) (cs:=(aa.cells (aa.mk 0 0))) U U (bk gj U)) U U)<|bo 1 U<|tw U cu U<|rP 1 [] I ?_
  refine RK C<|aq<|lg hQ [0] (mc 1 U I) U ?_
  first|(rw [show pP r i=dA from if_neg he]; rfl)|(rw [he,show pP r i=aB _ _ from if_pos he]; done)
 obtain ⟨he,N⟩:=J.1 rfl
 try dsimp only [cond_true,cond_false,List.cons_append,List.nil_append]
 try dsimp only at N
 obtain ⟨AB,S,T⟩:=yV he
 have AA:=m_ AB
 have V:=oM AB
 refine bo 7 U<|RK G<|al fun _ D=>WS fun _ E=>bo 1 U<|rS (SX (bZ (r:= .bool false) U U U ig) U U)<|RK E<|aX U<|WK D<|WS fun _ F=>rP 1 [] I ?_
 refine rS (IA 0 U (aj (n:=1) 4 U sq) jG dc U om) ?_
 refine rS (ot 0 0 (aa.cells (aB (aF r) i)) U cd (aj (n:=([(aB (aF r) i)]).length) 4 U sm) (show ([(aB (aF r) i)].map aa.cells)[0]? =some [(vI ((aB (aF r) i).Lo)),(vI ((aB (aF r) i).Hi))] from U) U dc U U)<|Oc U cu U<|rP 1 [] I ?_
 refine RK F<|aq<|lg hQ [0] (mc 6 U I) U ?_
 first|(rw [show pP r i=dA from if_neg he]; rfl)|(rw [he,show pP r i=aB _ _ from if_pos he]; done)
end
section
open Go.RowKit
theorem oB (n lo hi:Int):
 eg Tryz.prog 106 [(vI n),(vI lo),(vI hi)] [] (vB (decide (lo≤n∧n≤hi))):=by
 refine bI kr Tryz.func106 U U fun D Q hQ hN=>?_
 try dsimp only
 refine WS fun _ B=>bo 1 U<|RK B<|WS fun _ A=>rP 4 [] I ?_
 refine ct (t:=10) U (aP fun C=>?_) (aR fun C=>?_)
 ·refine rP 5 [] I ?_
  refine RK A<|aq<|Q1 hQ U U U ?_
  exact cB (decide_eq_decide.2 om)
 refine rP 5 [] I ?_
 refine RK A<|aq<|Q1 hQ U U U ?_
 exact cB (cq om).symm
theorem Fl (r:cE) (sgA:OA) (sgC:Nat):
 eg Tryz.prog 136 [(vA (eG.cells (mo r sgA sgC)))] [(rd sgA r.ak.length 2 (r.ak.map aO.cells))] (vB (decide (l9 r))):=by
 refine bI kr Tryz.func136 U U fun F Q hQ hN=>?_
 try dsimp only
 refine WS fun _ B=>fR U fun E=>bo 1 U<|RK B<|WS fun _ A=>rP 4 [] (mc 0 U I) ?_
 refine ck (t:=6) U (aR fun C=>?_) (aP fun C=>?_)
 ·refine rP 11 [] I ?_
  refine RK A<|aq<|Q1 hQ U U U ?_
  simp only [l9]
  exact cB (cq om).symm
 refine rP 5 [] (mc 0 U I) ?_
 refine ck (t:=11) U (aR fun D=>?_) (aP fun D=>?_)
 ·refine rP 6 [] I ?_
  refine RK A<|aq<|Q1 hQ U U U ?_
  simp only [l9]
  exact cB (cq om).symm
 refine rP 6 [] (mc 0 U I) ?_
 refine RK A<|aq<|Q1 hQ U U U ?_
 simp only [l9]
 exact cB (decide_eq_decide.2 om)
theorem Nv (s:aa):
 eg Tryz.prog 137 [(vA (aa.cells s))] [] (vB (decide (iE s))):=by
 refine bI kr Tryz.func137 U U fun F Q hQ hN=>?_
 try dsimp only
 refine WS fun _ B=>fR U fun E=>bo 1 U<|RK B<|WS fun _ A=>rP 4 [] (mc 0 U I) ?_
 refine ck (t:=6) U (aR fun C=>?_) (aP fun C=>?_)
 ·refine rP 12 [] I ?_
  refine RK A<|aq<|Q1 hQ U U U ?_
  simp only [iE]
  exact cB (cq om).symm
 refine rP 7 [] (mc 0 U I) ?_
 refine ck (t:=13) U (aR fun D=>?_) (aP fun D=>?_)
 ·refine rP 5 [] I ?_
  refine RK A<|aq<|Q1 hQ U U U ?_
  simp only [iE]
  exact cB (cq om).symm
 refine rP 5 [] (mc 0 U I) ?_
 refine RK A<|aq<|Q1 hQ U U U ?_
 simp only [iE]
 exact cB (decide_eq_decide.2 om)
theorem l0 (la:List Int) (laA:OA) (laC:Nat) (lb:List Int) (lbA:OA) (lbC:Nat) (h1:la.length≤1000000) (h2:lb.length≤1000000):
 eg Tryz.prog 18 [(vS laA la.length laC),(vS lbA lb.length lbC)] [(rd laA la.length 1 (la.map iC)),(rd lbA lb.length 1 (lb.map iC))] (vB (decide (la=lb))):=by
 refine bI kr Tryz.func18 U U fun V Q hQ hN=>?_
 try dsimp only
 refine WS fun _ J=>bo 1 U<|RK J<|al fun _ K=>WS fun _ L=>rP 5 [] I ?_
 refine RK L<|cO U (bh fun hl=>?_) (bg fun hl=>?_)
 ·refine WS fun _ M=>rP 1 [] I ?_
  refine RK M<|aq<|Q1 hQ U U U ?_
  exact cB (cq (fun e=>by subst e; omega)).symm
 refine WK K<|al fun _ N=>WS fun _ O=>rP 1 [] I ?_
 refine RK O<|ay ?_
 have A:(0≤la.length)∧(la.take 0=lb.take 0):=by simp
 refine bS (ι:={z:Nat // (z≤la.length)∧(la.take z=lb.take z)}) [0,1] [0,1] U U (fun z=>[(5,(vI (z.1:Int)))]) (fun z=>[]) (fun _=>rfl) (fun _=>rfl) (fun z=>la.length-z.1) ⟨0,A⟩ (aV U) (aL [0,1]) ?_
 clear A
 rintro ⟨i,⟨S,B⟩⟩ J7 AB
 try dsimp only
 refine al fun _ P=>WS fun _ R=>rP 4 [] I ?_
 refine RK R<|bV U (aR fun H=>?_) (aP fun H=>?_)
 ·refine bE<|ag<|ag<|aA<|KK N<|WS fun _ F=>rP 1 [] I ?_
  refine RK F<|aq<|Q1 hQ U U U ?_
  exact cB (dw (nz om B om)).symm
 refine WK P<|al fun _ C=>ay<|al fun _ D=>dq cy 9 kr<|dP 2 [] I ?_
 obtain ⟨x,hx⟩:=aM la i om
 have T:=bL iC hx
 refine dS (IA i U (aD 0 U) cx dc om om)<|dS (fY i 0 (vI x) U cd (aD 0 U) T U dc U)<|dP 2 [] I ?_
 obtain ⟨y,hy⟩:=aM lb i om
 have AA:=bL iC hy
 refine dS (IA i U (aD 1 U) cx dc om om)<|dS (fY i 0 (vI y) U cd (aD 1 U) AA U dc U)<|dP 1 [] I ?_
 refine cL<|RK D<|cO U (bh fun h=>?_) (bg fun h=>?_)
 ·refine WS fun _ E=>rP 1 [] I ?_
  refine RK E<|aq<|Q1 hQ U U U ?_
  exact cB (cq (m0 hx hy h)).symm
 refine cp<|aH<|KK C<|ao<|rP 3 [] I ?_
 refine aG ?_
 have G:(vI (((i+1):Nat):Int))=(vI ((i:Int)+1)):=by exact cI om
 refine aW (AB ⟨(i+1),⟨om,ud B hx hy h⟩⟩ _ _ _ U os (dB.cons U<|dB.cons U<|bx U G<|dB.nil _) (aL [0,1]))
end
section
theorem TN.sub {E:fg} {ops:Array Oper} {Q:c_} {D:List Deferred} {C' C1 C:List av} {tb rem:List Nat}: ∀ {n:Nat} {L L':List (Nat×Value)},dB L L'→TN E ops D C' C1 (fun L C=>KJ E (Q .normal) D L C) tb n rem L' C→TN E ops D C' C1 (fun L C=>KJ E (Q .normal) D L C) tb n rem L C:=by
 intro n
 cases n with
 |zero=>intro L L' hs h; exact iZ hs (fun _ h=>h) h
 |succ n=>intro L L' hs h i hi o ho K hK; exact Oq hs (fun _ h=>h) (h i hi o ho K hK)
theorem Nj {E:fg} {ops:Array Oper} {Q:c_} {D:List Deferred} {C' C1 C:List av} {bs:List Bool} {os:List Oper} {L:List (Nat×Value)} {tb rem:List Nat} {n:Nat} {t:Nat} {b:Bool} (h:L.lookup t=some (.bool b))
 (h1:b=true→pT E ops D C' C1 (fun L'=>TN E ops D C' C1 (fun L C=>KJ E (Q .normal) D L C) tb n rem L' C) bs os ((t,.bool true)::L)) (h2:b=false→pT E ops D C' C1 (fun L'=>TN E ops D C' C1 (fun L C=>KJ E (Q .normal) D L C) tb n rem L' C) bs os ((t,.bool false)::L)):
 pT E ops D C' C1 (fun L'=>TN E ops D C' C1 (fun L C=>KJ E (Q .normal) D L C) tb n rem L' C) bs os L:=by
 have A: ∀ v:Bool,b=v→dB L ((t,.bool v)::L):=fun v hv=>dB.cons (hv▸h) (fun _ _ h=>h)
 cases b
 ·exact pT.mono (fun _ _=>TN.sub) (A _ U) (h2 U)
 ·exact pT.mono (fun _ _=>TN.sub) (A _ U) (h1 U)
theorem Iy {E:fg} {ops:Array Oper} {Q:c_} {D:List Deferred} {L:List (Nat×Value)} {C1 C2 C:List av} {t n:Nat} {b:Bool} {bs:List Bool} {os:List Oper} {tb rem:List Nat} (h:L.lookup t=some (.bool b)) (h2:b=false→pT E ops D C2 C1 (fun L2=>TN E ops D C2 C1 (fun L C=>KJ E (Q .normal) D L C) tb n rem L2 C) bs os ((t,.bool false)::L)) (h1:b=true→pT E ops D C2 C1 (fun L2=>TN E ops D C2 C1 (fun L C=>KJ E (Q .normal) D L C) tb n rem L2 C) bs os ((t,.bool true)::L)):pT E ops D C2 C1 (fun L2=>TN E ops D C2 C1 (fun L C=>KJ E (Q .normal) D L C) tb n rem L2 C) bs os L:=Nj h h1 h2
end
section
open Go.RowKit
section
variable {r:cm} {h i:Int} {t:aa} {k:Nat}
end
/-- there is a table -/
theorem Av {r:cm} (he:bX r=0): ∃ G,hZ (aB (aF r)) ((aF r).map (·.1)) G∧BG G:=by
 have key: ∀ (L:List Int),Dt (fun u=>(aB (aF r) u).Lo) L→ ∀ i,i≤L.length→ ∃ G last,l7 (aB (aF r)) (L.take i) G last:=fun L B i=>by
  induction i with
  |zero=>intro _; exact ⟨[],-1,Ft⟩
  |succ i ih=>
   intro hi
   obtain ⟨G,last,hG⟩:=ih om
   have hx:L[i]? =some (L[i]'om):=e8 _
   have C:=gL (i:=L[i]'om) (m_ he)
   by_cases hl:last<(aB (aF r) (L[i]'om)).Lo
   ·obtain ⟨g,hg⟩: ∃ g,(G++[[]])[(G++[([]:List Int)]).length-1]? =some g:=⟨_,e8 sm⟩
    exact ⟨_,_,o7 om hx hg hG hl⟩
   ·have hp:=Ff C.1 hG hl
    obtain ⟨g,hg⟩: ∃ g,G[G.length-1]? =some g:=⟨_,e8 om⟩
    exact ⟨_,_,oc om (fun u _=>(gL (i:=u) (m_ he)).2.1) B hx hg hG hl⟩
 obtain ⟨G,last,hG⟩:=key (eA (fun u=>(aB (aF r) u).Lo) ((aF r).map (·.1))) tR _ (Nat.le_refl _)
 have A:=uG hG.ok
 rw [List.take_length] at A
 exact ⟨_,p6 A.1 qe,A.2⟩
theorem uW {r:cm}:(bD r).length≤1000000∧ ∀ l∈bD r,l.length≤1000000:=by
 by_cases he:bX r=0
 ·have E:(aF r).length≤5:=oM he
  have A: ∃ G,hZ (aB (aF r)) ((aF r).map (·.1)) G∧BG G:=by
   refine Classical.byContradiction fun hn=>?_
   exact hn (Av he)
  obtain ⟨G,hG,hA⟩:=A
  rw [← sU he hG hA]
  have C:=hG.perm.length_eq
  rw [List.length_map] at C
  have B: ∀ G:List (List Int),(∀ g∈G,g≠[])→G.length≤G.flatten.length:=fun G=>by
   induction G with
   |nil=>intro _; simp
   |cons g G ih=>
    intro hG
    have B:=ih fun y hy=>hG y (cT _ hy)
    have D:=List.length_pos_iff.2 (hG g cj)
    simp only [List.flatten_cons,List.length_cons,List.length_append]; omega
  refine ⟨by have:=B G hG.some_; omega,fun l hl=>?_⟩
  have D:l.length≤G.flatten.length:=(List.sublist_flatten_of_mem hl).length_le
  omega
 ·rw [Bk he]; simp
theorem Cl {r:cm} {h i:Int} {t:aa}:(cw r h i t).length≤r.aJ.length:=by
 unfold cw
 split
 ·refine Nat.le_trans (List.length_filter_le _ _) ?_
  rw [gp,List.length_map]
  exact tD
 ·simp
end
section
open Go.RowKit
/-- a row is taken that was made before; an operation -/
inductive fF where
 |take (i:Nat)
 |op (j:Nat)
def fF.ix:fF→Nat
 | .take i=>i
 | .op j=>j
def Ba (dO:Nat→Nat):List fF→List Nat
 |[]=>[]
 | .take i::s=>dO i::Ba dO s
 | .op _::s=>Ba dO s
theorem sJ {dO:Nat→Nat} {i:Nat}: ∀ {s:List fF},fF.take i∈s→dO i∈Ba dO s
 | .take k::s,h=>by
  rcases List.mem_cons.1 h with e|h
  ·cases e; exact cj ..
  ·exact cT _ (sJ h)
 | .op k::s,h=>by
  rcases List.mem_cons.1 h with e|h
  ·cases e
  ·exact sJ (s:=s) h
def rB (m:Array Nat) (dO:Nat→Nat) (x y:fF):Bool:=x.ix != y.ix&&(match y with | .op j=>im m x.ix j| .take i=>match x with | .take k=>dO k != dO i| .op _=>true)
def Ti (m:Array Nat) (dO:Nat→Nat):List fF→Bool
 |[]=>true
 |x::s=>s.all (rB m dO x)&&Ti m dO s
theorem E5 {m:Array Nat} {dO:Nat→Nat}: ∀ {s:List fF},Ti m dO s=true→s.Pairwise fun x y=>rB m dO x y=true
 |[],_=>List.Pairwise.nil
 |x::s,h=>by
  simp only [Ti,cP] at h
  exact List.Pairwise.cons (fun y hy=>List.all_eq_true.1 h.1 y hy) (E5 h.2)
/-- what is known of the slots B is known in L -/
def AV (B L:List (Nat×Value)):Prop:= ∀ t v,B.lookup t=some v→L.lookup t=some v
theorem vJ {B L:List (Nat×Value)} (h:B.map (fun p=>L.lookup p.1)=B.map (fun p=>some p.2)):AV B L:=by
 induction B with
 |nil=>intro t v h; simp at h
 |cons p B ih=>
  obtain ⟨k,u⟩:=p
  simp only [List.map_cons,List.cons.injEq] at h
  intro t v hl
  by_cases e:t=k
  ·subst e
   simp only [List.lookup,beq_self_eq_true,Option.some.injEq] at hl
   rw [h.1,hl]
  ·have:(t==k)=false:=by simpa using e
   simp only [List.lookup,this] at hl
   exact ih h.2 t v hl
theorem nF {L Y:List (Nat×Value)} {t:Nat}:(L++Y).lookup t=match L.lookup t with |some v=>some v|none=>Y.lookup t:=by
 induction L with
 |nil=>rfl
 |cons p L ih=>
  obtain ⟨k,u⟩:=p
  by_cases e:t==k
  ·simp [List.lookup,e]
  ·have:(t==k)=false:=by simpa using e
   simp only [List.cons_append,List.lookup,this,ih]
theorem AV.app {B L Y:List (Nat×Value)} (h:AV B L):AV B (L++Y):=fun t v ht=>by rw [nF,h t v ht]
theorem Pg {B L:List (Nat×Value)} (h:AV B L) {x:Operand} {v:Value} (hv:ev B x=some v):ev L x=some v:=by
 cases x<;>simp only [ev] at hv ⊢ <;>first|exact h _ _ hv|exact hv
theorem EW {B L:List (Nat×Value)} (h:AV B L): ∀ {xs:List Operand} {vs:List Value},evs B xs=some vs→evs L xs=some vs
 |[],vs,hv=>hv
 |x::xs,vs,hv=>by
  simp only [evs] at hv ⊢
  cases e1:ev B x with
  |none=>rw [e1] at hv; simp at hv
  |some v=>
   cases e2:evs B xs with
   |none=>rw [e1,e2] at hv; simp at hv
   |some us=>
    rw [e1,e2] at hv
    rw [Pg h e1,EW h e2]; exact hv
section
variable (E:fg) (ops:Array Oper) (D:List Deferred) (C':List av) (K0:Act→World→Prop) (B:List (Nat×Value)) (dO:Nat→Nat) (VO:Nat→Nat→Value) (AO:Nat→Nat→av)
def CH:List fF→List (Nat×Value)→List av→Prop
 |[],L,C=>KJ E K0 D L C
 | .take i::s,L,C=> ∀ b,CH s ((dO i,VO i b)::L) (AO i b::C)
 | .op j::s,L,C=> ∀ o,ops[j]? =some o→ ∀ (Y:List (Nat×Value)) (X:List av) (K:Act→World→Prop),(∀ L' C'',(∀ w,St E.S E.w0 C'' w→St E.S E.w0 C' w)→((Ba dO s).all fun d=>(L'.lookup d).isNone)=true→B.map (fun p=>L'.lookup p.1)=B.map (fun p=>some p.2)→CH s L' C''→KJ E K D (L'++Y) (C''++X))→RJ E ops (NQ K) [o] D (L++Y) (C++X)
/-- a row that is made at any time -/
def Sl (i:Nat):Prop:= ∀ o,ops[i]? =some o→ ∀ (L:List (Nat×Value)) (C:List av) (K:Act→World→Prop),AV B L→(∀ b,KJ E K D ((dO i,VO i b)::L) (AO i b::C))→RJ E ops (NQ K) [o] D L C
end
section
variable {E:fg} {ops:Array Oper} {D:List Deferred} {C' C1:List av} {K0:Act→World→Prop} {B:List (Nat×Value)} {dO:Nat→Nat} {VO:Nat→Nat→Value} {AO:Nat→Nat→av}
theorem EV {Q:c_} {rest:List Oper} {L L2:List (Nat×Value)} {C C2:List av} (hL: ∀ a,Fr E.n D L a→Fr E.n D L2 a) (hC: ∀ w,St E.S E.w0 C w→St E.S E.w0 C2 w) (h:RJ E ops Q rest D L2 C2):RJ E ops Q rest D L C:=fun a w hf hs=>h a w (hL a hf) (hC w hs)
theorem Ar {K:Act→World→Prop} {L L2:List (Nat×Value)} {C C2:List av} (hL: ∀ a,Fr E.n D L a→Fr E.n D L2 a) (hC: ∀ w,St E.S E.w0 C w→St E.S E.w0 C2 w) (h:KJ E K D L2 C2):KJ E K D L C:=fun a w hf hs=>h a w (hL a hf) (hC w hs)
theorem Cs {n:Nat} {L L2:List (Nat×Value)} (h: ∀ t v,L2.lookup t=some v→L.lookup t=some v) (a:Act) (hf:Fr n D L a):Fr n D L2 a:=⟨hf.defers,hf.size,fun t v ht=>hf.at_ t v (h t v ht)⟩
theorem Dn: ∀ (T0 s':List fF) (dn:List (Nat×Nat)) (L Y:List (Nat×Value)) (C:List av),(∀ x∈T0,∃ i b,x= .take i∧(i,b)∈dn)→(T0++s').Pairwise (fun x y=>rB (pR ops) dO x y=true)→(dn.map (·.1)).Nodup→(∀ p∈dn,fF.take p.1∈T0++s')→(∀ p∈dn,Y.lookup (dO p.1)=some (VO p.1 p.2))→(∀ i,fF.take i∈T0++s'→L.lookup (dO i)=none)→
 CH E ops D C' K0 B dO VO AO (T0++s') L C→ ∃ (dn':List (Nat×Nat)) (L':List (Nat×Value)) (C2:List av),CH E ops D C' K0 B dO VO AO s' L' C2∧(dn'.map (·.1)).Nodup∧(∀ p,p∈dn'↔p∈dn∧fF.take p.1∈s')∧(∀ t v,(L'++Y).lookup t=some v→(L++Y).lookup t=some v)∧(∀ i,fF.take i∈s'→L'.lookup (dO i)=none)∧(∀ w,St E.S E.w0 (C++dn.map fun p=>AO p.1 p.2) w→St E.S E.w0 (C2++dn'.map fun p=>AO p.1 p.2) w)
 |[],s',dn,L,Y,C,_,_,hn,hm,_,hl,h=>⟨dn,L,C,h,hn,fun p=>⟨fun q=>⟨q,hm p q⟩,fun q=>q.1⟩,fun t v q=>q,hl,fun w q=>q⟩
 |x::T0,s',dn,L,Y,C,ht,hp,hn,hm,hy,hl,h=>by
  obtain ⟨i,b,rfl,hb⟩:=ht x (cj ..)
  obtain ⟨J,P⟩:=List.pairwise_cons.1 hp
  have AB: ∀ y∈T0++s',i≠y.ix:=fun y hy e=>by
   have:=J y hy
   simp only [rB,cP,bne_iff_ne,fF.ix] at this
   exact this.1 e
  have N: ∀ k,fF.take k∈T0++s'→dO k≠dO i:=fun k hk e=>by
   have:=J _ hk
   simp only [rB,cP,bne_iff_ne] at this
   exact this.2 e.symm
  have K:dn.Perm ((i,b)::dn.erase (i,b)):=List.perm_cons_erase hb
  have H:((dn.erase (i,b)).map (·.1)).Nodup∧i ∉ (dn.erase (i,b)).map (·.1):=by
   have:=(K.map (·.1)).nodup_iff.1 hn
   exact ⟨(List.nodup_cons.1 this).2,(List.nodup_cons.1 this).1⟩
  have A: ∀ p∈dn.erase (i,b),p∈dn∧p.1≠i:=fun p hp=>⟨List.mem_of_mem_erase hp,fun e=>by have q:=List.mem_map_of_mem (f:=fun p:Nat×Nat=>p.1) hp; simp only [e] at q; exact H.2 q⟩
  have O:L.lookup (dO i)=none:=hl i (cj ..)
  obtain ⟨dn',L',C2,R,T,AA,V,W,X⟩:=Dn T0 s' (dn.erase (i,b)) ((dO i,VO i b)::L) Y (AO i b::C) (fun x hx=>by
   obtain ⟨k,c,rfl,hk⟩:=ht x (cT _ hx)
   refine ⟨k,c,U,?_⟩
   have F:k≠i:=fun e=>AB _ (List.mem_append_left _ hx) e.symm
   exact (List.mem_erase_of_ne (fun e=>F (congrArg Prod.fst e))).2 hk) P H.1 (fun p hp=>by
   obtain ⟨M,G⟩:=A p hp
   rcases List.mem_cons.1 (hm p M) with e|e
   ·injection e with e; exact absurd e G
   ·exact e) (fun p hp=>hy p (A p hp).1) (fun k hk=>by
   have:(dO k==dO i)=false:=by simpa using N k hk
   simp only [List.lookup,this]
   exact hl k (cT _ hk)) (h b)
  refine ⟨dn',L',C2,R,T,fun p=>?_,fun t v hv=>?_,W,fun w hw=>X w ?_⟩
  ·rw [AA]
   constructor
   ·rintro ⟨M,G⟩; exact ⟨(A p M).1,G⟩
   ·rintro ⟨M,G⟩
    have F:p.1≠i:=fun e=>AB _ (List.mem_append_right _ G) e.symm
    exact ⟨(List.mem_erase_of_ne (fun e=>F (congrArg Prod.fst e))).2 M,G⟩
  ·have:=V t v hv
   rw [nF] at this ⊢
   by_cases e:t=dO i
   ·subst e
    simp only [List.lookup,beq_self_eq_true] at this
    rw [O]; simp only
    rw [hy _ hb]; exact this
   ·have Q:(t==dO i)=false:=by simpa using e
    simp only [List.lookup,Q] at this
    exact this
  ·refine hw.perm ?_
   show (C++dn.map fun p=>AO p.1 p.2).Perm (AO i b::(C++(dn.erase (i,b)).map fun p=>AO p.1 p.2))
   refine ((K.map fun p:Nat×Nat=>AO p.1 p.2).append_left C).trans ?_
   exact List.perm_middle
theorem AK: ∀ (s:List fF) (j:Nat),fF.op j∈s→ ∃ T0 k s',s=T0++fF.op k::s'∧ ∀ x∈T0,∃ i,x=fF.take i
 | .take i::s,j,h=>by
  rcases List.mem_cons.1 h with e|h
  ·cases e
  ·obtain ⟨T0,k,s',rfl,A⟩:=AK s j h
   exact ⟨.take i::T0,k,s',U,fun x hx=>by
    rcases List.mem_cons.1 hx with rfl|hx
    ·exact ⟨i,U⟩
    ·exact A x hx⟩
 | .op k::s,j,_=>⟨[],k,s,rfl,fun x hx=>by cases hx⟩
def kg (s:List fF) (dn:List (Nat×Nat)):List Nat:=(s.map fF.ix).filter fun i=> !(dn.map (·.1)).contains i
theorem qI {s:List fF} {dn:List (Nat×Nat)} {i:Nat}:i∈kg s dn↔(∃ x∈s,x.ix=i)∧ ∀ p∈dn,p.1≠i:=by
 unfold kg
 rw [List.mem_filter,sL]
 refine and_congr Iff.rfl ?_
 rw [Bool.not_eq_true',← Bool.not_eq_true,List.contains_iff_mem,sL]
 constructor
 ·intro h p hp e; exact h ⟨p,hp,e⟩
 ·rintro h ⟨p,hp,e⟩; exact h p hp e
theorem qp (hal: ∀ i,Sl E ops D B dO VO AO i∨True): ∀ (n:Nat) (s:List fF) (dn:List (Nat×Nat)) (L Y:List (Nat×Value)) (C:List av),(∀ i,fF.take i∈s→Sl E ops D B dO VO AO i)→s.Pairwise (fun x y=>rB (pR ops) dO x y=true)→(kg s dn).length=n→(dn.map (·.1)).Nodup→(∀ p∈dn,fF.take p.1∈s)→(∀ p∈dn,Y.lookup (dO p.1)=some (VO p.1 p.2))→(∀ i,fF.take i∈s→L.lookup (dO i)=none)→AV B L→
 (∀ w,St E.S E.w0 C w→St E.S E.w0 C' w)→CH E ops D C' K0 B dO VO AO s L C→TN E ops D C' C1 (fun L C=>KJ E K0 D L C) [] n (kg s dn) (L++Y) (C++dn.map fun p=>AO p.1 p.2)
 |0,s,dn,L,Y,C,_,hp,hlen,hn,hm,hy,hl,hB,hC,h=>by
  have hr:kg s dn=[]:=jv hlen
  have Q: ∀ x∈s,∃ i b,x=fF.take i∧(i,b)∈dn:=fun x hx=>by
   have hx':x.ix ∉ kg s dn:=by rw [hr]; exact List.not_mem_nil
   rw [qI] at hx'
   have: ∃ p∈dn,p.1=x.ix:=by
    apply Classical.byContradiction
    intro q
    exact hx' ⟨⟨x,hx,U⟩,fun p hp e=>q ⟨p,hp,e⟩⟩
   obtain ⟨p,T,AF⟩:=this
   have ht:=hm p T
   rcases List.mem_iff_getElem.1 hx with ⟨a,ha,ea⟩
   rcases List.mem_iff_getElem.1 ht with ⟨c,hc,ec⟩
   have d:a=c:=by
    rcases Nat.lt_trichotomy a c with q|q|q
    ·have:=List.pairwise_iff_getElem.1 hp a c ha hc q
     simp only [rB,cP,bne_iff_ne,ea,ec] at this
     exact absurd AF.symm this.1
    ·exact q
    ·have:=List.pairwise_iff_getElem.1 hp c a hc ha q
     simp only [rB,cP,bne_iff_ne,ea,ec] at this
     exact absurd AF this.1
   subst d
   exact ⟨p.1,p.2,by rw [← ea,ec],T⟩
  obtain ⟨dn',L',C2,V,J,O,W,h5,X⟩:=Dn s [] dn L Y C Q (by simpa using hp) hn (by simpa using hm) hy (by simpa using hl) (by simpa using h)
  show KJ E K0 D _ _
  have hd:dn'=[]:=List.eq_nil_iff_forall_not_mem.2 fun p hp=>by have:=((O p).1 hp).2; cases this
  subst hd
  refine Ar (L2:=L') (C2:=C2) (fun a hf=>Cs (fun t v ht=>W t v (by rw [nF,ht])) a hf) (fun w hw=>by have:=X w hw; simpa using this) V
 |n+1,s,dn,L,Y,C,hal',hp,hlen,hn,hm,hy,hl,hB,hC,h=>by
  intro i hi o ho K hK
  obtain ⟨G,m⟩:=List.mem_filter.1 hi
  obtain ⟨⟨x,hx,rfl⟩,H⟩:=qI.1 G
  have A: ∀ k∈kg s dn,im (pR ops) k x.ix=false:=fun k hk=>by
   have:=List.all_eq_true.1 m k hk
   simpa using this
  cases x with
  |take i=>
   simp only [fF.ix] at H A ho hK G ⊢
   refine hal' i hx o ho _ _ K hB.app fun b=>?_
   have l:=hl i hx
   have AG:(kg s dn).filter (· != i)=kg s ((i,b)::dn):=by
    unfold kg
    rw [List.filter_filter]
    apply List.filter_congr
    intro k _
    simp only [List.map_cons,List.contains_cons,Bool.not_or]
    rfl
   have N:(kg s dn).Nodup:=by
    unfold kg
    refine List.Nodup.sublist List.filter_sublist<|List.pairwise_map.2 (hp.imp fun {a c} q=>?_)
    simp only [rB,cP,bne_iff_ne] at q
    exact q.1
   have M: ∀ k,fF.take k∈s→k≠i→dO k≠dO i:=fun k hk AA e=>by
    rcases List.mem_iff_getElem.1 hx with ⟨a,ha,ea⟩
    rcases List.mem_iff_getElem.1 hk with ⟨c,hc,ec⟩
    rcases Nat.lt_trichotomy a c with q|q|q
    ·have:=List.pairwise_iff_getElem.1 hp a c ha hc q
     simp only [rB,cP,bne_iff_ne,ea,ec] at this
     exact this.2 e.symm
    ·subst q; rw [ea] at ec; cases ec; exact AA rfl
    ·have:=List.pairwise_iff_getElem.1 hp c a hc ha q
     simp only [rB,cP,bne_iff_ne,ea,ec] at this
     exact this.2 e
   refine Ar (L2:=L++((dO i,VO i b)::Y)) (C2:=C++((i,b)::dn).map fun p=>AO p.1 p.2) (fun a hf=>Cs (fun t v ht=>?_) a hf) (fun w hw=>hw.perm (List.perm_middle).symm) (hK _ _ (fun w hw=>hC w (hw.take (List.sublist_append_left _ _))) (fun q=>by cases q) ?_)
   ·rw [nF] at ht
    by_cases e:t=dO i
    ·subst e
     rw [l] at ht
     simp only [List.lookup,beq_self_eq_true] at ht ⊢
     exact ht
    ·have e2:(t==dO i)=false:=by simpa using e
     simp only [List.lookup,e2] at ht ⊢
     rw [nF]; exact ht
   ·rw [AG]
    refine qp hal n s ((i,b)::dn) L ((dO i,VO i b)::Y) C hal' hp ?_ (List.nodup_cons.2 ⟨fun q=>?_,hn⟩) (fun p hp'=>?_) (fun p hp'=>?_) hl hB hC h
    ·rw [← AG,← List.Nodup.erase_eq_filter N,List.length_erase_of_mem G,hlen]; rfl
    ·obtain ⟨p,hp',e⟩:=List.mem_map.1 q
     exact H p hp' e
    ·rcases List.mem_cons.1 hp' with rfl|hp'
     ·exact hx
     ·exact hm p hp'
    ·rcases List.mem_cons.1 hp' with rfl|hp'
     ·simp [List.lookup]
     ·have:(dO p.1==dO i)=false:=by simpa using M p.1 (hm p hp') (H p hp')
      simp only [List.lookup,this]
      exact hy p hp'
  |op j=>
   simp only [fF.ix] at H A ho hK G ⊢
   obtain ⟨T0,k,s',rfl,hT⟩:=AK s j hx
   obtain ⟨q1,q2,q3⟩:=List.pairwise_append.1 hp
   obtain ⟨q4,q5⟩:=List.pairwise_cons.1 q2
   have R: ∀ k',fF.op k'∈T0++fF.op k::s'→k'∈kg (T0++fF.op k::s') dn:=fun k' hk'=>by
    refine qI.2 ⟨⟨_,hk',U⟩,fun p hp' e=>?_⟩
    have ht:=hm p hp'
    rcases List.mem_iff_getElem.1 hk' with ⟨a,ha,ea⟩
    rcases List.mem_iff_getElem.1 ht with ⟨c,hc,ec⟩
    rcases Nat.lt_trichotomy a c with q|q|q
    ·have:=List.pairwise_iff_getElem.1 hp a c ha hc q
     simp only [rB,cP,bne_iff_ne,ea,ec,fF.ix] at this
     exact this.1 e.symm
    ·subst q; rw [ea] at ec; cases ec
    ·have:=List.pairwise_iff_getElem.1 hp c a hc ha q
     simp only [rB,cP,bne_iff_ne,ea,ec,fF.ix] at this
     exact this.1 e
   have AB:k=j:=by
    apply Classical.byContradiction
    intro AC
    have hj':fF.op j∈s':=by
     rcases List.mem_append.1 hx with q|q
     ·obtain ⟨i,e⟩:=hT _ q; cases e
     ·rcases List.mem_cons.1 q with e|q
      ·injection e with e; exact absurd e.symm AC
      ·exact q
    have:=q4 _ hj'
    simp only [rB,cP,fF.ix] at this
    have J:=A k (R k sm)
    rw [this.2] at J; cases J
   subst AB
   have F: ∀ x∈T0,∃ i b,x=fF.take i∧(i,b)∈dn:=fun x hx'=>by
    obtain ⟨i,rfl⟩:=hT x hx'
    apply Classical.byContradiction
    intro q
    have r:i∈kg (T0++fF.op k::s') dn:=qI.2 ⟨⟨_,List.mem_append_left _ hx',rfl⟩,fun p hp' e=>q ⟨i,p.2,rfl,by rw [← e]; exact hp'⟩⟩
    have:=q3 _ hx' _ (cj ..)
    simp only [rB,cP,fF.ix] at this
    have J:=A i r
    rw [this.2] at J; cases J
   obtain ⟨dn',L',C2,V,J,O,W,h5,X⟩:=Dn T0 (fF.op k::s') dn L Y C F hp hn hm hy hl h
   refine EV (fun a hf=>Cs W a hf) X (V o ho Y (dn'.map fun p=>AO p.1 p.2) K fun L3 C3 P AD Z g=>?_)
   have AG:(kg (T0++fF.op k::s') dn).filter (· != k)=kg s' dn':=by
    unfold kg
    rw [List.map_append,List.filter_append,List.map_cons,List.filter_append]
    have e1:(List.map fF.ix T0).filter (fun i=> !(dn.map (·.1)).contains i)=[]:=by
     apply List.filter_eq_nil_iff.2
     intro z hz
     obtain ⟨x,hx',rfl⟩:=List.mem_map.1 hz
     obtain ⟨i,b,rfl,hb⟩:=F x hx'
     simp only [fF.ix,Bool.not_eq_true',Bool.not_eq_false,List.contains_iff_mem]
     exact List.mem_map_of_mem (f:=(·.1)) hb
    rw [e1]
    simp only [List.filter_nil,List.nil_append]
    have u:k ∉ dn.map (·.1):=fun q=>by
     obtain ⟨p,hp',e⟩:=List.mem_map.1 q
     exact H p hp' e
    rw [List.filter_cons_of_pos (by simpa [fF.ix] using u),List.filter_cons_of_neg (by simp [fF.ix]),List.filter_filter]
    apply List.filter_congr
    intro z hz
    obtain ⟨y,hy',rfl⟩:=List.mem_map.1 hz
    have AE:y.ix≠k:=fun e=>by
     have:=q4 y hy'
     simp only [rB,cP,bne_iff_ne,fF.ix] at this
     exact this.1 e.symm
    rw [Bool.eq_iff_iff]
    simp only [cP,bne_iff_ne,Bool.not_eq_true',← Bool.not_eq_true,List.contains_iff_mem]
    constructor
    ·rintro ⟨_,hq⟩ hc
     obtain ⟨p,hp',e⟩:=List.mem_map.1 hc
     exact hq (by rw [← e]; exact List.mem_map_of_mem (f:=(·.1)) ((O p).1 hp').1)
    ·intro hq
     refine ⟨AE,fun hc=>?_⟩
     obtain ⟨p,hp',e⟩:=List.mem_map.1 hc
     apply hq
     rw [← e]
     refine List.mem_map_of_mem (f:=(·.1)) ((O p).2 ⟨hp',?_⟩)
     have ht:=hm p hp'
     rcases List.mem_append.1 ht with ht|ht
     ·exfalso
      have:=q3 _ ht _ (cT _ hy')
      simp only [rB,cP,bne_iff_ne,fF.ix] at this
      exact this.1 e
     ·exact ht
   have N:(kg (T0++fF.op k::s') dn).Nodup:=by
    unfold kg
    refine List.Nodup.sublist List.filter_sublist<|List.pairwise_map.2 (hp.imp fun {a c} q=>?_)
    simp only [rB,cP,bne_iff_ne] at q
    exact q.1
   refine hK _ _ (fun w hw=>P w (hw.take (List.sublist_append_left _ _))) (fun q=>by cases q) ?_
   rw [AG]
   have hdn': ∀ p∈dn',fF.take p.1∈s':=fun p hp'=>by
    rcases List.mem_cons.1 ((O p).1 hp').2 with e|e
    ·cases e
    ·exact e
   refine qp hal n s' dn' L3 Y C3 (fun i hi=>hal' i (by simp [hi])) q5 ?_ J hdn' (fun p hp'=>hy p ((O p).1 hp').1) (fun i hi=>?_) (vJ Z) P g
   ·rw [← AG,← List.Nodup.erase_eq_filter N,List.length_erase_of_mem G,hlen]; rfl
   ·have:=List.all_eq_true.1 AD _ (sJ hi)
    simpa using this
/-- the rows, at any time; the others, one after the other -/
theorem N4 {tb rem:List Nat} {L:List (Nat×Value)} {C:List av} (s:List fF) (B:List (Nat×Value)) (dO:Nat→Nat) (VO:Nat→Nat→Value) (AO:Nat→Nat→av) {n:Nat} (htb:tb=[]) (hr:s.map fF.ix=rem) (hn:rem.length=n) (hp:Ti (pR ops) dO s=true) (hl:((Ba dO s).all fun d=>(L.lookup d).isNone)=true) (hB:B.map (fun p=>L.lookup p.1)=B.map (fun p=>some p.2)) (hC: ∀ w,St E.S E.w0 C w→St E.S E.w0 C' w)
 (hal: ∀ i,fF.take i∈s→Sl E ops D B dO VO AO i) (h:CH E ops D C' K0 B dO VO AO s L C):TN E ops D C' C1 (fun L C=>KJ E K0 D L C) tb n rem L C:=by
 subst htb hr
 have e:kg s []=s.map fF.ix:=by unfold kg; simp
 have:=qp (C1:=C1) (fun i=> .inr trivial) n s [] L [] C hal (E5 hp) (by rw [e]; exact hn) List.nodup_nil (fun p hp=>by cases hp) (fun p hp=>by cases hp) (fun i hi=>by
  have:=List.all_eq_true.1 hl _ (sJ hi)
  simpa using this) (vJ hB) hC h
 simpa [e] using this
theorem Pm {p:Nat→Prop}: ∀ i,fF.take i∈([]:List fF)→p i:=fun i h=>by cases h
theorem w7 {p:Nat→Prop} {j:Nat} {s:List fF} (h: ∀ i,fF.take i∈s→p i): ∀ i,fF.take i∈fF.op j::s→p i:=fun i hi=>by
 rcases List.mem_cons.1 hi with e|hi
 ·cases e
 ·exact h i hi
theorem vv {p:Nat→Prop} {j:Nat} {s:List fF} (hj:p j) (h: ∀ i,fF.take i∈s→p i): ∀ i,fF.take i∈fF.take j::s→p i:=fun i hi=>by
 rcases List.mem_cons.1 hi with e|hi
 ·cases e; exact hj
 ·exact h i hi
end
section
variable {E:fg} {ops:Array Oper} {D:List Deferred} {B:List (Nat×Value)} {dO:Nat→Nat} {VO:Nat→Nat→Value} {AO:Nat→Nat→av}
variable {d:Nat} {ty:TypeId} {ps:String} {af:Array Edge}
theorem Jx {i t e sz:Nat} (ho:ops[i]? =some ⟨some d,.buildSlice t 0 #[],ty,ps,af,none⟩) (ht:tE E.P t=some (e,sz)) (hd:Nat.blt d E.n=true) (h1:dO i=d) (h2: ∀ b,VO i b= .slice (some ⟨b,0,none⟩) 0 0) (h3: ∀ b,AO i b=bY b e []):Sl E ops D B dO VO AO i:=fun o ho' L C K hB hk=>by
 rw [ho] at ho'; cases ho'
 exact sG U ht hd fun b=>aG (by have:=hk b; rw [h1,h2,h3] at this; exact this)
theorem OK {i t e sz n:Nat} {xs:List Operand} {vs:List Value} {cs zs:List Value} (ho:ops[i]? =some ⟨some d,.buildSlice t n ((xs.zipIdx.map fun p=>(p.2,p.1)).toArray),ty,ps,af,none⟩) (ht:tE E.P t=some (e,sz)) (hz:tZ E.P e=some zs) (hx:evs B xs=some vs) (hn:xs.length=n) (hp:Nat.blt 0 (n*sz)=true) (hb:Nat.ble (n*sz) 16777216=true) (hv: ∀ v∈vs,v.cells.size=sz)
 (hc:(vs.map (·.cells.toList)).flatten=cs) (hd:Nat.blt d E.n=true) (h1:dO i=d) (h2: ∀ b,VO i b= .slice (some ⟨b,0,none⟩) n n) (h3: ∀ b,AO i b=bY b e cs):Sl E ops D B dO VO AO i:=fun o ho' L C K hB hk=>by
 rw [ho] at ho'; cases ho'
 exact cZ U ht hz (EW hB hx) hn hp hb hv hc hd fun b=>aG (by have:=hk b; rw [h1,h2,h3] at this; exact this)
end
section
variable {E:fg} {ops:Array Oper} {D:List Deferred} {C':List av} {K0:Act→World→Prop} {B:List (Nat×Value)} {dO:Nat→Nat} {VO:Nat→Nat→Value} {AO:Nat→Nat→av}
theorem w8 {j:Nat} {s:List fF} {L:List (Nat×Value)} {C:List av} {o:Oper} (ho:ops[j]? =some o)
 (h: ∀ (Y:List (Nat×Value)) (X:List av) (K:Act→World→Prop),(∀ L' C'',(∀ w,St E.S E.w0 C'' w→St E.S E.w0 C' w)→((Ba dO s).all fun d=>(L'.lookup d).isNone)=true→B.map (fun p=>L'.lookup p.1)=B.map (fun p=>some p.2)→CH E ops D C' K0 B dO VO AO s L' C''→KJ E K D (L'++Y) (C''++X))→RJ E ops (NQ K) [o] D (L++Y) (C++X)):CH E ops D C' K0 B dO VO AO (.op j::s) L C:=fun o' ho'=>by
 rw [ho] at ho'; cases ho'
 exact h
theorem rG {s:List fF} {L Y:List (Nat×Value)} {C X:List av} {K:Act→World→Prop} (hT: ∀ L' C'',(∀ w,St E.S E.w0 C'' w→St E.S E.w0 C' w)→((Ba dO s).all fun d=>(L'.lookup d).isNone)=true→B.map (fun p=>L'.lookup p.1)=B.map (fun p=>some p.2)→CH E ops D C' K0 B dO VO AO s L' C''→KJ E K D (L'++Y) (C''++X)) (nL nC:Nat)
 (hL:L.take nL++Y=L) (hC:C.take nC++X=C) (h1: ∀ w,St E.S E.w0 (C.take nC) w→St E.S E.w0 C' w) (h2:((Ba dO s).all fun d=>((L.take nL).lookup d).isNone)=true) (h3:B.map (fun p=>(L.take nL).lookup p.1)=B.map (fun p=>some p.2)) (h:CH E ops D C' K0 B dO VO AO s (L.take nL) (C.take nC)):RJ E ops (NQ K) [] D L C:=by
 have:=hT _ _ h1 h2 h3 h
 rw [hL,hC] at this
 exact aG this
theorem SR {c:Code} {Q:c_} {L L':List (Nat×Value)} {C:List av} (h:L'.map (fun p=>L.lookup p.1)=L'.map (fun p=>some p.2)) (k:WJ E c Q D L' C):WJ E c Q D L C:=fun a w hf hs=>k a w (Cs (vJ h) a hf) hs
theorem xM: ∀ {C:List av} {i:Nat} {A:av},C[i]? =some A→C.Perm (A::C.eraseIdx i)
 |[],i,A,h=>by simp at h
 |x::C,0,A,h=>by
  simp at h; subst h
  exact List.Perm.refl _
 |x::C,i+1,A,h=>((xM (C:=C) (i:=i) (by simpa using h)).cons x).trans (List.Perm.swap _ _ _)
theorem St.front {S:BS} {w0 w:World} {C:List av} {A:av} (i:Nat) (hi:C[i]? =some A) (h:St S w0 C w):St S w0 (A::C.eraseIdx i) w:=h.perm (xM hi)
theorem EZ {K:Act→World→Prop} {L:List (Nat×Value)} {C:List av} {A:av} (i:Nat) (hi:C[i]? =some A) (h:KJ E K D L (A::C.eraseIdx i)):KJ E K D L C:=fun a w hf hs=>h a w hf (hs.front i hi)
theorem qV {Q:c_} {rest:List Oper} {L:List (Nat×Value)} {C:List av} {A:av} (i:Nat) (hi:C[i]? =some A) (h:RJ E ops Q rest D L (A::C.eraseIdx i)):RJ E ops Q rest D L C:=fun a w hf hs=>h a w hf (hs.front i hi)
end
end
section
open Go.RowKit
section
variable {E:fg} {ops:Array Oper} {D:List Deferred} {C' C1:List av} {tb:List Nat}
theorem wy {V:Type} {F:List (Nat×Value)→List av→Prop} (P:V→Prop) (fL:V→List (Nat×Value)) (fC:V→List av) (n:Nat) (rest:List Nat) {m:Nat} {rem:List Nat} {L:List (Nat×Value)} {C:List av} (h1:(∀ v,P v→TN E ops D C' C1 F tb n rest (fL v) (fC v))→TN E ops D C' C1 F tb m rem L C) (h2: ∀ v,P v→TN E ops D C' C1 F tb n rest (fL v) (fC v)):TN E ops D C' C1 F tb m rem L C:=h1 h2
theorem P5 {K0:Act→World→Prop} {n:Nat} {rem:List Nat} {L L2:List (Nat×Value)} {C C2:List av} (hL: ∀ a,Fr E.n D L a→Fr E.n D L2 a) (hC: ∀ w,St E.S E.w0 C w→St E.S E.w0 C2 w) (h:TN E ops D C' C1 (fun L C=>KJ E K0 D L C) tb n rem L2 C2):TN E ops D C' C1 (fun L C=>KJ E K0 D L C) tb n rem L C:=by
 cases n with
 |zero=>exact Ar hL hC h
 |succ n=>exact fun i hi o ho K hK=>EV hL hC (h i hi o ho K hK)
theorem jP {V:Type} {P:V→Prop} {fL:V→List (Nat×Value)} {fC:V→List av} {K0:Act→World→Prop} {n:Nat} {rem:List Nat} {L:List (Nat×Value)} {C:List av} (hJ: ∀ v,P v→TN E ops D C' C1 (fun L C=>KJ E K0 D L C) tb n rem (fL v) (fC v)) (v:V) (hp:P v) (ix:List Nat) (hL:(fL v).map (fun p=>L.lookup p.1)=(fL v).map (fun p=>some p.2)) (hn:decide ix.Nodup=true) (hC:oW C ix=some (fC v)):TN E ops D C' C1 (fun L C=>KJ E K0 D L C) tb n rem L C:=
 P5 (fun a hf=>Cs (vJ hL) a hf) (fun w hs=>St.kd _ hn (jy hC) hs) (hJ v hp)
end
end
section
open Go.RowKit
theorem Qg (h i:Int) (r:cm) (kA:OA) (kC:Nat) (az:List RA) (cA:OA) (cC:Nat) (bA:OA) (bC:Nat) (slA:OA) (slC:Nat) (drA:OA) (drC:Nat) (ha:List cS) (heA:OA) (heC:Nat) (hin:fm r az ha):
 eg Tryz.prog 8 [(vA (br.cells (oE r kA kC cA cC bA bC slA slC drA drC heA heC))),(vI h),(vI i)] [(rd dH 3 2 dp),(rd kA r.ah.aI.length 9 (r.ah.aI.map an.cells)),(rd cA r.ah.ai.length 2 (List.zipWith au.cells r.ah.ai az)),(e9 (aS au.gW r.ah.ai az)),(rd bA r.ah.ae.length 4 (r.ah.ae.map bG.cells)),(rd slA r.aJ.length 1 (r.aJ.map iC)),(rd drA r.bB.length 1 (r.bB.map iC)),(rd heA r.ar.length 1 (List.zipWith cJ r.ar ha)),(e9 (aS iu r.ar ha))] (vT [(vA (aa.cells (eZ r h i))),(vI (gT r h i))]):=by
 have AB:=hin.line
 have AJ:=hin.iQ
 have AK:=hin.has
 have AG:=hin.iP
 have AE:=hin.draw
 have F:=dG (r:=r)
 refine bI kr Tryz.func8 U U fun w0 Q hQ hN=>?_
 try dsimp only
 refine WS fun _ u=>fR U fun b2=>AL U dg fun b3=>bo 1 U<|RK u<|WS fun _ X=>rP 1 [] (mc 1 U I) ?_
 refine cX (nR r kA kC az cA cC bA bC slA slC drA drC ha heA heC hin) (bp [2,3,4,5,6,7,8,9,10]) U fun y5 c=>?_
 obtain ⟨f,AI,o,m,g,j,zW⟩:=y5
 cases f
 ·obtain ⟨Y,he⟩:=c.2 rfl
  try dsimp only at Y he
  subst Y
  try dsimp only [cond_true,cond_false,List.cons_append,List.nil_append]
  refine bo 5 U<|RK X<|al fun _ AD=>ay<|WS fun _ N=>rP 3 [] I ?_
  refine RK N<|bV U (bg fun M=>?_) (bh fun M=>?_)
  ·exact absurd M he
  refine WS fun _ O=>rS (SX (bj (xs:=[]) (cs:=(aa.cells (aa.mk 0 0))) U U (bk gj U)) U U)<|bo 1 U<|fQ U cu U<|rP 1 [] I ?_
  refine RK O<|aq<|lg hQ [0] (mc 0 U I) U ?_
  first|(have e:=oK (h:=h) (i:=i) he; have B:eZ r h i=dA:=if_neg (fun q=>by rw [e] at q; exact he q); rw [e,B]; rfl)|(have e:=oQ (h:=h) (i:=i) he om; have B:eZ r h i=dA:=if_neg (fun q=>by rw [e] at q; cases q); rw [e,B]; rfl)|(have e:=m8 he om A hd C; have B:eZ r h i=dA:=if_neg (fun q=>by rw [e] at q; cases q); rw [e,B]; rfl)|(have e:=qh he om A hd C; rw [e.1,e.2,H]; done)
 obtain ⟨he,J⟩:=c.1 rfl
 try dsimp only [cond_true,cond_false,List.cons_append,List.nil_append]
 try dsimp only at J
 have a:=(jk he).2
 refine bo 5 U<|RK X<|al fun _ P=>ay<|WS fun _ R=>bo 1 U<|rS (SX (bZ (r:= .bool false) U U U ig) U U)<|bo 1 U<|RK R<|aX U<|WS fun _ K=>rP 5 [] (mc 5 U I) ?_
 refine cZ (xs:=[.tmp 25]) (cs:=[(vI h)]) U cx i_ U U U U (by simp [Value.cells]) U U fun k=>?_
 refine rS (CL (eg.eq (j0 0 ((r.ar.length:Int)-1) ([h]) (some ⟨k,0,none⟩) 1 sd) cU) (aw (a_ 0 U U (by simp [bK]) U)<|aK) U) ?_
 refine rP 2 [] I ?_
 refine ct (t:=29) U (bh fun s=>?_) (bg fun s=>?_)
 ·refine bo 7 U<|RK K<|aQ U<|WS fun _ S=>rS (SX (bj (xs:=[]) (cs:=(aa.cells (aa.mk 0 0))) U U (bk gj U)) U U)<|HP U cu U<|rP 1 [] I ?_
  refine RK S<|aq<|lg hQ [0] (mc 5 U I) U ?_
  first|(have e:=oK (h:=h) (i:=i) he; have B:eZ r h i=dA:=if_neg (fun q=>by rw [e] at q; exact he q); rw [e,B]; rfl)|(have e:=oQ (h:=h) (i:=i) he om; have B:eZ r h i=dA:=if_neg (fun q=>by rw [e] at q; cases q); rw [e,B]; rfl)|(have e:=m8 he om A hd C; have B:eZ r h i=dA:=if_neg (fun q=>by rw [e] at q; cases q); rw [e,B]; rfl)|(have e:=qh he om A hd C; rw [e.1,e.2,H]; done)
 refine rP 2 [] I ?_
 refine cZ (xs:=[.tmp 31]) (cs:=[(vI i)]) U cx i_ U U U U (by simp [Value.cells]) U U fun l=>?_
 refine rS (CL (eg.eq (Aw r kA kC az cA cC bA bC slA slC drA drC ha heA heC zW g j (Value.map (some m)) o ([i]) (some ⟨l,0,none⟩) 1 hin sd) cU) (lO [9,10,11,12,13,14,15,16]<|aw (aj (n:=(cR r).length) 3 U (mF (by rw [F]; exact J)))<|aw (dR 4 U tp)<|fG 2 U U<|aw (a_ 0 U U (by simp [bK]) U)<|aK) U) ?_
 refine rP 3 [] I ?_
 refine RK K<|cO U (bh fun p=>?_) (bg fun p=>?_)
 ·refine WS fun _ T=>rS (SX (bj (xs:=[]) (cs:=(aa.cells (aa.mk 0 0))) U U (bk gj U)) U U)<|Oc U cu U<|rP 1 [] I ?_
  refine RK T<|aq<|lg hQ [0] (mc 6 U I) U ?_
  first|(have e:=oK (h:=h) (i:=i) he; have B:eZ r h i=dA:=if_neg (fun q=>by rw [e] at q; exact he q); rw [e,B]; rfl)|(have e:=oQ (h:=h) (i:=i) he om; have B:eZ r h i=dA:=if_neg (fun q=>by rw [e] at q; cases q); rw [e,B]; rfl)|(have e:=m8 he om A hd C; have B:eZ r h i=dA:=if_neg (fun q=>by rw [e] at q; cases q); rw [e,B]; rfl)|(have e:=qh he om A hd C; rw [e.1,e.2,H]; done)
 refine WS fun _ AM=>rP 3 [] (mc 7 U I) ?_
 obtain ⟨ht,A⟩:=aM r.ar ((h).toNat) om
 obtain ⟨D,E⟩:=aM ha ((h).toNat) om
 have Z:(List.zipWith cJ r.ar ha)[(h).toNat]? =some (cJ ht D):=dT A E
 refine rS (IA ((h).toNat) U (aD 15 U) q9 dc om om) ?_
 have z:=hin.oz _ _ _ A E
 have AF:=z.oq
 have AA:=(a.oz ht (aU A)).1
 refine rS (fY ((h).toNat) 0 (vS D.1.1 ht.length D.1.2) U cd (aD 15 U) Z U dc U)<|rP 1 [] I ?_
 obtain ⟨d,hd⟩:=aM ht ((i).toNat) om
 obtain ⟨da,v⟩:=aM D.2 ((i).toNat) om
 have y:(List.zipWith ax.cells ht D.2)[(i).toNat]? =some (ax.cells d da):=dT hd v
 refine rS (IA ((i).toNat) U (show iU _ (rd D.1.1 ht.length 7 (List.zipWith ax.cells ht D.2)).holds from (dy 16 U (b_ A E cj))) xn dc om om)<|rS (nH (((i).toNat)*7) U (show iU _ (rd D.1.1 ht.length 7 (List.zipWith ax.cells ht D.2)).holds from (dy 16 U (b_ A E cj))) (Nat.mul_pos om dc) fB U)<|rS (fY ((i).toNat) 0 (vB d.Out) U cd (show iU _ (rd D.1.1 ht.length 7 (List.zipWith ax.cells ht D.2)).holds from (dy 16 U (b_ A E cj))) y U dc U)<|rP 1 [] I ?_
 refine RK AM<|cO U (fun C=>?_) (fun C=>?_)
 ·refine WS fun _ V=>rS (SX (bj (xs:=[]) (cs:=(aa.cells (aa.mk 0 0))) U U (bk gj U)) U U)<|Oc U cu U<|rP 1 [] I ?_
  refine RK V<|aq<|lg hQ [0] (mc 6 U I) U ?_
  first|(have e:=oK (h:=h) (i:=i) he; have B:eZ r h i=dA:=if_neg (fun q=>by rw [e] at q; exact he q); rw [e,B]; rfl)|(have e:=oQ (h:=h) (i:=i) he om; have B:eZ r h i=dA:=if_neg (fun q=>by rw [e] at q; cases q); rw [e,B]; rfl)|(have e:=m8 he om A hd C; have B:eZ r h i=dA:=if_neg (fun q=>by rw [e] at q; cases q); rw [e,B]; rfl)|(have e:=qh he om A hd C; rw [e.1,e.2,H]; done)
 refine cp<|aH<|KK P<|WS fun _ W=>bo 1 U<|rS (SX (bO U U) U U)<|rP 3 [] (mc 2 U I) ?_
 obtain ⟨tr,AN⟩:=aM (cR r) ((h).toNat) om
 obtain ⟨tra,G⟩:=aM zW ((h).toNat) om
 have b:(List.zipWith DD (cR r) zW)[(h).toNat]? =some (DD tr tra):=dT AN G
 refine rS (IA ((h).toNat) U (aj (n:=(cR r).length) 3 U (mF (by rw [F]; exact J))) Mc dc om om) ?_
 have L:=ym A AN
 have AH:tr.length=r.aJ.length:=by rw [L,List.length_map]; exact AA
 refine rS (fY ((h).toNat) 0 (vS tra.1 tr.length tra.2) U cd (aj (n:=(cR r).length) 3 U (mF (by rw [F]; exact J))) b U dc U) ?_
 refine rP 1 [] I ?_
 obtain ⟨x,hx⟩:=aM tr ((i).toNat) om
 have AC:=bL aa.cells hx
 refine rS (IA ((i).toNat) U (show iU _ (rd tra.1 tr.length 2 (tr.map aa.cells)).holds from (fun w hw=>(dR 4 U tp) w hw _ (b_ AN G (by simp [LY])))) jG dc om om) ?_
 have H:=Km L hx hd
 refine rS (ot ((i).toNat) 0 (aa.cells x) U cd (show iU _ (rd tra.1 tr.length 2 (tr.map aa.cells)).holds from (fun w hw=>(dR 4 U tp) w hw _ (b_ AN G (by simp [LY])))) AC U dc U U)<|Oc U cu U<|rP 1 [] I ?_
 refine RK W<|aq<|lg hQ [0] (mc 6 U I) U ?_
 first|(have e:=oK (h:=h) (i:=i) he; have B:eZ r h i=dA:=if_neg (fun q=>by rw [e] at q; exact he q); rw [e,B]; rfl)|(have e:=oQ (h:=h) (i:=i) he om; have B:eZ r h i=dA:=if_neg (fun q=>by rw [e] at q; cases q); rw [e,B]; rfl)|(have e:=m8 he om A hd C; have B:eZ r h i=dA:=if_neg (fun q=>by rw [e] at q; cases q); rw [e,B]; rfl)|(have e:=qh he om A hd C; rw [e.1,e.2,H]; done)
end
section
open Go.RowKit
theorem JR (m:g3) (gm g1:Nat):
 Ds Tryz.prog 64 [] [(vP g1)] [(ik iV gm (bT dV m)),(bY g1 58 [(Value.map (some gm))])] ([]:List Int) (fun ys x ys'=> ∃ n zs,(ys++[n]++zs).Perm (m.map (·.1))∧x=[vI n]∧ys'=ys++[n]) (fun ys=>ys.Perm (m.map (·.1))):=by
 refine sK kr Tryz.func64 U U fun l J Z A0 S Q hY M L hQ hN=>?_
 try dsimp only
 refine WS fun _ O=>rP 1 [] (mr 2 U I) ?_
 refine jL (kV:=iV) (m:=bT dV m) 1 U U nK U ⟨U,fun h=>h⟩ (by exact kU 1 U) U fun V=>?_
 try dsimp only
 refine RK O<|ay ?_
 have G:(og m m ([]:List Int))∧(∀ p∈m,p∈m)∧(J ([]:List Int) A0)∧(Fo A0 S A0):=by exact ⟨u9,fun p hp=>hp,M,L⟩
 refine bS (ι:={z:g3×(List Int)×av // (og m z.1 z.2.1)∧(∀ p∈z.1,p∈m)∧(J z.2.1 z.2.2)∧(Fo A0 S z.2.2)}) [0,1,5] [2,3] U U (fun z=>[]) (fun z=>[(yx iV V gm (bT dV m) (bT dV z.1.1) none),z.1.2.2]) (fun _=>rfl) (fun _=>rfl) (fun z=>z.1.1.length) ⟨(m,([]:List Int),A0),G⟩ (dB.nil _) (aL [2,3,0,1]) ?_
 clear G
 rintro ⟨⟨left,ys,A⟩,⟨B,H,C,D⟩⟩ J3 N
 try dsimp only at B H C D
 try dsimp only
 refine WS fun _ AB=>iW (eL pK).inj (f:=dV) 2 U U U U (fun T=>?_) (fun x y hm hn=>?_)
 ·refine rP 1 [] I ?_
  refine RK AB<|al fun _ AA=>aX U<|bE<|ag<|ag<|aA ?_
  refine hN _ _ _ (gV (vs:=[]) trivial fun w hs=>Kn 3 U (by rw [T] at B; exact w5 B) C D hs)
 try dsimp only
 refine bo 1 U<|RK AB<|al fun _ P=>aQ U<|WK P<|ay<|WS fun _ R=>rS (SX (ja 2 U U U) U U)<|bo 2 U<|RK R<|WS fun _ K=>rP 2 [] I ?_
 refine kf (k:=ys) (k':=(ys++[(x)])) 3 (by first|exact hsz|exact Nat.le_refl _) hY C D U U U (by exact ⟨x,_,nV hn hm B,U,U⟩) U U (fun B9 F E=>?_) (fun B9 F E=>?_)
 rotate_left 1
 ·refine rP 1 [] I ?_
  refine RK K<|aQ U<|aq ?_
  refine hQ _ _ _ (gV (vs:=[]) trivial fun w hs=>rn 3 U F E hs)
 refine rP 1 [] I ?_
 refine RK K<|aX U<|cp<|aH<|gQ 2 U fz U ?_
 refine aW (N ⟨((cD left x),(ys++[(x)]),B9),⟨nV hn hm B,fU H,F,E⟩⟩ _ _ _ U (eW hm) (aV U) (aL [0,1,2,3]))
theorem FK (gm:Nat):
 lE Tryz.prog 42 [(Value.map (some gm))] [] (fun (x:Nat)=>(Value.func (.func 64) [].toArray [(vP x)].toArray)) (fun (x:Nat)=>True) (fun (x:Nat)=>[(bY x 58 [(Value.map (some gm))])]):=by
 refine dv kr Tryz.func42 U U fun D Q hQ hN=>?_
 try dsimp only
 refine WS fun _ A=>uh U U fun C=>bo 1 U<|RK A<|WS fun _ B=>rS (FU U)<|rP 1 [] I ?_
 refine RK B<|aq<|LX hQ C [0] [] I U U U U ?_
 trivial
end
section
open Go.RowKit
theorem F9 (m:g3) (gm g1:Nat) (hlen:m.length≤12):
 lE Tryz.prog 85 [(vS none 0 0),(Value.func (.func 64) [].toArray [(vP g1)].toArray)] [(ik iV gm (bT dV m)),(bY g1 58 [(Value.map (some gm))])] (fun (x:(List Int)×(OA)×Nat)=>(vS x.2.1 x.1.length x.2.2)) (fun (x:(List Int)×(OA)×Nat)=>x.1.Perm (m.map (·.1))) (fun (x:(List Int)×(OA)×Nat)=>[(own x.2.1 x.2.2 3 1 (x.1.map iC))]):=by
 refine dv kr Tryz.func85 U U fun X Q hQ hN=>?_
 try dsimp only
 refine WS fun _ AB=>uh U U fun N=>bo 1 U<|RK AB<|al fun _ J=>WS fun _ K=>rP 1 [] I ?_
 refine RK K<|ay<|kp 1 U (by exact fun _ h=>h)<|kp 3 U (by exact fun _ h=>h)<|fT 3 1 ?_
 refine nx (L0:=[(2,(vP N))]) (F:=[(ik iV gm (bT dV m)).ro,(bY g1 58 [(Value.map (some gm))]).ro]) (fun k (y:(OA)×Nat)=>(∃ zs,(k++zs).Perm (m.map (·.1)))) (fun k y=>[(own y.1 y.2 3 1 (k.map iC)),(bY N 29 [(vS y.1 k.length y.2)]),(ik iV gm (bT dV m)).ro]) (fun _ (_:Unit)=>False) (fun _ _=>[]) [0,3,4] [2,1] (none,0) rfl rfl (JR m gm g1) rfl rfl rfl (by exact ⟨_,List.Perm.refl _⟩) (by simp only [List.forall_mem_cons,List.not_mem_nil,false_imp_iff,implies_true,and_true]; exact ⟨⟨_,sm,(dD (bQ _))⟩,⟨_,sm,(dD (bQ _))⟩⟩) (by rintro k x AA ⟨n,zs,_,rfl,_⟩; rfl) rfl (aV rfl) ?_ ?_ (fun _ _ _ h=>h.elim) (fun _ _ h=>h.elim)
 rotate_left 1
 ·rintro V k ⟨a,c⟩ E A
  have B:=A
  try dsimp only at B
  try dsimp only
  refine aH<|KK J<|WS fun _ C=>rP 2 [] (mc 4 U I) ?_
  refine RK C<|aq<|hQ _ _ _ (oi 0 U U<|gV (vs:=[(vS a k.length c)]) ⟨U,trivial⟩ fun w hs=>Ly (k,a,c) [3] ?_ ?_ U U U hs)
  ·rfl
  ·first|exact E|exact hys
 rintro k x AA ⟨a,c⟩ l ra rb S Y K5 Qr6 T hx G L D O P
 obtain ⟨n,zs,hn,rfl,rfl⟩:=hx; have M:=hn.length_eq; simp only [List.length_append,List.length_map,List.length_singleton] at M
 have B:=G
 try dsimp only at B
 try dsimp only
 refine ao<|rP 1 [] I ?_
 refine aG<|aW (L _ _ ?_)
 refine ay<|ao<|rP 2 [] (mc 2 U I) ?_
 refine cZ (xs:=[.tmp 9]) (cs:=[(vI n)]) U cx i_ U U U U (by simp [Value.cells]) U U fun W=>?_
 refine df (es2:=(List.map iC (k++[n]))) (m':=(k++[n]).length) 2 U U U pO U U sm (a_ (es:=List.map iC [n]) 0 U U (by simp [bK]) U) (j9 _) os (by simp only [maxLen]; omega) sm sm U fun R H=>?_
 try dsimp only
 refine TR U zX U U<|aG<|aH ?_
 exact D (R,H) _ _ (by exact ⟨_,hn⟩) (aL [1,2,3,4])
end
section
open Go.RowKit
theorem D5 (m:g3) (gm g1:Nat) (hlen:m.length≤12):
 lE Tryz.prog 63 [(Value.func (.func 64) [].toArray [(vP g1)].toArray)] [(ik iV gm (bT dV m)),(bY g1 58 [(Value.map (some gm))])] (fun (x:(List Int)×(OA)×Nat)=>(vS x.2.1 x.1.length x.2.2)) (fun (x:(List Int)×(OA)×Nat)=>x.1.Perm (m.map (·.1))) (fun (x:(List Int)×(OA)×Nat)=>[(own x.2.1 x.2.2 3 1 (x.1.map iC))]):=by
 refine dv kr Tryz.func63 U U fun AA Q hQ hN=>?_
 try dsimp only
 refine WS fun _ A=>bo 1 U<|RK A<|WS fun _ B=>rP 1 [] I ?_
 refine cX (F9 m gm g1 hlen) (bp [0,1]) U fun H C=>?_
 obtain ⟨E,F,G⟩:=H
 try dsimp only
 have D:=C
 refine rP 1 [] I ?_
 refine RK B<|aq<|LX hQ (E,F,G) [0] [] I U U U U ?_
 first|exact hfin|exact D
theorem yw (m:g3) (gm g1:Nat) (hlen:m.length≤12):
 lE Tryz.prog 41 [(Value.func (.func 64) [].toArray [(vP g1)].toArray)] [(ik iV gm (bT dV m)),(bY g1 58 [(Value.map (some gm))])] (fun (x:(OA)×Nat)=>(vS x.1 m.length x.2)) (fun (x:(OA)×Nat)=>True) (fun (x:(OA)×Nat)=>[(own x.1 x.2 3 1 ((di (m.map (·.1))).map iC))]):=by
 refine dv kr Tryz.func41 U U fun M Q hQ hN=>?_
 try dsimp only
 refine WS fun _ E=>bo 1 U<|RK E<|WS fun _ F=>rP 1 [] I ?_
 refine cX (D5 m gm g1 hlen) (bp [0,1]) U fun L H=>?_
 obtain ⟨AA,J,K⟩:=L
 try dsimp only
 have D:=H
 refine bo 1 U<|RK F<|WS fun _ G=>rP 1 [] I ?_
 have B:=D.length_eq
 simp only [List.length_map] at B
 refine iI 0 U U U U (zU AA J K sd) U kb U (fun ms C=>?_)
 try dsimp only
 refine RK G<|WS fun _ A=>?_
 obtain rfl:=pV (C.1.trans D) C.2
 skip
 refine rP 2 [] I ?_
 refine RK A<|aq ?_
 refine LX hQ (J,K) [0] [] I U U U ?_ ?_
 ·first|rfl|(rw [B]; rfl)
 ·trivial
end
end Go.Proofs.YtdllkkdchkhimaaGreatDoor
