/-
 The statement raceTrue_said, part 6 of 8: V1, V4, V3, V5, V6, V8, Wh2, Rc2, Rc3, Rc4, Rs3, Rs4, Rs6, Rs7, Rs8, RkB, RaB, RtB, Rp0, Rp1, Rp2, Rt1, Rt2, Rt3, DrawB, Rep6, Async, NJoin, Rr1, RkS, RaS, RtS.
 Conditions: none.
-/
import Derived.Test.YtdllkkdchkhimaaGreatDoorTz1
import Derived.Test.YtdllkkdchkhimaaGreatDoorTz2
import Derived.Test.YtdllkkdchkhimaaGreatDoorTz3
import Derived.Test.YtdllkkdchkhimaaGreatDoorTz4
import Derived.Test.YtdllkkdchkhimaaGreatDoorTz5
namespace Go.Proofs.YtdllkkdchkhimaaGreatDoor
set_option maxRecDepth 100000
set_option maxHeartbeats 4000000
set_option linter.unusedVariables false
section
open Go.RowKit
theorem oU:uH Tryz.prog 276 ej:=MA OM (fun x y w=>Qh 9998 x y w) (fun x y h=>by cases x; cases y; simp [aC.cells] at h; simp [h]) (fun x=>by simp [aC.cells,Instr.sameBits]) (fun x w=>⟨_,rfl,fun p hp=>by
 simp only [ew,List.not_mem_nil,or_false] at hp
 rcases hp with rfl|rfl
 ·exact ⟨⟨_,jR cm U w⟩,_,oG⟩
 ·exact ⟨⟨_,jR cm U w⟩,_,oG⟩⟩)
theorem I7 (s:Int):
 d_ Tryz.prog 207 [(vI s)] [] (vA (aC.cells (fp s))):=by
 refine bE kr Tryz.func207 U U fun H Q hQ hN=>?_
 try dsimp only
 refine WS fun _ B=>AL U sI fun G=>RK B<|ak fun _ C=>WS fun _ D=>rP 2 [] I ?_
 refine RK D<|cE U (aQ fun A=>?_) (aP fun A=>?_)
 ·refine WS fun _ E=>rS (SX (bj (xs:=[(1,.const (vI 1))]) (cs:=(aC.cells (aC.mk 0 1))) U U (bk Bf U)) U U)<|fW U rv U<|RK E<|ar<|H3 hQ [0] (mc 0 U I) U ?_
  unfold fp; first|rw [if_pos A]|rw [if_neg A]
 refine WK C<|WS fun _ F=>rS (SX (bj (xs:=[(0,.const (vI 1))]) (cs:=(aC.cells (aC.mk 1 0))) U U (bk Bf U)) U U)<|fW U rv U<|RK F<|ar<|H3 hQ [0] (mc 0 U I) U ?_
 unfold fp; first|rw [if_pos A]|rw [if_neg A]
theorem vU (x:aC) (y:aC) (hx:(0≤x.right∧x.right≤1000)∧0≤x.eW∧x.eW≤1000) (hy:(0≤y.right∧y.right≤1000)∧0≤y.eW∧y.eW≤1000):
 d_ Tryz.prog 206 [(vA (aC.cells x)),(vA (aC.cells y))] [] (vA (aC.cells (dp x y))):=by
 refine bE kr Tryz.func206 U U fun F Q hQ hN=>?_
 try dsimp only
 refine WS fun _ A=>fU U fun C=>fU U fun D=>AL U sI fun E=>RK A<|WS fun _ B=>rP 10 [0,1,0,1] (mc 2 U (mc 1 U I)) ?_
 refine rS (SX (bj (xs:=[(0,.tmp 9),(1,.tmp 14)]) (cs:=(aC.cells (aC.mk (x.right+y.right) (x.eW+y.eW)))) U U (bk Bf U)) U U)<|fW U rv U<|RK B<|ar ?_
 exact H3 hQ [0] (mc 0 U I) U U
theorem Ov (ln:bJ) (ri:eK) (e:List Int) (tms:List TM) (e_A:OA) (e_C:Nat) (tb:List Nat) (t_A:OA) (t_C:Nat) (fs:List FM) (bs:List FM) (fb:List Nat) (f_A:OA) (f_C:Nat) (bb:List Nat) (b_A:OA) (b_C gw:Nat) (x:aC) (hx:(0≤x.right∧x.right≤1000)∧0≤x.eW∧x.eW≤1000) (hn:ri.aj.n≤1000):
 d_ Tryz.prog 205 [(vP gw),(vA (aC.cells x))] [(rd e_A e.length 1 (e.map iC)),(rd t_A tms.length 1 (List.zipWith gH tms tb)),(fc (aS q_ tms tb)),(rd f_A fs.length 1 (List.zipWith gH fs fb)),(fc (aS nH fs fb)),(rd b_A bs.length 1 (List.zipWith gH bs bb)),(fc (aS nH bs bb)),(b_ gw 270 (ck.cells (ck.mk ln ri (aN.mk e_A e.length e_C) (aN.mk t_A tms.length t_C) (aN.mk f_A fs.length f_C) (aN.mk b_A bs.length b_C))))] (vB (kd (cN ln ri e tms) x)):=by
 refine bE kr Tryz.func205 U U fun E Q hQ hN=>?_
 try dsimp only
 refine WS fun _ C=>fU U fun D=>bg 1 U<|RK C<|ak fun _ B=>dh cu 26 kr<|lJ 3 [] (mc 0 U I) U<|dS (SX (bO U U) U U)<|dP 5 [] (mr 8 U I) ?_
 refine jg (t:=13) U (aP fun A=>?_) (aQ fun A=>?_)
 ·refine dP 17 [] I ?_
  refine cK<|RK B<|ar<|Q1 hQ U U U ?_
  exact cB (cr (fun h=>A h.1)).symm
 refine kX 1 U<|dS (SX (bO U U) U U)<|lJ 8 [0,1] (mr 8 U (mc 0 U I)) U<|dS (SX (bO U U) U U)<|dP 6 [] (mr 8 U I) ?_
 refine cK<|RK B<|ar<|Q1 hQ U U U ?_
 exact cB (decide_eq_decide.2 ⟨fun h=>⟨A,h⟩,fun h=>h.2⟩)
end
section
open Go.RowKit
theorem Gq (ln:bJ) (ri:eK) (e:List Int) (tms:List TM) (e_A:OA) (e_C:Nat) (tb:List Nat) (t_A:OA) (t_C:Nat) (fs:List FM) (bs:List FM) (fb:List Nat) (f_A:OA) (f_C:Nat) (bb:List Nat) (b_A:OA) (b_C gw:Nat) (b g1 g2:Nat) (mf:FM) (mb:FM) (hb:b<e.length) (hw:Gu (cN ln ri e tms)) (htb:tb.length=tms.length) (hfw:xq (cN ln ri e tms) fs) (hfb:fb.length=fs.length) (hbw:ux (cN ln ri e tms) bs) (hbb:bb.length=bs.length) (hsg:ri.aj.n≤1000) (hm1:fs[b]? =some mf) (hm2:bs[b+1]? =some mb):
 DD Tryz.prog 203 [] [(vP g1),(vP g2)] [(rd e_A e.length 1 (e.map iC)),(rd t_A tms.length 1 (List.zipWith gH tms tb)),(fc (aS q_ tms tb)),(rd f_A fs.length 1 (List.zipWith gH fs fb)),(fc (aS nH fs fb)),(rd b_A bs.length 1 (List.zipWith gH bs bb)),(fc (aS nH bs bb)),(b_ gw 270 (ck.cells (ck.mk ln ri (aN.mk e_A e.length e_C) (aN.mk t_A tms.length t_C) (aN.mk f_A fs.length f_C) (aN.mk b_A bs.length b_C)))),(b_ g1 259 [(vP gw)]),(b_ g2 3 [(vI (b:Int))])] ([]:List (Int×aa)) (fun ys x ys'=> ∃ q,q∈pM (cN ln ri e tms) b mf mb∧x=OY q∧ys'=ys++[q]) (fun ys=> ∀ q∈pM (cN ln ri e tms) b mf mb,q∈ys):=by
 have A7:e.length≤6:=hw.n
 have A8:tms.length=e.length:=hw.times
 have Az:fs.length=e.length+1:=hfw.len
 have Ay:bs.length=e.length+1:=hbw.len
 refine sW kr Tryz.func203 U U fun l J Z A0 w0 Q hY Ae Ad hQ hN=>?_
 try dsimp only
 refine WS fun _ Af=>uA U U fun b2=>RK Af<|WS fun _ Ag=>rP 2 [0,1] (mr 10 U (mr 11 U I)) ?_
 refine cX (uv gw b) (aK) U fun y4 A9=>?_
 obtain ⟨AX,AY⟩:=y4
 try dsimp only
 refine RK Ag<|ax<|kg 4 U (by exact fun _ h=>h)<|kg 6 U (by exact fun _ h=>h)<|kg 8 U (by exact fun _ h=>h)<|kg 14 U (by exact fun _ h=>h) ?_
 refine m0 (L0:=[(0,(Value.func (.yield l) #[] #[])),(1,(vP g1)),(2,(vP g2)),(3,(vP b2))]) (F:=[(rd e_A e.length 1 (e.map iC)).ro,(rd t_A tms.length 1 (List.zipWith gH tms tb)).ro,(fc (aS q_ tms tb)).ro,(b_ gw 270 (ck.cells (ck.mk ln ri (aN.mk e_A e.length e_C) (aN.mk t_A tms.length t_C) (aN.mk f_A fs.length f_C) (aN.mk b_A bs.length b_C)))).ro,(b_ AX 259 [(vP gw)]),(b_ AY 3 [(vI (b:Int))])]) (fun k (y:(List (Int×aa))×av)=>(lp (cN ln ri e tms) b mf mb k y.1)∧(J y.1 y.2)∧(Fo A0 w0 y.2)) (fun k y=>[(b_ b2 273 [(Value.func (.yield l) #[] #[])]),y.2,(rd e_A e.length 1 (e.map iC)).ro,(rd t_A tms.length 1 (List.zipWith gH tms tb)).ro,(fc (aS q_ tms tb)).ro,(rd f_A fs.length 1 (List.zipWith gH fs fb)).ro,(fc (aS nH fs fb)).ro,(rd b_A bs.length 1 (List.zipWith gH bs bb)).ro,(fc (aS nH bs bb)).ro,(b_ gw 270 (ck.cells (ck.mk ln ri (aN.mk e_A e.length e_C) (aN.mk t_A tms.length t_C) (aN.mk f_A fs.length f_C) (aN.mk b_A bs.length b_C)))).ro,(b_ g1 259 [(vP gw)]).ro,(b_ g2 3 [(vI (b:Int))]).ro]) (fun c (z:av)=>(c= .ret∧(Z z)∧(Fo A0 w0 z))) (fun _ z=>[(b_ b2 273 [(Value.func (.yield l) #[] #[])]),z,(rd e_A e.length 1 (e.map iC)).ro,(rd t_A tms.length 1 (List.zipWith gH tms tb)).ro,(fc (aS q_ tms tb)).ro,(rd f_A fs.length 1 (List.zipWith gH fs fb)).ro,(fc (aS nH fs fb)).ro,(rd b_A bs.length 1 (List.zipWith gH bs bb)).ro,(fc (aS nH bs bb)).ro,(b_ gw 270 (ck.cells (ck.mk ln ri (aN.mk e_A e.length e_C) (aN.mk t_A tms.length t_C) (aN.mk f_A fs.length f_C) (aN.mk b_A bs.length b_C)))).ro,(b_ g1 259 [(vP gw)]).ro,(b_ g2 3 [(vI (b:Int))]).ro]) [6,7,8,9,10,11,12,13,14,15,16,17] [3,2,1,0,4,5] (([]:List (Int×aa)),A0) rfl rfl (rR ln ri e tms e_A e_C tb t_A t_C f_A fs.length f_C b_A bs.length b_C gw b AX AY om om) rfl rfl rfl (by exact ⟨lp.nil,Ae,Ad⟩) (by simp only [List.forall_mem_cons,List.not_mem_nil,false_imp_iff,implies_true,and_true]; exact ⟨⟨_,aV (i:=0) rfl,(dC (bV _))⟩,⟨_,aV (i:=1) rfl,(dC (bV _))⟩,⟨_,aV (i:=2) rfl,(dC (bV _))⟩,⟨_,aV (i:=3) rfl,(dC (bV _))⟩,⟨_,aV (i:=4) rfl,(bV _)⟩,⟨_,aV (i:=5) rfl,(bV _)⟩⟩) (by rintro k x k2 ⟨o,_,rfl,_⟩; rfl) rfl (aU rfl) ?_ ?_ ?_ ?_
 rotate_left 1
 ·rintro BA k ⟨ys,A⟩ AS AC
  obtain ⟨X,Y,a⟩:=AC
  try dsimp only at X Y a
  try dsimp only
  refine aH ?_
  refine hN _ _ _ (oe 0 U U<|gU (vs:=[]) trivial fun w hs=>Kz 8 U (by exact lp.fin X AS) Y a hs)
 ·rintro BB id A AV
  simp at AV
 ·rintro BC A AW
  obtain ⟨hc,Ak,Al⟩:=AW
  try dsimp only
  refine hQ _ _ _ (oe 0 U U<|gU (vs:=[]) trivial fun w hs=>rn 8 U Ak Al hs)
 rintro k x k2 ⟨ys,A⟩ lr ra rb S w1 K8 Qr9 Am hx AB Ah AP At AZ
 obtain ⟨o,ho,rfl,rfl⟩:=hx
 obtain ⟨X,Y,a⟩:=AB
 try dsimp only at X Y a
 try dsimp only
 refine WS fun _ AG=>rP 1 [] I ?_
 refine RK AG<|an<|AL U di fun Au=>fW U cv U<|aF<|jA (fun _ _ h=>h) (aL [1,0,2,3,4,5,6,7,8,9,10,11,12,13])<|aT (Ah _ _ ?_)
 refine ax<|ak fun _ AH=>dh cu 7 kr<|lJ 1 [] (mr 12 U I) U<|dS (SX (bO U U) U U)<|dP 3 [0,1] (mr 11 U (mr 13 U I)) ?_
 obtain ⟨ga,s⟩:=aM fb b om
 have AT:(List.zipWith gH fs fb)[b]? =some (gH mf ga):=dB hm1 s
 refine dS (IA b U (aB 7 U) oa dc om om)<|dS (gh b 0 (Value.map (some ga)) U cm (aB 7 U) AT U dc U)<|cK<|iG (kV:=ej) (m:=bM iV mf) 8 U U oy U ⟨⟨(hO ej ga (bM iV mf)),(bT hm1 s (by simp [nH])),U⟩,fun h=>h⟩ (show iq _ (hO ej ga (bM iV mf)).holds from cT 8 U (bT hm1 s (by simp [nH]))) U fun Ap=>?_
 try dsimp only
 refine RK AH<|ax ?_
 have C:(∀ p∈mf,p∈mf)∧(nB (cN ln ri e tms) b mf mb o mf ys)∧(lp (cN ln ri e tms) b mf mb k ys)∧(J ys A)∧(Fo A0 w0 A):=by exact ⟨fun p hp=>hp,nB.start,X,Y,a⟩
 refine bR (ι:={z:FM×(List (Int×aa))×av // (∀ p∈z.1,p∈mf)∧(nB (cN ln ri e tms) b mf mb o z.1 z.2.1)∧(lp (cN ln ri e tms) b mf mb k z.2.1)∧(J z.2.1 z.2.2)∧(Fo A0 w0 z.2.2)}) [0,1,2,3,4,5,23] [1,2,3,5,6,7,8,9,10,11,12,13,14] U U (fun z=>[]) (fun z=>[(x9 ej Ap ga (bM iV mf) (bM iV z.1.1) none),z.1.2.2]) (fun _=>rfl) (fun _=>rfl) (fun z=>z.1.1.length) ⟨(mf,ys,A),C⟩ (dy.nil _) (aL [1,2,3,5,6,7,8,9,10,11,12,13,14,0,4]) ?_
 clear C
 rintro ⟨⟨left,ys,A⟩,⟨K,M,N,O,P⟩⟩ J15 AF
 try dsimp only at K M N O P
 try dsimp only
 refine WS fun _ j=>g6 oU.inj (f:=iV) 13 U U U U (fun Ab=>?_) (fun t v hm hn=>?_)
 ·refine rP 1 [] I ?_
  refine RK j<|ak fun _ Ar=>aX U<|bB<|ae<|ae<|aA<|aH ?_
  exact AP (ys,A) _ _ (by exact ⟨lp.next N M Ab,O,P⟩) (aL [0,2,14,3,4,5,6,7,8,9,10,11,12])
 try dsimp only
 refine bg 1 U<|RK j<|ak fun _ AI=>aR U<|WK AI<|ax<|WS fun _ AJ=>rS (SX (g7 13 U U U) U U)<|bg 2 U<|AL U sI fun Av=>fW U rv U<|bg 1 U<|RK AJ<|ak fun _ AK=>dh cu 8 kr<|lJ 1 [] (mr 12 U I) U<|dS (SX (bO U U) U U)<|dP 4 [0,1] (mr 11 U (mr 13 U I)) ?_
 obtain ⟨gb,AA⟩:=aM bb (b+1) om
 have AU:(List.zipWith gH bs bb)[(b+1)]? =some (gH mb gb):=dB hm2 AA
 refine dS (IA (b+1) U (aB 9 U) oa dc om om)<|dS (gh (b+1) 0 (Value.map (some gb)) U cm (aB 9 U) AU U dc U)<|cK<|iG (kV:=ej) (m:=bM iV mb) 10 U U oy U ⟨⟨(hO ej gb (bM iV mb)),(bT hm2 AA (by simp [nH])),U⟩,fun h=>h⟩ (show iq _ (hO ej gb (bM iV mb)).holds from cT 10 U (bT hm2 AA (by simp [nH]))) U fun Aq=>?_
 try dsimp only
 refine RK AK<|ax ?_
 have C:(∀ p∈mb,p∈mb)∧(m6 (cN ln ri e tms) b mb o (t,v) mb ys)∧(nB (cN ln ri e tms) b mf mb o left ys)∧(lp (cN ln ri e tms) b mf mb k ys)∧(J ys A)∧(Fo A0 w0 A):=by exact ⟨fun p hp=>hp,m6.start,M,N,O,P⟩
 refine bR (ι:={z:FM×(List (Int×aa))×av // (∀ p∈z.1,p∈mb)∧(m6 (cN ln ri e tms) b mb o (t,v) z.1 z.2.1)∧(nB (cN ln ri e tms) b mf mb o left z.2.1)∧(lp (cN ln ri e tms) b mf mb k z.2.1)∧(J z.2.1 z.2.2)∧(Fo A0 w0 z.2.2)}) [0,1,2,3,4,5,6,7,23,37] [1,2,3,4,5,6,7,8,9,10,11,12,13,14,15] U U (fun z=>[]) (fun z=>[(x9 ej Aq gb (bM iV mb) (bM iV z.1.1) none),z.1.2.2]) (fun _=>rfl) (fun _=>rfl) (fun z=>z.1.1.length) ⟨(mb,ys,A),C⟩ (dy.nil _) (aL [1,2,3,4,5,6,7,8,9,10,11,12,13,14,15,0,16]) ?_
 clear C
 rintro ⟨⟨l2,T,A2⟩,⟨B,D,E,G,H,Aa⟩⟩ J23 V
 try dsimp only at B D E G H Aa
 try dsimp only
 refine WS fun _ r=>g6 oU.inj (f:=iV) 15 U U U U (fun Ac=>?_) (fun u z L AD=>?_)
 ·refine rP 1 [] I ?_
  refine RK r<|ak fun _ As=>aX U<|bB<|ae<|ae<|aA<|aH<|f_ 14 U eJ U ?_
  refine aT (AF ⟨((cp left t),T,A2),⟨l4 K,nB.next hn hm E D Ac,G,H,Aa⟩⟩ _ _ _ U (dU hm) (aU U) (aL [1,2,3,4,5,6,7,8,9,10,11,12,13,14,16]))
 try dsimp only
 refine bg 1 U<|RK r<|ak fun _ AM=>aR U<|WK AM<|ax<|WS fun _ AN=>rS (SX (g7 15 U U U) U U)<|bg 2 U<|AL U sI fun Aw=>fW U rv U<|rP 1 [] I ?_
 refine RK AN<|ak fun _ AO=>dL cu [17,18] [] [] [0,1,2,3,4,5,6,7,8,9,10,11,12,13,14,15,16,17] [] U U U U U<|eS U (MV U)<|eS U (TC 13 U cm U)<|eS U (SX (bO U U) U U)<|eS U (FA 10 U fB U)<|eS U (H0 (vS e_A e.length e_C) 12 U cm U U)<|eS U (TC 14 U cm U) ?_
 obtain ⟨y,hy⟩:=aM e b om
 have An:=bQ iC hy
 refine eS U (IA b U (aB 5 U) cJ dc om om)<|eS U (gh b 0 (vI y) U cm (aB 5 U) An U dc U) ?_
 have A1:=hw.least y (aV hy)
 have Aj:=J0 hw _ _ (hfw.mem hm1 (K _ hm))
 have Ai:=IK hw (hbw.mem hm2 (B _ L))
 have A3:=tH o.1
 have A4:=hw.opt ho
 dsimp only at Aj Ai
 refine eS U (BI U (ij ⟨om,om⟩))<|eS U (FA 0 U fB U)<|eS U (L1 (vI o.2.Lo) 3 U cm U U)<|eS U (MX U)<|eS U (MV U)<|eS U (FA 1 U fB U)<|eS U (L1 (vI o.2.Hi) 3 U cm U U)<|eS U (MN U)<|eS U (SX (bj (xs:=[(0,.tmp 54),(1,.tmp 58)]) (cs:=(aa.cells (aa.mk (max (v+y) o.2.Lo) (min z o.2.Hi)))) U U (bk gv U)) U U)<|e9 U<|cq U fun T30 AQ=>AL U di fun Ax=>aF (AQ _ _ (aL [1,2,3,4,5,6,7,8,9,10,11,12,13,14,15,16,17,18]) ?_)
 refine cq U fun T32 AR=>fW U cv U<|aF (AR _ _ (aL [1,2,3,4,5,6,7,8,9,10,11,12,13,14,15,16,17,18]) ?_)
 refine fO U<|KK AO<|ak fun _ R=>dh cu 19 kr<|dP 6 [] (mc 0 U I) ?_
 refine jg (t:=65) U (aP fun d=>?_) (aQ fun d=>?_)
 ·refine kX 3 U<|kX 10 U<|cK<|rP 3 [] I ?_
  refine RK R<|aX U<|cj<|aH<|f_ 17 U eJ U ?_
  refine aT (V ⟨((cp l2 u),T,A2),⟨l4 B,m6.skip AD L D (by exact GH hy d),E,G,H,Aa⟩⟩ _ _ _ U (dU L) (aU U) (aL [2,3,4,5,6,7,8,9,10,11,12,13,14,15,16,17,18]))
 refine dP 3 [0,1,2] (mr 14 U (mc 2 U (mc 1 U I))) ?_
 have A6:(0≤(dp t u).right∧(dp t u).right≤1000)∧0≤(dp t u).eW∧(dp t u).eW≤1000:=by simp only [dp]; omega
 have A5:(0≤(dp (dp t u) (fp o.1)).right∧(dp (dp t u) (fp o.1)).right≤1000)∧0≤(dp (dp t u) (fp o.1)).eW∧(dp (dp t u) (fp o.1)).eW≤1000:=by simp only [dp]; omega
 refine dS (CL (vU t u om om) (aK) U)<|kX 1 U<|dS (CL (I7 o.1) (aK) U)<|dS (CL (vU (dp t u) (fp o.1) asm om) (aK) U)<|dS (CL (Ov ln ri e tms e_A e_C tb t_A t_C fs bs fb f_A f_C bb b_A b_C gw (dp (dp t u) (fp o.1)) asm hsg) (bh [6,7,8,9,10,11,12,13]) U)<|dP 2 [] I ?_
 refine jg (t:=75) U (fun g=>?_) (fun g=>?_)
 ·refine kX 3 U<|cK<|rP 3 [] I ?_
  refine RK R<|aX U<|cj<|aH<|f_ 17 U eJ U ?_
  refine aT (V ⟨((cp l2 u),T,A2),⟨l4 B,m6.skip AD L D (by exact Hp g),E,G,H,Aa⟩⟩ _ _ _ U (dU L) (aU U) (aL [2,3,4,5,6,7,8,9,10,11,12,13,14,15,16,17,18]))
 refine dP 3 [0,1] (mc 5 U (mc 0 U I)) ?_
 refine cK<|ko (k:=T) (k':=(T++[(o.1,(aa.mk (max (v+y) o.2.Lo) (min z o.2.Hi)))])) 18 (by first|exact Am|exact Nat.le_refl _) hY H Aa U U U (by exact ⟨(o.1,_),g9.2 ⟨o,ho,(t,v),K _ hm,(u,z),B _ L,(Co hy d g)⟩,U,U⟩) U U (fun B34 W AE=>?_) (fun B34 W AE=>?_)
 rotate_left 1
 ·refine rP 2 [] I ?_
  refine RK R<|aR U<|ar ?_
  exact AZ B34 _ _ (by exact ⟨U,W,AE⟩) (aL [3,5,18,6,7,8,9,10,11,12,13,14,15])
 refine rP 2 [] I ?_
 refine RK R<|aX U<|cj<|aH<|f_ 17 U eJ U ?_
 refine aT (V ⟨((cp l2 u),(T++[(o.1,(aa.mk (max (v+y) o.2.Lo) (min z o.2.Hi)))]),B34),⟨l4 B,m6.UH AD L D (Co hy d g),E.app,G.app,W,AE⟩⟩ _ _ _ U (dU L) (aU U) (aL [2,3,4,5,6,7,8,9,10,11,12,13,14,15,16,17,18]))
end
section
open Go.RowKit
theorem Hs (ln:bJ) (ri:eK) (e:List Int) (tms:List TM) (e_A:OA) (e_C:Nat) (tb:List Nat) (t_A:OA) (t_C:Nat) (fs:List FM) (bs:List FM) (fb:List Nat) (f_A:OA) (f_C:Nat) (bb:List Nat) (b_A:OA) (b_C gw:Nat) (hw:Gu (cN ln ri e tms)) (hsg:ri.aj.n≤1000) (hn:ln.ag.n=e.length) (hfw:xq (cN ln ri e tms) fs) (hfb:fb.length=fs.length):
 lq Tryz.prog 202 [(vP gw)] [(rd e_A e.length 1 (e.map iC)),(rd t_A tms.length 1 (List.zipWith gH tms tb)),(fc (aS q_ tms tb)),(rd f_A fs.length 1 (List.zipWith gH fs fb)),(fc (aS nH fs fb)),(rd b_A bs.length 1 (List.zipWith gH bs bb)),(fc (aS nH bs bb)),(b_ gw 270 (ck.cells (ck.mk ln ri (aN.mk e_A e.length e_C) (aN.mk t_A tms.length t_C) (aN.mk f_A fs.length f_C) (aN.mk b_A bs.length b_C))))] (fun (x:(OA)×Nat)=>(vS x.1 ((jx (cN ln ri e tms)).length) x.2)) (fun (x:(OA)×Nat)=>True) (fun (x:(OA)×Nat)=>[(own x.1 x.2 3 1 ((jx (cN ln ri e tms)).map iC))]):=by
 have y:e.length≤6:=hw.n
 have u:fs.length=e.length+1:=hfw.len
 refine dv kr Tryz.func202 U U fun w0 Q hQ hN=>?_
 try dsimp only
 refine WS fun _ X=>bg 1 U<|RK X<|WS fun _ Y=>bg 1 U<|RK Y<|ak fun _ Z=>WS fun _ b=>bg 1 U<|rS (SX (bO U U) U U)<|rP 6 [] (mr 7 U I) ?_
 refine RK b<|ax<|fY 3 1 ?_
 have A:(0≤e.length+1):=by exact Nat.zero_le _
 refine bR (ι:={z:Nat×(OA)×Nat // (z.1≤e.length+1)}) [0,12] [1,2,3,4,5,6,7,8] U U (fun z=>[(3,(vS z.1.2.1 ((j7 (cN ln ri e tms) z.1.1).length) z.1.2.2)),(13,(vI (z.1.1:Int)))]) (fun z=>[(own z.1.2.1 z.1.2.2 3 1 ((j7 (cN ln ri e tms) z.1.1).map iC))]) (fun _=>rfl) (fun _=>rfl) (fun z=>e.length+1-z.1.1) ⟨(0,none,0),A⟩ (aU U) (aL [1,2,3,4,5,6,7,8,0]) ?_
 clear A
 rintro ⟨⟨n,a,c⟩,G⟩ J5 AB
 try dsimp only at G
 try dsimp only
 refine WS fun _ d=>rP 1 [] I ?_
 refine RK d<|ak fun _ g=>bS U (aP fun s=>?_) (aQ fun s=>?_)
 ·refine bB<|ae<|ae<|aA<|KK Z<|WS fun _ P=>?_
  rw [show j7 (cN ln ri e tms) n=jx (cN ln ri e tms) by (obtain rfl:n=e.length+1:=by omega); rfl]
  refine rP 2 [] I ?_
  refine RK P<|ar<|LX hQ (a,c) [8] [] I U U U U ?_
  trivial
 refine WK g<|ak fun _ R=>ax<|WS fun _ J=>bg 2 U<|RK J<|WS fun _ K=>bg 1 U<|rS (SX (bO U U) U U)<|rP 3 [] (mr 7 U I) ?_
 obtain ⟨m,B⟩:=aM fs n om
 obtain ⟨ma,hm0a⟩:=aM fb n om
 have hm0m:(List.zipWith gH fs fb)[n]? =some (gH m ma):=dB B hm0a
 refine rS (IA n U (aB 3 U) oa dc om om)<|rS (gh n 0 (Value.map (some ma)) U cm (aB 3 U) hm0m U dc U)<|iG (kV:=ej) (m:=bM iV m) 4 U U oy U ⟨⟨(hO ej ma (bM iV m)),(bT B hm0a (by simp [nH])),U⟩,fun h=>h⟩ (show iq _ (hO ej ma (bM iV m)).holds from cT 4 U (bT B hm0a (by simp [nH]))) U fun l=>?_
 try dsimp only
 refine RK K<|ax ?_
 have A:(∀ p∈m,p∈m)∧(∀ p∈m,p∈m∨kd (cN ln ri e tms) p.1=false):=by exact ⟨fun p hp=>hp,fun p hp=> .inl hp⟩
 refine bR (ι:={z:FM // (∀ p∈z,p∈m)∧(∀ p∈m,p∈z∨kd (cN ln ri e tms) p.1=false)}) [0,3,4,12,13,23] [1,2,3,4,5,6,7,8,9] U U (fun z=>[]) (fun z=>[(x9 ej l ma (bM iV m) (bM iV z.1) none)]) (fun _=>rfl) (fun _=>rfl) (fun z=>z.1.length) ⟨m,A⟩ (dy.nil _) (aL [1,2,3,4,5,6,7,8,9,0]) ?_
 clear A
 rintro ⟨left,⟨C,D⟩⟩ J13 H
 try dsimp only
 refine WS fun _ F=>g6 oU.inj (f:=iV) 9 U U U U (fun W=>?_) (fun t v hm i=>?_)
 ·refine bg 1 U<|RK F<|ak fun _ o=>aX U<|bB<|ae<|ae<|aA<|aH<|KK R<|an<|rP 2 [] I ?_
  refine aF ?_
  rw [← GW (w:=(cN ln ri e tms)) (k:=n) ((Bz (hfw.min _ _ B) (hfw.keys _ _ B)).symm.trans (LI D W))]
  have S:(vI (((n+1):Nat):Int))=(vI ((n:Int)+1)):=by exact cI om
  refine aT (AB ⟨((n+1),a,c),(by first|omega|(simp only []; omega))⟩ _ _ _ U os (cP 3<|bo U S<|dy.nil _) (aL [0,1,2,3,4,5,6,7,8]))
 try dsimp only
 refine bg 1 U<|RK F<|ak fun _ L=>aR U<|WK L<|ax<|WS fun _ M=>rS (SX (g7 9 U U U) U U)<|bg 1 U<|AL U sI fun q=>fW U rv U<|RK M<|WS fun _ N=>rP 2 [] (mc 0 U I) ?_
 have j:=J0 hw _ _ (hfw.mem B (C _ hm))
 dsimp only at j
 refine rS (CL (Ov ln ri e tms e_A e_C tb t_A t_C fs bs fb f_A f_C bb b_A b_C gw t om hsg) (bh [1,2,3,4,5,6,7,8]) U)<|RK N<|bS U (fun E=>?_) (fun E=>?_)
 ·refine cj<|aH<|f_ 10 U eJ U ?_
  refine aT (H ⟨(cp left t),⟨l4 C,Iz i hm D (by first|exact E|simpa using E)⟩⟩ _ _ _ U (dU hm) (aU U) (aL [1,2,3,4,5,6,7,8,9,10]))
 refine WS fun _ O=>rP 2 [] I ?_
 refine cZ (xs:=[.tmp 32]) (cs:=[(vI (n:Int))]) U cJ jd U U U U (by simp [Value.cells]) U U fun r=>?_
 have hy:jh (cN ln ri e tms) (fwd (cN ln ri e tms) n)=true:=(Bz (hfw.min _ _ B) (hfw.keys _ _ B)).symm.trans (Nu (C _ hm) E)
 refine de (es2:=(List.map iC (j7 (cN ln ri e tms) (n+1)))) (m':=(j7 (cN ln ri e tms) (n+1)).length) 10 U U U pT U U sm (a_ (es:=List.map iC [(n:Int)]) 0 U U (by simp [bK]) U) (j6 _) (by have:=wY (w:=(cN ln ri e tms)) (k:=n); first|omega|(simp; omega)) (by have:=wY (w:=(cN ln ri e tms)) (k:=n); simp only [maxLen]; omega) (by rw [EO hy]; simp) sm U fun AA V=>?_
 try dsimp only
 refine bg 1 U<|RK O<|bB<|iy U<|ae<|aA<|aH<|KK R<|an<|rP 2 [] I ?_
 refine aF ?_
 have T:(vI (((n+1):Nat):Int))=(vI ((n:Int)+1)):=by exact cI om
 refine aT (AB ⟨((n+1),AA,V),(by first|omega|(simp only []; omega))⟩ _ _ _ U os (cP 3<|bo U T<|dy.nil _) (aL [2,3,4,5,6,7,8,9,10]))
end
section
open Go.RowKit
theorem ID (ln:bJ) (ri:eK) (e:List Int) (tms:List TM) (e_A:OA) (e_C:Nat) (tb:List Nat) (t_A:OA) (t_C gw:Nat) (hw:Gu (cN ln ri e tms)) (hn:ln.ag.n=e.length) (htb:tb.length=tms.length):
 Da Tryz.prog 201 [(vP gw)] [(rd e_A e.length 1 (e.map iC)),(rd t_A tms.length 1 (List.zipWith gH tms tb)),(fc (aS q_ tms tb))] (b_ gw 270 (ck.cells (ck.mk ln ri (aN.mk e_A e.length e_C) (aN.mk t_A tms.length t_C) (aN.mk none 0 0) (aN.mk none 0 0)))) (fun (x:(List FM)×(List Nat)×(OA)×Nat×(List FM)×(List Nat)×(OA)×Nat)=>(vT [])) (fun (x:(List FM)×(List Nat)×(OA)×Nat×(List FM)×(List Nat)×(OA)×Nat)=>xq (cN ln ri e tms) x.1∧ux (cN ln ri e tms) x.2.2.2.2.1∧x.2.1.length=x.1.length∧x.2.2.2.2.2.1.length=x.2.2.2.2.1.length) (fun (x:(List FM)×(List Nat)×(OA)×Nat×(List FM)×(List Nat)×(OA)×Nat)=>(bp [(b_ gw 270 (ck.cells (ck.mk ln ri (aN.mk e_A e.length e_C) (aN.mk t_A tms.length t_C) (aN.mk x.2.2.1 x.1.length x.2.2.2.1) (aN.mk x.2.2.2.2.2.2.1 x.2.2.2.2.1.length x.2.2.2.2.2.2.2)))),(own x.2.2.1 x.2.2.2.1 274 1 (List.zipWith gH x.1 x.2.1)),(bp (aS nH x.1 x.2.1)),(own x.2.2.2.2.2.2.1 x.2.2.2.2.2.2.2 274 1 (List.zipWith gH x.2.2.2.2.1 x.2.2.2.2.2.1)),(bp (aS nH x.2.2.2.2.1 x.2.2.2.2.2.1))])):=by
 have Cg:e.length≤6:=hw.n
 have Ch:tms.length=e.length:=hw.times
 refine mw kr Tryz.func201 U U fun w0 Q hQ hN=>?_
 try dsimp only
 refine WS fun _ Ae=>uA U U fun W=>RK Ae<|WS fun _ Ah=>fF 1 [] (mc 0 U I) U<|rS (SX (bO U U) U U)<|rP 5 [] (mc 1 U I) ?_
 refine RK Ah ?_
 refine ob (ι:={z:(OA)×(OA) // True}) [0,1,2] [0,2,3,4] U U (fun z=>[]) (fun z=>[(own z.1.1 (ln.ag.n+1) 274 1 (List.map oC (List.replicate (ln.ag.n+1) (none:Option Nat)))),(own z.1.2 (ln.ag.n+1) 274 1 (List.map oC (List.replicate (ln.ag.n+1) (none:Option Nat)))),(b_ gw 270 (ck.cells (ck.mk ln ri (aN.mk e_A e.length e_C) (aN.mk t_A tms.length t_C) (aN.mk z.1.1 (ln.ag.n+1) (ln.ag.n+1)) (aN.mk z.1.2 (ln.ag.n+1) (ln.ag.n+1)))))]) (fun _=>rfl) (fun _=>rfl) ?_ fun K4 Ai=>?_
 ·rintro ⟨⟨fA,bA⟩,_⟩
  try dsimp only
  refine Bc 6 U U fun wz Sz hz=>?_
  have Cd:(List.replicate (ln.ag.n+1) (none:Option Nat)).length=(ln.ag.n+1):=List.length_replicate
  try dsimp only
  refine ob (ι:={z:Nat // True}) [0,1,2] [0,1,2,3,4,6] U U (fun z=>[]) (fun z=>[(bp (aS nH [[((aC.mk 0 0),ri.Start)]] [z.1])),(own fA (ln.ag.n+1) 274 1 (List.map oC (eB [z.1] (ln.ag.n+1))))]) (fun _=>rfl) (fun _=>rfl) ?_ fun K5 B8=>?_
  ·rintro ⟨ga,_⟩
   try dsimp only
   refine ak fun _ Ak=>WS fun _ Al=>rP 2 [] I ?_
   refine RK Al<|ax<|og ?_
   have C:(0≤ln.ag.n)∧(([[((aC.mk 0 0),ri.Start)]]).length=0+1)∧(([ga]).length=0+1)∧(pQ (cN ln ri e tms) ([[((aC.mk 0 0),ri.Start)]])):=by exact ⟨Nat.zero_le _,rfl,rfl,pQ.first⟩
   refine vG (ι:={z:Nat×(List FM)×(List Nat)×(List Nat) // (z.1≤ln.ag.n)∧(z.2.1.length=z.1+1)∧(z.2.2.1.length=z.1+1)∧(pQ (cN ln ri e tms) z.2.1)}) (fun z=>z.1.2.2.2.map lh) (fun z=>[(0,(vP gw)),(1,(vP W)),(2,(vI (ln.ag.n:Int))),(52,(vI (ln.ag.n:Int))),(53,(vI (z.1.1:Int)))]) (fun z=>[(bp (z.1.2.2.2.map lx)),(b_ gw 270 (ck.cells (ck.mk ln ri (aN.mk e_A e.length e_C) (aN.mk t_A tms.length t_C) (aN.mk fA (ln.ag.n+1) (ln.ag.n+1)) (aN.mk bA (ln.ag.n+1) (ln.ag.n+1))))).ro,(b_ W 259 [(vP gw)]),(rd e_A e.length 1 (e.map iC)).ro,(rd t_A tms.length 1 (List.zipWith gH tms tb)).ro,(fc (aS q_ tms tb)).ro,(own bA (ln.ag.n+1) 274 1 (List.map oC (List.replicate (ln.ag.n+1) (none:Option Nat)))),(bp (aS nH z.1.2.1 z.1.2.2.1)),(own fA (ln.ag.n+1) 274 1 (List.map oC (eB z.1.2.2.1 (ln.ag.n+1))))]) (fun z=>ln.ag.n-z.1.1) ⟨(0,[[((aC.mk 0 0),ri.Start)]],[ga],([]:List Nat)),C⟩ U (aU U) (aL [0,1,2,3,4,5,6,7,8]) ?_
   clear C
   rintro ⟨⟨b,fs,fb,B2⟩,⟨Ay,AJ,A0,M⟩⟩ J8 B7
   try dsimp only at Ay AJ A0 M
   try dsimp only
   have Ce:(eB fb (ln.ag.n+1)).length=(ln.ag.n+1):=qS om
   refine WS fun _ Am=>rP 1 [] I ?_
   refine RK Am<|ak fun _ AB=>cE U (aQ fun B5=>?_) (aP fun B5=>?_)
   ·refine WK AB<|ak fun _ BD=>ax<|WS fun _ BE=>rP 1 [] I ?_
    refine AL U jd fun s=>HW U AU U U<|RK BE<|ak fun _ BF=>dL cu [6,8] [6] [0] [0,1,2,3,4,5,6,7,8] [0,1,2,3,4,5,6,7,8,9] U U U U U<|eS U (D_ 3 U cm U)<|eS U (SX (bO U U) U U)<|eS U (FA 12 U fB U)<|eS U (H0 (vS fA (ln.ag.n+1) (ln.ag.n+1)) 2 U cm U U)<|eS U (D_ 0 U cm U)<|eS U (BI U (ij ⟨om,om⟩)) ?_
    obtain ⟨CJ,Bz⟩:=aM (eB fb (ln.ag.n+1)) (b+1) om
    have hx17m:(List.map oC (eB fb (ln.ag.n+1)))[(b+1)]? =some (oC CJ):=by rw [fE,Bz]; rfl
    refine fS U (IA (b+1) U (al (n:=(ln.ag.n+1)) 9 U sq) oa dc om om) ?_
    refine e9 U<|iA U fun T18 Bg=>nt (kV:=ej) U U fun B=>?_
    try dsimp only
    refine aF (Bg _ _ (aL [1,2,3,4,5,6,7,8,9]) (aL [1,2,3,4,5,6,7,8,9,10]) ?_)
    refine cq U fun T20 Bh=>?_
    have Bq:((eB fb (ln.ag.n+1)).set (b+1) (some B))=(eB (fb++[B]) (ln.ag.n+1)):=by exact uu om om
    refine eG (k:=(b+1)) (o:=0) (vs:=[(Value.map (some B))]) (es':=(List.map oC (eB (fb++[B]) (ln.ag.n+1)))) (C':=[_,_,_,_,_,_,_,_,_,_,(own fA (ln.ag.n+1) 274 1 (List.map oC (eB (fb++[B]) (ln.ag.n+1))))]) 10 U U U Io U U U U hx17m U dc (by exact (List.map_set (f:=oC) (l:=(eB fb (ln.ag.n+1))) (i:=(b+1)) (a:=(some B))).symm.trans (congrArg _ Bq)) U<|aF (Bh _ _ (aL [1,2,3,4,5,6,7,8,9]) ?_)
    refine fO U<|KK BF<|ak fun _ BG=>?_
    have CB:(eB (fb++[B]) (ln.ag.n+1)).length=(ln.ag.n+1):=qS (by simp; omega)
    obtain ⟨mb,N⟩:=aM fs b om
    obtain ⟨ga,Z⟩:=aM fb b om
    refine F6 9 N Z U U U ?_
    try dsimp only
    refine dh cu 7 kr<|lJ 1 [] (mc 6 U I) U<|dS (SX (bO U U) U U)<|dP 3 [0,1] (mr 5 U (mc 3 U I)) ?_
    have Bu:(List.map oC (eB (fb++[B]) (ln.ag.n+1)))[b]? =some (oC (some ga)):=rl (ow (K3 Z))
    refine dS (IA b U (al (n:=(ln.ag.n+1)) 11 U sq) oa dc om om) ?_
    refine dS (gh b 0 (Value.map (some ga)) U cm (al (n:=(eB (fb++[B]) (ln.ag.n+1)).length) 11 U sm) Bu U dc U)<|cK<|tW 0 U U oy U U fun AR=>?_
    try dsimp only
    refine RK BG<|ax ?_
    have C:(∀ p∈mb,p∈mb)∧(xP (cN ln ri e tms) b ([]:FM))∧(jE (cN ln ri e tms) b mb ([]:FM) mb):=by exact ⟨fun p hp=>hp,xP.start,jE.start⟩
    refine vG (ι:={z:FM×FM×(List Nat) // (∀ p∈z.1,p∈mb)∧(xP (cN ln ri e tms) b z.2.1)∧(jE (cN ln ri e tms) b mb z.2.1 z.1)}) (fun z=>z.1.2.2.map lh) (fun z=>[(0,(vP gw)),(1,(vP W)),(2,(vI (ln.ag.n:Int))),(3,(vP s)),(52,(vI (ln.ag.n:Int))),(53,(vI (b:Int))),(71,(vP AR))]) (fun z=>[(zk ej AR ga (bM iV mb) (bM iV z.1.1) none),(bp (fD nH fs fb b)),(hO ej B (bM iV z.1.2.1)),(b_ s 3 [(vI (b:Int))]),(bp (z.1.2.2.map lx)),(b_ gw 270 (ck.cells (ck.mk ln ri (aN.mk e_A e.length e_C) (aN.mk t_A tms.length t_C) (aN.mk fA (ln.ag.n+1) (ln.ag.n+1)) (aN.mk bA (ln.ag.n+1) (ln.ag.n+1))))).ro,(b_ W 259 [(vP gw)]),(rd e_A e.length 1 (e.map iC)).ro,(rd t_A tms.length 1 (List.zipWith gH tms tb)).ro,(fc (aS q_ tms tb)).ro,(own bA (ln.ag.n+1) 274 1 (List.map oC (List.replicate (ln.ag.n+1) (none:Option Nat)))),(own fA (ln.ag.n+1) 274 1 (List.map oC (eB (fb++[B]) (ln.ag.n+1))))]) (fun z=>z.1.1.length) ⟨(mb,([]:FM),B2),C⟩ U (aU U) (aL [0,1,2,3,4,5,6,7,8,9,10,11]) ?_
    clear C
    rintro ⟨⟨left,m,AK⟩,⟨c,d,g⟩⟩ J26 BB
    try dsimp only at c d g
    try dsimp only
    refine WS fun _ AW=>rG oU.inj (f:=iV) 0 U U U U (fun B6=>?_) (fun t v hm A1=>?_)
    ·refine bg 1 U<|RK AW<|ak fun _ CT=>aX U<|bB<|ae<|ae<|aA<|aH<|KK BD<|an<|rP 2 [] I ?_
     refine aF<|IH (C':=[(hO ej ga (bM iV mb)),(bp (fD nH fs fb b)),(hO ej B (bM iV m)),(b_ s 3 [(vI (b:Int))]),(bp (AK.map lx)),(b_ gw 270 (ck.cells (ck.mk ln ri (aN.mk e_A e.length e_C) (aN.mk t_A tms.length t_C) (aN.mk fA (ln.ag.n+1) (ln.ag.n+1)) (aN.mk bA (ln.ag.n+1) (ln.ag.n+1))))).ro,(b_ W 259 [(vP gw)]),(rd e_A e.length 1 (e.map iC)).ro,(rd t_A tms.length 1 (List.zipWith gH tms tb)).ro,(fc (aS q_ tms tb)).ro,(own bA (ln.ag.n+1) 274 1 (List.map oC (List.replicate (ln.ag.n+1) (none:Option Nat)))),(own fA (ln.ag.n+1) 274 1 (List.map oC (eB (fb++[B]) (ln.ag.n+1))))]) 0 U Lb U<|LK 1 0 N Z U U U ?_
     try dsimp only
     refine AT (X':=aS nH (fs++[m]) (fb++[B])) 0 1 U U (zj om U) ?_
     try dsimp only
     have Br:(vI (((b+1):Nat):Int))=(vI ((b:Int)+1)):=by exact cI om
     refine aT (B7 ⟨((b+1),(fs++[m]),(fb++[B]),AK),⟨om,by simp; omega,by simp; omega,M.add AJ N d g B6⟩⟩ _ _ _ U os (cP 4<|bo U Br<|dy.nil _) (aL [2,3,4,5,6,7,8,0,9]))
    try dsimp only
    refine bg 1 U<|RK AW<|ak fun _ BH=>aR U<|WK BH<|ax<|WS fun _ BJ=>rS (SX (rX 0 U U U) U U)<|bg 2 U<|AL U sI fun A4=>AL U jd fun A5=>tF U rv U<|HW U AU U U<|RK BJ<|WS fun _ BK=>rP 2 [0,1] (mc 8 U (mc 5 U I)) ?_
    refine cX (uv gw b) (aK) U fun CO CW=>?_
    obtain ⟨AZ,Ac⟩:=CO
    try dsimp only
    refine RK BK<|ax<|kg 11 U (by exact fun _ h=>h)<|kg 13 U (by exact fun _ h=>h)<|kg 15 U (by exact fun _ h=>h)<|kg 12 U (by exact fun _ h=>h) ?_
    refine m0 (L0:=[(0,(vP gw)),(1,(vP W)),(2,(vI (ln.ag.n:Int))),(3,(vP s)),(4,(vP A4)),(5,(vP A5)),(52,(vI (ln.ag.n:Int))),(53,(vI (b:Int))),(71,(vP AR))]) (F:=[(rd e_A e.length 1 (e.map iC)).ro,(rd t_A tms.length 1 (List.zipWith gH tms tb)).ro,(fc (aS q_ tms tb)).ro,(b_ gw 270 (ck.cells (ck.mk ln ri (aN.mk e_A e.length e_C) (aN.mk t_A tms.length t_C) (aN.mk fA (ln.ag.n+1) (ln.ag.n+1)) (aN.mk bA (ln.ag.n+1) (ln.ag.n+1))))).ro,(b_ AZ 259 [(vP gw)]),(b_ Ac 3 [(vI (b:Int))])]) (fun k (y:FM)=>(mV (cN ln ri e tms) b mb left y (t,v) k)) (fun k y=>[(b_ A5 3 [(vI v)]),(b_ A4 276 (aC.cells t)),(zk ej AR ga (bM iV mb) (bM iV (cp left t)) (some (t,(vI v)))),(bp (fD nH fs fb b)),(hO ej B (bM iV y)),(b_ s 3 [(vI (b:Int))]),(bp (AK.map lx)),(b_ gw 270 (ck.cells (ck.mk ln ri (aN.mk e_A e.length e_C) (aN.mk t_A tms.length t_C) (aN.mk fA (ln.ag.n+1) (ln.ag.n+1)) (aN.mk bA (ln.ag.n+1) (ln.ag.n+1))))).ro,(b_ W 259 [(vP gw)]),(rd e_A e.length 1 (e.map iC)).ro,(rd t_A tms.length 1 (List.zipWith gH tms tb)).ro,(fc (aS q_ tms tb)).ro,(own bA (ln.ag.n+1) 274 1 (List.map oC (List.replicate (ln.ag.n+1) (none:Option Nat)))),(own fA (ln.ag.n+1) 274 1 (List.map oC (eB (fb++[B]) (ln.ag.n+1))))]) (fun _ (_:Unit)=>False) (fun _ _=>[]) [6,7,8,9,10,11,12,13,14,15,16,17,18,19] [3,2,1,0,4,5] m rfl rfl (rR ln ri e tms e_A e_C tb t_A t_C fA (ln.ag.n+1) (ln.ag.n+1) bA (ln.ag.n+1) (ln.ag.n+1) gw b AZ Ac om om) rfl rfl rfl (by exact mV.start d g) (by simp only [List.forall_mem_cons,List.not_mem_nil,false_imp_iff,implies_true,and_true]; exact ⟨⟨_,aV (i:=0) rfl,(dC (bV _))⟩,⟨_,aV (i:=1) rfl,(dC (bV _))⟩,⟨_,aV (i:=2) rfl,(dC (bV _))⟩,⟨_,aV (i:=3) rfl,(dC (bV _))⟩,⟨_,aV (i:=4) rfl,(bV _)⟩,⟨_,aV (i:=5) rfl,(bV _)⟩⟩) (by rintro k x k2 ⟨o,_,rfl,_⟩; rfl) rfl (aU rfl) ?_ ?_ (fun _ _ _ h=>h.elim) (fun _ _ h=>h.elim)
    rotate_left 1
    ·rintro CI k O AI At
     have D:=At
     try dsimp only
     refine aH<|aH<|LU (X:=AK.map lx) 13 0 U U ?_
     try dsimp only
     refine f_ 9 U xV U ?_
     refine aT (BB ⟨((cp left t),O,(CI::AK)),⟨l4 c,D.on,D.next A1 hm AI⟩⟩ _ _ _ U (dU hm) (aU U) (aL [9,10,11,12,0,4,14,1,2,3,18,19]))
    rintro k x k2 O l ra rb S w1 K39 Qr40 CF hx As BL H CM CQ
    obtain ⟨o,ho,rfl,rfl⟩:=hx
    have D:=As
    try dsimp only
    refine WS fun _ BM=>rP 1 [] I ?_
    refine RK BM<|an<|AL U di fun CY=>fW U cv U<|aF<|jA (fun _ _ h=>h) (aL [1,0,2,3,4,5,6,7,8,9,10,11,12,13,14,15])<|aT (BL _ _ ?_)
    refine ax<|ak fun _ BN=>dL cu [16,18] [] [] [0,1,2,3,4,5,6,7,8,9,10,11,12,13,14,15] [] U U U U U<|eS U (D_ 2 U cm U)<|eS U (D_ 10 U cm U)<|eS U (SX (bO U U) U U)<|eS U (FA 10 U fB U)<|eS U (H0 (vS e_A e.length e_C) 9 U cm U U)<|eS U (D_ 7 U cm U) ?_
    obtain ⟨y,hy⟩:=aM e b om
    have A2:=bQ iC hy
    refine eS U (IA b U (aB 11 U) cJ dc om om)<|eS U (gh b 0 (vI y) U cm (aB 11 U) A2 U dc U) ?_
    have CA:=hw.least y (aV hy)
    have hp:=M.mem N (c _ hm)
    have B_:=J0 hw _ _ hp
    have CD:=tH o.1
    have CE:=hw.opt ho
    have Cf:=hw.now
    dsimp only at B_
    refine eS U (BI U (ij ⟨om,om⟩))<|eS U (FA 0 U fB U)<|eS U (L1 (vI o.2.Lo) 1 U cm U U)<|eS U (MX U)<|eS U (LW 3 U cm U U)<|eS U (MV U)<|eS U (CL (I7 o.1) (aK) U)<|eS U (CL (vU t (fp o.1) om om) (aK) U)<|eS U (AG U)<|e9 U<|cq U fun T45 Bi=>AL U sI fun CZ=>aF (Bi _ _ (aL [1,2,3,4,5,6,7,8,9,10,11,12,13,14,15,16]) ?_)
    refine cq U fun T47 Bj=>fW U rv U<|aF (Bj _ _ (aL [1,2,3,4,5,6,7,8,9,10,11,12,13,14,15,16]) ?_)
    refine fO U<|KK BN<|ak fun _ BO=>dh cu 15 kr<|lJ 1 [] (mc 11 U I) U<|dS (SX (bO U U) U U)<|dP 4 [0,1] (mr 10 U (mc 8 U I)) ?_
    have Bv:(List.map oC (eB (fb++[B]) (ln.ag.n+1)))[(b+1)]? =some (oC (some B)):=rl (ow (zT om))
    refine dS (IA (b+1) U (al (n:=(ln.ag.n+1)) 16 U sq) oa dc om om) ?_
    refine dS (gh (b+1) 0 (Value.map (some B)) U cm (al (n:=(eB (fb++[B]) (ln.ag.n+1)).length) 16 U sm) Bv U dc U)<|lJ 1 [] (mc 0 U I) U<|dS (SX (kz (kV:=ej) (x:=(dp t (fp o.1))) (l:=O) (f:=iV) (z:=0) U U U oy oU Vo (by exact aB 7 U)) U U)<|kX 5 U<|cK<|RK BO<|ak fun _ AC=>dh cu 19 kr<|lJ 4 [0,1] (mc 2 U (mc 11 U I)) U<|dS (SX (bO U U) U U)<|lJ 3 [] (mr 10 U I) U<|dS (MN U)<|dP 2 [] I ?_
    refine jg (t:=121) U (aP fun P=>?_) (aQ fun P=>?_)
    ·refine dP 8 [] I ?_
     refine cK<|RK AC<|aX U<|cj<|aH ?_
     exact H O _ _ (by exact D.skip (Ib hy P)) (aL [1,3,4,5,6,7,8,9,10,11,12,13,14,15,16])
    refine dP 3 [] I ?_
    refine ja (t:=124) U (fun R=>?_) (fun R=>?_)
    ·rw [Bool.not_eq_true'] at R
     refine kX 5 U<|cK<|RK AC<|aR U<|dh cu 10 kr<|lJ 1 [] (mc 11 U I) U<|dS (SX (bO U U) U U)<|dP 4 [0,1] (mr 10 U (mc 8 U I)) ?_
     have Bw:(List.map oC (eB (fb++[B]) (ln.ag.n+1)))[(b+1)]? =some (oC (some B)):=rl (ow (zT om))
     refine dS (IA (b+1) U (al (n:=(ln.ag.n+1)) 16 U sq) oa dc om om) ?_
     refine dS (gh (b+1) 0 (Value.map (some B)) U cm (al (n:=(eB (fb++[B]) (ln.ag.n+1)).length) 16 U sm) Bw U dc U)<|dP 2 [] (mc 0 U I) ?_
     refine cK<|iU (kV:=ej) (x:=(dp t (fp o.1))) (C':=[_,_,_,_,_,_,_,(hO ej B (bM iV (eh O (dp t (fp o.1)) (max (v+y) o.2.Lo)))),_,_,_,_,_,_,_,_,_]) 7 U U U U oy oU U (gJ _ _ _ _).symm U<|aF<|aH ?_
     exact H (eh O (dp t (fp o.1)) (max (v+y) o.2.Lo)) _ _ (by exact D.set hp ho (Ab hy P) (.inl (by simpa using R))) (aL [1,3,4,5,6,7,8,9,10,11,12,13,14,15,16])
    rw [Bool.not_eq_false'] at R
    refine dP 5 [] I ?_
    refine cK<|RK AC<|bS U (aP fun u=>?_) (aQ fun u=>?_)
    ·refine cj<|aH ?_
     exact H O _ _ (by exact D.oq (Ab hy P) (by simpa using R) u) (aL [1,3,4,5,6,7,8,9,10,11,12,13,14,15,16])
    refine dh cu 10 kr<|lJ 1 [] (mc 11 U I) U<|dS (SX (bO U U) U U)<|dP 4 [0,1] (mr 10 U (mc 8 U I)) ?_
    have Bx:(List.map oC (eB (fb++[B]) (ln.ag.n+1)))[(b+1)]? =some (oC (some B)):=rl (ow (zT om))
    refine dS (IA (b+1) U (al (n:=(ln.ag.n+1)) 16 U sq) oa dc om om) ?_
    refine dS (gh (b+1) 0 (Value.map (some B)) U cm (al (n:=(eB (fb++[B]) (ln.ag.n+1)).length) 16 U sm) Bx U dc U)<|dP 2 [] (mc 0 U I) ?_
    refine cK<|iU (kV:=ej) (x:=(dp t (fp o.1))) (C':=[_,_,_,_,_,_,_,(hO ej B (bM iV (eh O (dp t (fp o.1)) (max (v+y) o.2.Lo)))),_,_,_,_,_,_,_,_,_]) 7 U U U U oy oU U (gJ _ _ _ _).symm U<|aF<|aH ?_
    exact H (eh O (dp t (fp o.1)) (max (v+y) o.2.Lo)) _ _ (by exact D.set hp ho (Ab hy P) (.inr u)) (aL [1,3,4,5,6,7,8,9,10,11,12,13,14,15,16])
   refine bB<|ae<|ae<|aA<|KK Ak<|WS fun _ AD=>rP 1 [] I ?_
   refine AL U jd fun B3=>HW U AU U U<|RK AD<|ax ?_
   rw [Hq]
   refine og ?_
   have C:(0≤ln.ag.n+1)∧(([]:List FM).length=0)∧(([]:List Nat).length=0)∧(g4 (cN ln ri e tms) (ln.ag.n+1-0) ([]:List FM)):=by exact ⟨Nat.zero_le _,rfl,rfl,g4.none_⟩
   refine vG (ι:={z:Nat×(List FM)×(List Nat)×Nat×(List Nat) // (z.1≤ln.ag.n+1)∧(z.2.1.length=z.1)∧(z.2.2.1.length=z.1)∧(g4 (cN ln ri e tms) (ln.ag.n+1-z.1) z.2.1)}) (fun z=>z.1.2.2.2.2.map lh) (fun z=>[(0,(vP gw)),(1,(vP W)),(2,(vI (ln.ag.n:Int))),(12,(Value.pointer (some ⟨z.1.2.2.2.1,0,none⟩)))]) (fun z=>[(bp (aS nH z.1.2.1 z.1.2.2.1)),(b_ z.1.2.2.2.1 3 [(vI ((ln.ag.n:Int)-(z.1.1:Int)))]),(bp (z.1.2.2.2.2.map lx)),(b_ gw 270 (ck.cells (ck.mk ln ri (aN.mk e_A e.length e_C) (aN.mk t_A tms.length t_C) (aN.mk fA (ln.ag.n+1) (ln.ag.n+1)) (aN.mk bA (ln.ag.n+1) (ln.ag.n+1))))).ro,(b_ W 259 [(vP gw)]),(rd e_A e.length 1 (e.map iC)).ro,(rd t_A tms.length 1 (List.zipWith gH tms tb)).ro,(fc (aS q_ tms tb)).ro,(own bA (ln.ag.n+1) 274 1 (List.map oC (gV z.1.2.2.1 (ln.ag.n+1)))),(bp (aS nH fs fb)),(own fA (ln.ag.n+1) 274 1 (List.map oC (eB fb (ln.ag.n+1))))]) (fun z=>ln.ag.n+1-z.1.1) ⟨(0,([]:List FM),([]:List Nat),B3,B2),C⟩ U (aU U) (aL [0,1,2,3,4,5,6,7,8,9,10]) ?_
   clear C
   rintro ⟨⟨j,bs,bb,gq,q⟩,⟨AO,AP,AQ,E⟩⟩ J57 AV
   try dsimp only at AO AP AQ E
   try dsimp only
   refine ak fun _ AE=>WS fun _ AF=>rP 2 [] (mc 1 U I) ?_
   refine RK AF<|bS U (aP fun A9=>?_) (aQ fun A9=>?_)
   ·refine bB<|ae<|ae<|aA ?_
    rw [show (List.map oC (eB fb (ln.ag.n+1)))=(List.zipWith gH fs fb) from by rw [yo om]; exact (Az om).symm]
    rw [show (List.map oC (gV bb (ln.ag.n+1)))=(List.zipWith gH bs bb) from by rw [GK om]; exact (Az om).symm]
    refine Aj (C1:=[(own fA (ln.ag.n+1) 274 1 (List.zipWith gH fs fb)),(bp (aS nH fs fb)),(own bA (ln.ag.n+1) 274 1 (List.zipWith gH bs bb)),(bp (aS nH bs bb)),(bp (q.map lx))]) hz [10,9,8,0,2] U U (by simp only [fI,List.all_nil,JN,MW,Bool.and_true]; rfl) ?_
    rw [show (b_ gw 270 (ck.cells (ck.mk ln ri (aN.mk e_A e.length e_C) (aN.mk t_A tms.length t_C) (aN.mk fA (ln.ag.n+1) (ln.ag.n+1)) (aN.mk bA (ln.ag.n+1) (ln.ag.n+1)))))=(b_ gw 270 (ck.cells (ck.mk ln ri (aN.mk e_A e.length e_C) (aN.mk t_A tms.length t_C) (aN.mk fA fs.length (ln.ag.n+1)) (aN.mk bA bs.length (ln.ag.n+1))))) from by rw [show fs.length=(ln.ag.n+1) from by omega,show bs.length=(ln.ag.n+1) from by omega]]
    refine Qd [(b_ gw 270 (ck.cells (ck.mk ln ri (aN.mk e_A e.length e_C) (aN.mk t_A tms.length t_C) (aN.mk fA fs.length (ln.ag.n+1)) (aN.mk bA bs.length (ln.ag.n+1))))),(own fA (ln.ag.n+1) 274 1 (List.zipWith gH fs fb)),(bp (aS nH fs fb)),(own bA (ln.ag.n+1) 274 1 (List.zipWith gH bs bb)),(bp (aS nH bs bb))] [(bp (q.map lx))] ?_
    refine hN _ _ _ (Jc 1 U U<|gU (vs:=[]) trivial fun w hs=>RH (fs,fb,fA,(ln.ag.n+1),bs,bb,bA,(ln.ag.n+1)) 0 ?_ ?_ U (by show List.all _ _=true; simp only [fI,List.all_nil,JN,Bool.and_true]; rfl) hs)
    ·clear hs w hQ hN AF AE AD AB Am Al Ak Ah Ae; rfl
    ·clear hs w hQ hN AF AE AD AB Am Al Ak Ah Ae; exact ⟨M.ok (by show fs.length=e.length+1; omega),g4.ok (by have:=E; rwa [show ln.ag.n+1-j=0 by omega] at this) (by show bs.length=e.length+1; omega),dso,dso⟩
   refine WK AE<|ak fun _ AX=>ax<|ak fun _ BP=>?_
   obtain ⟨b,Cc⟩: ∃ b:Nat,b+j=ln.ag.n:=⟨ln.ag.n-j,om⟩
   rw [show (ln.ag.n:Int)-(j:Int)=(b:Int) from by omega]
   have CV:(gV bb (ln.ag.n+1)).length=(ln.ag.n+1):=yn om
   refine dL cu [5,12,13,15] [11] [0,1,2] [0,1,2,3,4,5,6,7,9,10] [0,1,2,3,4,5,6,7,8,9,10] U U U U U<|eS U (D_ 4 U cm U)<|eS U (SX (bO U U) U U)<|eS U (FA 13 U fB U)<|eS U (H0 (vS bA (ln.ag.n+1) (ln.ag.n+1)) 3 U cm U U)<|eS U (D_ 1 U cm U)<|eS U (SX (bj (xs:=[]) (cs:=(aC.cells (aC.mk 0 0))) U U (bk Bf U)) U U)<|eS U (D_ 4 U cm U)<|eS U (SX (bO U U) U U)<|eS U (FA 7 U fB U)<|eS U (FA 8 U fB U)<|eS U (H0 (vI ri.gj) 3 U cm U U) ?_
   obtain ⟨CK,B0⟩:=aM (gV bb (ln.ag.n+1)) b om
   have hx63m:(List.map oC (gV bb (ln.ag.n+1)))[b]? =some (oC CK):=by rw [fE,B0]; rfl
   refine fS U (IA b U (al (n:=(ln.ag.n+1)) 8 U sq) oa dc om om) ?_
   refine e9 U<|iA U fun T64 Bk=>nt (kV:=ej) U U fun A=>?_
   try dsimp only
   refine aF (Bk _ _ (aL [1,2,3,4,5,6,7,8,10,11]) (aL [1,2,3,4,5,6,7,8,9,10,11]) ?_)
   refine iA U fun T66 Bl=>?_
   have Bs:(eh ([]:List (aC×Int)) (aC.mk 0 0) ri.gj)=[((aC.mk 0 0),ri.gj)]:=by rfl
   refine zb (kV:=ej) (x:=(aC.mk 0 0)) (C':=[(hO ej A (bM iV ([((aC.mk 0 0),ri.gj)]))),_,_,_,_,_,_,_,_,_,_,_]) 0 U U U U oy oU U ((gJ _ _ _ _).symm.trans (congrArg _ Bs)) U<|aF (Bl _ _ (aL [1,2,3,4,5,6,7,8,10,11]) (aL [1,2,3,4,5,6,7,8,9,10,11]) ?_)
   refine iA U fun T68 Bm=>rS (MV U)<|aF (Bm _ _ (aL [1,2,3,4,5,6,7,8,10,11]) (aL [1,2,3,4,5,6,7,8,9,10,11]) ?_)
   refine cq U fun T69 Bn=>?_
   have Bt:((gV bb (ln.ag.n+1)).set b (some A))=(gV (A::bb) (ln.ag.n+1)):=by exact GO om
   refine eG (k:=b) (o:=0) (vs:=[(Value.map (some A))]) (es':=(List.map oC (gV (A::bb) (ln.ag.n+1)))) (C':=[_,_,_,_,_,_,_,_,_,(own bA (ln.ag.n+1) 274 1 (List.map oC (gV (A::bb) (ln.ag.n+1)))),_,_]) 9 U U U Io U U U U hx63m U dc (by exact (List.map_set (f:=oC) (l:=(gV bb (ln.ag.n+1))) (i:=b) (a:=(some A))).symm.trans (congrArg _ Bt)) U<|aF (Bn _ _ (aL [1,2,3,4,5,6,7,8,10,11]) ?_)
   refine fO U<|KK BP<|ak fun _ BQ=>WS fun _ BR=>rP 3 [] (mc 2 U I) ?_
   refine RK BR<|cE U (aQ fun A_=>?_) (aP fun A_=>?_)
   ·refine bB<|ae<|aA<|KK AX<|ak fun _ BS=>WS fun _ BT=>fF 1 [] (mc 2 U I) U<|RK BT<|an<|AL U jd fun B4=>HW U AU U U<|RK BS<|an<|rP 2 [] (mc 0 U I) ?_
    refine HW U AU U U<|aF ?_
    rw [show (b:Int)-1=(ln.ag.n:Int)-(((j+1):Nat):Int) from by omega]
    refine yW (ms:=bs) (m:=[((aC.mk 0 0),ri.gj)]) (a:=A) 2 1 U U U ?_
    try dsimp only
    refine aT (AV ⟨((j+1),([((aC.mk 0 0),ri.gj)]::bs),(A::bb),B4,q),⟨om,by simp; omega,by simp; omega,by exact g4.end_ (b:=b) E om om (by show e.length≤b; omega)⟩⟩ _ _ _ U os (aU U) (aL [0,1,3,4,5,6,7,8,9,10,11]))
   refine WK BQ<|ak fun _ BU=>?_
   have CC:(gV (A::bb) (ln.ag.n+1)).length=(ln.ag.n+1):=yn (by simp; omega)
   obtain ⟨mb,N⟩:=aM bs 0 om
   obtain ⟨ga,Z⟩:=aM bb 0 om
   refine F6 1 N Z U U U ?_
   try dsimp only
   refine dh cu 8 kr<|lJ 1 [] (mc 6 U I) U<|dS (SX (bO U U) U U)<|dP 4 [0,1] (mr 5 U (mc 3 U I)) ?_
   have By:(List.map oC (gV (A::bb) (ln.ag.n+1)))[(b+1)]? =some (oC (some ga)):=rl (s8 (i:=1) (by simpa using Z) (by simp; omega))
   refine dS (IA (b+1) U (al (n:=(ln.ag.n+1)) 10 U sq) oa dc om om) ?_
   refine dS (gh (b+1) 0 (Value.map (some ga)) U cm (al (n:=(gV (A::bb) (ln.ag.n+1)).length) 10 U sm) By U dc U)<|cK<|tW 0 U U oy U U fun AS=>?_
   try dsimp only
   refine RK BU<|ax ?_
   have C:(∀ p∈mb,p∈mb)∧(vk (cN ln ri e tms) b ([((aC.mk 0 0),ri.gj)]))∧(jt (cN ln ri e tms) b mb ([((aC.mk 0 0),ri.gj)]) mb):=by exact ⟨fun p hp=>hp,vk.start (by show b<e.length; omega),jt.start⟩
   refine vG (ι:={z:FM×FM×(List Nat) // (∀ p∈z.1,p∈mb)∧(vk (cN ln ri e tms) b z.2.1)∧(jt (cN ln ri e tms) b mb z.2.1 z.1)}) (fun z=>z.1.2.2.map lh) (fun z=>[(0,(vP gw)),(1,(vP W)),(2,(vI (ln.ag.n:Int))),(12,(vP gq)),(171,(vP AS))]) (fun z=>[(zk ej AS ga (bM iV mb) (bM iV z.1.1) none),(bp (fD nH bs bb 0)),(hO ej A (bM iV z.1.2.1)),(b_ gq 3 [(vI (b:Int))]),(bp (z.1.2.2.map lx)),(b_ gw 270 (ck.cells (ck.mk ln ri (aN.mk e_A e.length e_C) (aN.mk t_A tms.length t_C) (aN.mk fA (ln.ag.n+1) (ln.ag.n+1)) (aN.mk bA (ln.ag.n+1) (ln.ag.n+1))))).ro,(b_ W 259 [(vP gw)]),(rd e_A e.length 1 (e.map iC)).ro,(rd t_A tms.length 1 (List.zipWith gH tms tb)).ro,(fc (aS q_ tms tb)).ro,(own bA (ln.ag.n+1) 274 1 (List.map oC (gV (A::bb) (ln.ag.n+1)))),(bp (aS nH fs fb)),(own fA (ln.ag.n+1) 274 1 (List.map oC (eB fb (ln.ag.n+1))))]) (fun z=>z.1.1.length) ⟨(mb,[((aC.mk 0 0),ri.gj)],q),C⟩ U (aU U) (aL [0,1,2,3,4,5,6,7,8,9,10,11,12]) ?_
   clear C
   rintro ⟨⟨left,m,V⟩,⟨J,K,L⟩⟩ J80 BC
   try dsimp only at J K L
   try dsimp only
   refine WS fun _ AY=>rG oU.inj (f:=iV) 0 U U U U (fun BA=>?_) (fun t v hm A1=>?_)
   ·refine bg 1 U<|RK AY<|ak fun _ CU=>aX U<|bB<|ae<|ae<|aA<|aH<|KK AX<|ak fun _ BV=>WS fun _ BW=>fF 1 [] (mc 3 U I) U<|RK BW<|an<|AL U jd fun A6=>HW U AU U U<|RK BV<|an<|rP 2 [] (mc 0 U I) ?_
    refine HW U AU U U<|aF<|IH (C':=[(b_ A6 3 [(vI ((b:Int)-1))]),(hO ej ga (bM iV mb)),(bp (fD nH bs bb 0)),(hO ej A (bM iV m)),(b_ gq 3 [(vI (b:Int))]),(bp (V.map lx)),(b_ gw 270 (ck.cells (ck.mk ln ri (aN.mk e_A e.length e_C) (aN.mk t_A tms.length t_C) (aN.mk fA (ln.ag.n+1) (ln.ag.n+1)) (aN.mk bA (ln.ag.n+1) (ln.ag.n+1))))).ro,(b_ W 259 [(vP gw)]),(rd e_A e.length 1 (e.map iC)).ro,(rd t_A tms.length 1 (List.zipWith gH tms tb)).ro,(fc (aS q_ tms tb)).ro,(own bA (ln.ag.n+1) 274 1 (List.map oC (gV (A::bb) (ln.ag.n+1)))),(bp (aS nH fs fb)),(own fA (ln.ag.n+1) 274 1 (List.map oC (eB fb (ln.ag.n+1))))]) 1 U Lb U<|LK 2 1 N Z U U U ?_
    try dsimp only
    rw [show (b:Int)-1=(ln.ag.n:Int)-(((j+1):Nat):Int) from by omega]
    refine yW (ms:=bs) (m:=m) (a:=A) 0 2 U U U ?_
    try dsimp only
    refine aT (AV ⟨((j+1),(m::bs),(A::bb),A6,V),⟨om,by simp; omega,by simp; omega,by exact g4.more (b:=b) E om om (by show b<e.length; omega) N K L BA⟩⟩ _ _ _ U os (aU U) (aL [0,1,3,4,5,6,7,8,9,10,11]))
   try dsimp only
   refine bg 1 U<|RK AY<|ak fun _ BX=>aR U<|WK BX<|ax<|WS fun _ BY=>rS (SX (rX 0 U U U) U U)<|bg 2 U<|AL U sI fun A7=>AL U jd fun A8=>tF U rv U<|HW U AU U U<|RK BY<|WS fun _ BZ=>rP 2 [0,1] (mc 8 U (mc 5 U I)) ?_
   refine cX (uv gw b) (aK) U fun CP CX=>?_
   obtain ⟨Aa,Ad⟩:=CP
   try dsimp only
   refine RK BZ<|ax<|kg 11 U (by exact fun _ h=>h)<|kg 13 U (by exact fun _ h=>h)<|kg 15 U (by exact fun _ h=>h)<|kg 12 U (by exact fun _ h=>h) ?_
   refine m0 (L0:=[(0,(vP gw)),(1,(vP W)),(2,(vI (ln.ag.n:Int))),(12,(vP gq)),(13,(vP A7)),(14,(vP A8)),(171,(vP AS))]) (F:=[(rd e_A e.length 1 (e.map iC)).ro,(rd t_A tms.length 1 (List.zipWith gH tms tb)).ro,(fc (aS q_ tms tb)).ro,(b_ gw 270 (ck.cells (ck.mk ln ri (aN.mk e_A e.length e_C) (aN.mk t_A tms.length t_C) (aN.mk fA (ln.ag.n+1) (ln.ag.n+1)) (aN.mk bA (ln.ag.n+1) (ln.ag.n+1))))).ro,(b_ Aa 259 [(vP gw)]),(b_ Ad 3 [(vI (b:Int))])]) (fun k (y:FM)=>(nA (cN ln ri e tms) b mb left y (t,v) k)) (fun k y=>[(b_ A8 3 [(vI v)]),(b_ A7 276 (aC.cells t)),(zk ej AS ga (bM iV mb) (bM iV (cp left t)) (some (t,(vI v)))),(bp (fD nH bs bb 0)),(hO ej A (bM iV y)),(b_ gq 3 [(vI (b:Int))]),(bp (V.map lx)),(b_ gw 270 (ck.cells (ck.mk ln ri (aN.mk e_A e.length e_C) (aN.mk t_A tms.length t_C) (aN.mk fA (ln.ag.n+1) (ln.ag.n+1)) (aN.mk bA (ln.ag.n+1) (ln.ag.n+1))))).ro,(b_ W 259 [(vP gw)]),(rd e_A e.length 1 (e.map iC)).ro,(rd t_A tms.length 1 (List.zipWith gH tms tb)).ro,(fc (aS q_ tms tb)).ro,(own bA (ln.ag.n+1) 274 1 (List.map oC (gV (A::bb) (ln.ag.n+1)))),(bp (aS nH fs fb)),(own fA (ln.ag.n+1) 274 1 (List.map oC (eB fb (ln.ag.n+1))))]) (fun _ (_:Unit)=>False) (fun _ _=>[]) [6,7,8,9,10,11,12,13,14,15,16,17,18,19,20] [3,2,1,0,4,5] m rfl rfl (rR ln ri e tms e_A e_C tb t_A t_C fA (ln.ag.n+1) (ln.ag.n+1) bA (ln.ag.n+1) (ln.ag.n+1) gw b Aa Ad om om) rfl rfl rfl (by exact nA.start K L) (by simp only [List.forall_mem_cons,List.not_mem_nil,false_imp_iff,implies_true,and_true]; exact ⟨⟨_,aV (i:=0) rfl,(dC (bV _))⟩,⟨_,aV (i:=1) rfl,(dC (bV _))⟩,⟨_,aV (i:=2) rfl,(dC (bV _))⟩,⟨_,aV (i:=3) rfl,(dC (bV _))⟩,⟨_,aV (i:=4) rfl,(bV _)⟩,⟨_,aV (i:=5) rfl,(bV _)⟩⟩) (by rintro k x k2 ⟨o,_,rfl,_⟩; rfl) rfl (aU rfl) ?_ ?_ (fun _ _ _ h=>h.elim) (fun _ _ h=>h.elim)
   rotate_left 1
   ·rintro B1 k O AI AN
    have D:=AN
    try dsimp only
    refine aH<|aH<|LU (X:=V.map lx) 13 0 U U ?_
    try dsimp only
    refine f_ 9 U xV U ?_
    refine aT (BC ⟨((cp left t),O,(B1::V)),⟨l4 J,D.on,D.next A1 hm AI⟩⟩ _ _ _ U (dU hm) (aU U) (aL [9,10,11,12,0,4,14,1,2,3,18,19,20]))
   rintro k x k2 O l ra rb S w1 K95 Qr96 CF hx Au Ba A3 CN CR
   obtain ⟨o,ho,rfl,rfl⟩:=hx
   have D:=Au
   try dsimp only
   refine WS fun _ Bb=>rP 1 [] I ?_
   refine RK Bb<|an<|AL U di fun Ca=>fW U cv U<|aF<|jA (fun _ _ h=>h) (aL [1,0,2,3,4,5,6,7,8,9,10,11,12,13,14,15,16])<|aT (Ba _ _ ?_)
   refine ax<|ak fun _ Af=>dL cu [16,18] [] [] [0,1,2,3,4,5,6,7,8,9,10,11,12,13,14,15,16] [] U U U U U<|eS U (D_ 2 U cm U)<|eS U (FA 1 U fB U)<|eS U (L1 (vI o.2.Hi) 1 U cm U U) ?_
   have hp:=E.Vn (b:=b) om N (J _ hm)
   have B9:=IK hw hp
   have CD:=tH o.1
   have CE:=hw.opt ho
   dsimp only at B9
   refine eS U (MN U)<|eS U (D_ 10 U cm U)<|eS U (SX (bO U U) U U)<|eS U (FA 10 U fB U)<|eS U (H0 (vS e_A e.length e_C) 9 U cm U U)<|eS U (D_ 7 U cm U) ?_
   obtain ⟨y,hy⟩:=aM e b om
   have A2:=bQ iC hy
   refine eS U (IA b U (aB 11 U) cJ dc om om)<|eS U (gh b 0 (vI y) U cm (aB 11 U) A2 U dc U) ?_
   have CA:=hw.least y (aV hy)
   refine eS U (BI U (rz ⟨om,om⟩))<|eS U (LW 3 U cm U U)<|eS U (MV U)<|eS U (CL (I7 o.1) (aK) U)<|eS U (CL (vU t (fp o.1) om om) (aK) U)<|eS U (AG U)<|e9 U<|cq U fun T101 An=>AL U sI fun CS=>aF (An _ _ (aL [1,2,3,4,5,6,7,8,9,10,11,12,13,14,15,16,17]) ?_)
   refine cq U fun T103 Ao=>fW U rv U<|aF (Ao _ _ (aL [1,2,3,4,5,6,7,8,9,10,11,12,13,14,15,16,17]) ?_)
   refine fO U<|KK Af<|ak fun _ Ag=>dh cu 14 kr<|lJ 1 [] (mc 11 U I) U<|dS (SX (bO U U) U U)<|dP 3 [0,1] (mr 10 U (mc 8 U I)) ?_
   have Av:(List.map oC (gV (A::bb) (ln.ag.n+1)))[b]? =some (oC (some A)):=rl (s8 (i:=0) rfl (by simp; omega))
   refine dS (IA b U (al (n:=(ln.ag.n+1)) 15 U sq) oa dc om om) ?_
   refine dS (gh b 0 (Value.map (some A)) U cm (al (n:=(gV (A::bb) (ln.ag.n+1)).length) 15 U sm) Av U dc U)<|lJ 1 [] (mc 0 U I) U<|dS (SX (kz (kV:=ej) (x:=(dp t (fp o.1))) (l:=O) (f:=iV) (z:=0) U U U oy oU Vo (by exact aB 7 U)) U U)<|kX 5 U<|cK<|RK Ag<|WS fun _ Y=>fF 3 [0,1] (mc 3 U (mc 2 U I)) U<|rS (MN U)<|rP 4 [] (mc 2 U I) ?_
   refine cf (t:=217) U (aP fun T=>?_) (aQ fun T=>?_)
   ·refine rP 8 [] I ?_
    refine RK Y<|aX U<|cj<|aH ?_
    exact A3 O _ _ (by exact D.skip (Mo T)) (aL [1,3,4,5,6,7,8,9,10,11,12,13,14,15,16,17])
   refine rP 3 [] I ?_
   refine cw (t:=220) U (fun AM=>?_) (fun AM=>?_)
   ·rw [Bool.not_eq_true'] at AM
    refine bg 5 U<|RK Y<|aR U<|dh cu 9 kr<|lJ 1 [] (mc 11 U I) U<|dS (SX (bO U U) U U)<|dP 3 [0,1] (mr 10 U (mc 8 U I)) ?_
    have Aw:(List.map oC (gV (A::bb) (ln.ag.n+1)))[b]? =some (oC (some A)):=rl (s8 (i:=0) rfl (by simp; omega))
    refine dS (IA b U (al (n:=(ln.ag.n+1)) 15 U sq) oa dc om om) ?_
    refine dS (gh b 0 (Value.map (some A)) U cm (al (n:=(gV (A::bb) (ln.ag.n+1)).length) 15 U sm) Aw U dc U)<|dP 2 [] (mc 0 U I) ?_
    refine cK<|iU (kV:=ej) (x:=(dp t (fp o.1))) (C':=[_,_,_,_,_,_,_,(hO ej A (bM iV (eh O (dp t (fp o.1)) ((min v o.2.Hi)-y)))),_,_,_,_,_,_,_,_,_,_]) 7 U U U U oy oU U (gJ _ _ _ _).symm U<|aF<|aH ?_
    exact A3 (eh O (dp t (fp o.1)) ((min v o.2.Hi)-y)) _ _ (by exact D.set (by show b<e.length; omega) hp ho (zI hy T) (.inl (by simpa using AM))) (aL [1,3,4,5,6,7,8,9,10,11,12,13,14,15,16,17])
   rw [Bool.not_eq_false'] at AM
   refine rP 5 [] I ?_
   refine RK Y<|bS U (aP fun AA=>?_) (aQ fun AA=>?_)
   ·refine cj<|aH ?_
    exact A3 O _ _ (by exact D.oq (zI hy T) (by simpa using AM) AA) (aL [1,3,4,5,6,7,8,9,10,11,12,13,14,15,16,17])
   refine dh cu 9 kr<|lJ 1 [] (mc 11 U I) U<|dS (SX (bO U U) U U)<|dP 3 [0,1] (mr 10 U (mc 8 U I)) ?_
   have Ax:(List.map oC (gV (A::bb) (ln.ag.n+1)))[b]? =some (oC (some A)):=rl (s8 (i:=0) rfl (by simp; omega))
   refine dS (IA b U (al (n:=(ln.ag.n+1)) 15 U sq) oa dc om om) ?_
   refine dS (gh b 0 (Value.map (some A)) U cm (al (n:=(gV (A::bb) (ln.ag.n+1)).length) 15 U sm) Ax U dc U)<|dP 2 [] (mc 0 U I) ?_
   refine cK<|iU (kV:=ej) (x:=(dp t (fp o.1))) (C':=[_,_,_,_,_,_,_,(hO ej A (bM iV (eh O (dp t (fp o.1)) ((min v o.2.Hi)-y)))),_,_,_,_,_,_,_,_,_,_]) 7 U U U U oy oU U (gJ _ _ _ _).symm U<|aF<|aH ?_
   exact A3 (eh O (dp t (fp o.1)) ((min v o.2.Hi)-y)) _ _ (by exact D.set (by show b<e.length; omega) hp ho (zI hy T) (.inr AA)) (aL [1,3,4,5,6,7,8,9,10,11,12,13,14,15,16,17])
  refine dL cu [4,11,12,14] [10] [0,1,2] [0,1,2,3,4,6] [0,1,2,3,4,5,6] U U U U U<|eS U (D_ 1 U cm U)<|eS U (SX (bO U U) U U)<|eS U (FA 12 U fB U)<|eS U (H0 (vS fA (ln.ag.n+1) (ln.ag.n+1)) 0 U cm U U)<|eS U (SX (bj (xs:=[]) (cs:=(aC.cells (aC.mk 0 0))) U U (bk Bf U)) U U)<|eS U (D_ 1 U cm U)<|eS U (SX (bO U U) U U)<|eS U (FA 7 U fB U)<|eS U (FA 7 U fB U)<|eS U (H0 (vI ri.Start) 0 U cm U U) ?_
  obtain ⟨x6,CG⟩:=aM (List.replicate (ln.ag.n+1) (none:Option Nat)) 0 om
  have hx7m:(List.map oC (List.replicate (ln.ag.n+1) (none:Option Nat)))[0]? =some (oC x6):=by rw [fE,CG]; rfl
  refine fS U (IA 0 U (al (n:=(ln.ag.n+1)) 5 U sq) oa dc U om) ?_
  refine e9 U<|iA U fun T8 Aq=>nt (kV:=ej) U U fun r=>?_
  try dsimp only
  refine aF (Aq _ _ (aL [1,2,3,4,5,7]) (aL [1,2,3,4,5,6,7]) ?_)
  refine iA U fun T10 G=>?_
  have Bo:(eh ([]:List (aC×Int)) (aC.mk 0 0) ri.Start)=[((aC.mk 0 0),ri.Start)]:=by rfl
  refine zb (kV:=ej) (x:=(aC.mk 0 0)) (C':=[(hO ej r (bM iV ([((aC.mk 0 0),ri.Start)]))),_,_,_,_,_,_,_]) 0 U U U U oy oU U ((gJ _ _ _ _).symm.trans (congrArg _ Bo)) U<|aF (G _ _ (aL [1,2,3,4,5,7]) (aL [1,2,3,4,5,6,7]) ?_)
  refine iA U fun T12 Bd=>rS (MV U)<|aF (Bd _ _ (aL [1,2,3,4,5,7]) (aL [1,2,3,4,5,6,7]) ?_)
  refine cq U fun T13 Be=>?_
  have Bp:((List.replicate (ln.ag.n+1) (none:Option Nat)).set 0 (some r))=(eB [r] (ln.ag.n+1)):=by rw [zp]; exact uu rfl sm
  refine eG (k:=0) (o:=0) (vs:=[(Value.map (some r))]) (es':=(List.map oC (eB [r] (ln.ag.n+1)))) (C':=[_,_,_,_,_,_,(own fA (ln.ag.n+1) 274 1 (List.map oC (eB [r] (ln.ag.n+1)))),_]) 6 U U U Io U U U U hx7m U dc (by exact (List.map_set (f:=oC) (l:=(List.replicate (ln.ag.n+1) (none:Option Nat))) (i:=0) (a:=(some r))).symm.trans (congrArg _ Bp)) U<|aF (Be _ _ (aL [1,2,3,4,5,7]) ?_)
  refine fO U<|Eg<|AT (X:=[]) (X':=aS nH [[((aC.mk 0 0),ri.Start)]] [r]) 0 1 U U U ?_
  try dsimp only
  refine aT (jA (aU U) (aL [1,2,3,4,5,7,0,6]) (B8 ⟨r,trivial⟩))
 refine pq cu [0,1,2,3,5,6,8,9,11,12] [4,7,10,13] [false,false,false,false,false,false,false,false,false,false] [] [(b_ W 259 [(vP gw)]),(rd e_A e.length 1 (e.map iC)).ro,(rd t_A tms.length 1 (List.zipWith gH tms tb)).ro,(fc (aS q_ tms tb)).ro] [] kr (aL [0,2,3,4]) (aL [])<|eS U (D_ 0 U cm U)<|eS U (D_ 0 U cm U)<|eS U (MV U)<|eS U (BI U (ij ⟨om,om⟩))<|eS U (MV U)<|eS U (BI U (ij ⟨om,om⟩))<|eS U (SX (bO U U) U U)<|eS U (FA 12 U fB U)<|eS U (SX (bO U U) U U)<|eS U (FA 13 U fB U)<|e9 U<|i_ [4,7] kr (eN ?_<|eN ?_<|kM)
 rotate_left 1
 ·refine NO U U [4,10,13] fun T5 Ap=>?_
  refine xG (n:=(ln.ag.n+1)) (es:=(List.map oC (List.replicate (ln.ag.n+1) (none:Option Nat)))) U U U Cb om om (by simp only [maxLen]; omega) (by rw [List.map_replicate]; rfl) U fun b6=>?_
  try dsimp only
  refine aF (Ap _ _ (aL [1,3,4,5]) ?_)
  refine N1 4<|NO U U [10,13] fun T7 AH=>?_
  refine xG (n:=(ln.ag.n+1)) (es:=(List.map oC (List.replicate (ln.ag.n+1) (none:Option Nat)))) U U U Cb om om (by simp only [maxLen]; omega) (by rw [List.map_replicate]; rfl) U fun b8=>?_
  try dsimp only
  refine aF (AH _ _ (aL [2,4,5,6]) ?_)
  refine N1 10<|NO U U [13] fun T9 Ar=>Sm (ck.cells (ck.mk ln ri (aN.mk e_A e.length e_C) (aN.mk t_A tms.length t_C) (aN.mk (some ⟨b8,0,none⟩) (ln.ag.n+1) (ln.ag.n+1)) (aN.mk none 0 0))) U yF U U<|aF (Ar _ _ (aL [2,4,5,6]) ?_)
  refine N1 13<|NO U U [] fun T10 G=>Sm (ck.cells (ck.mk ln ri (aN.mk e_A e.length e_C) (aN.mk t_A tms.length t_C) (aN.mk (some ⟨b8,0,none⟩) (ln.ag.n+1) (ln.ag.n+1)) (aN.mk (some ⟨b6,0,none⟩) (ln.ag.n+1) (ln.ag.n+1)))) U yF U U<|aF (G _ _ (aL [2,4,5,6]) ?_)
  refine pP ?_
  refine aT (jA (aU U) (aL [2,4,5,6,0,1,3]) (Ai ⟨((some ⟨b8,0,none⟩),(some ⟨b6,0,none⟩)),trivial⟩))
 refine NO U U [7,10,13] fun T5 Ap=>?_
 refine xG (n:=(ln.ag.n+1)) (es:=(List.map oC (List.replicate (ln.ag.n+1) (none:Option Nat)))) U U U Cb om om (by simp only [maxLen]; omega) (by rw [List.map_replicate]; rfl) U fun b6=>?_
 try dsimp only
 refine aF (Ap _ _ (aL [1,3,4,5]) ?_)
 refine i_ [7,10] kr (eN ?_<|eN ?_<|kM)
 rotate_left 1
 ·refine NO U U [7,13] fun T7 AH=>VA (ck.cells (ck.mk ln ri (aN.mk e_A e.length e_C) (aN.mk t_A tms.length t_C) (aN.mk (some ⟨b6,0,none⟩) (ln.ag.n+1) (ln.ag.n+1)) (aN.mk none 0 0))) U yF U U<|aF (AH _ _ (aL [1,3,4,5]) ?_)
  refine N1 7<|NO U U [13] fun T8 Aq=>?_
  refine xG (n:=(ln.ag.n+1)) (es:=(List.map oC (List.replicate (ln.ag.n+1) (none:Option Nat)))) U U U Cb om om (by simp only [maxLen]; omega) (by rw [List.map_replicate]; rfl) U fun r=>?_
  try dsimp only
  refine aF (Aq _ _ (aL [2,4,5,6]) ?_)
  refine N1 13<|NO U U [] fun T10 G=>Sm (ck.cells (ck.mk ln ri (aN.mk e_A e.length e_C) (aN.mk t_A tms.length t_C) (aN.mk (some ⟨b6,0,none⟩) (ln.ag.n+1) (ln.ag.n+1)) (aN.mk (some ⟨r,0,none⟩) (ln.ag.n+1) (ln.ag.n+1)))) U yF U U<|aF (G _ _ (aL [2,4,5,6]) ?_)
  refine pP ?_
  refine aT (jA (aU U) (aL [2,4,5,6,1,0,3]) (Ai ⟨((some ⟨b6,0,none⟩),(some ⟨r,0,none⟩)),trivial⟩))
 refine NO U U [10,13] fun T7 AH=>?_
 refine xG (n:=(ln.ag.n+1)) (es:=(List.map oC (List.replicate (ln.ag.n+1) (none:Option Nat)))) U U U Cb om om (by simp only [maxLen]; omega) (by rw [List.map_replicate]; rfl) U fun b8=>?_
 try dsimp only
 refine aF (AH _ _ (aL [2,4,5,6]) ?_)
 refine N1 10<|NO U U [13] fun T9 Ar=>Sm (ck.cells (ck.mk ln ri (aN.mk e_A e.length e_C) (aN.mk t_A tms.length t_C) (aN.mk (some ⟨b6,0,none⟩) (ln.ag.n+1) (ln.ag.n+1)) (aN.mk none 0 0))) U yF U U<|aF (Ar _ _ (aL [2,4,5,6]) ?_)
 refine N1 13<|NO U U [] fun T10 G=>Sm (ck.cells (ck.mk ln ri (aN.mk e_A e.length e_C) (aN.mk t_A tms.length t_C) (aN.mk (some ⟨b6,0,none⟩) (ln.ag.n+1) (ln.ag.n+1)) (aN.mk (some ⟨b8,0,none⟩) (ln.ag.n+1) (ln.ag.n+1)))) U yF U U<|aF (G _ _ (aL [2,4,5,6]) ?_)
 refine pP ?_
 refine aT (jA (aU U) (aL [2,4,5,6,1,0,3]) (Ai ⟨((some ⟨b6,0,none⟩),(some ⟨b8,0,none⟩)),trivial⟩))
end
section
open Go.RowKit
theorem Ds (l:bf) (kA:OA) (kC:Nat) (az:List RA) (cA:OA) (cC:Nat) (bA:OA) (bC g1:Nat) (bm:Int) (g2:Nat) (hin:eE l az):
 d_ Tryz.prog 198 [(vP g1),(vP g2)] [(rd kA l.aJ.length 9 (l.aJ.map ao.cells)),(rd cA l.ai.length 2 (List.zipWith au.cells l.ai az)),(fc (aS au.gW l.ai az)),(rd bA l.ag.length 4 (l.ag.map bG.cells)),(b_ g1 28 (bJ.cells (ld l kA kC cA cC bA bC))),(b_ g2 3 [(vI bm)])] (vI (jw l bm)):=by
 have K:=hin.si
 have J:=hin.sh
 have H:=hin.nO
 have AA:=hin.sf
 refine bE kr Tryz.func198 U U fun L Q hQ hN=>?_
 try dsimp only
 refine WS fun _ B=>bg 1 U<|RK B<|ak fun _ C=>WS fun _ D=>rP 5 [0,1] (mr 4 U (mr 5 U I)) ?_
 refine cZ (xs:=[.tmp 7]) (cs:=[(vI bm)]) U cJ jd U U U U (by simp [Value.cells]) U U fun G=>?_
 refine rS (CL (d_.eq (iM 0 ((l.ag.length:Int)-1) ([bm]) (some ⟨G,0,none⟩) 1 (by (simp; done))) cU) (ay (a_ 0 U U (by simp [bK]) U)<|aK) U) ?_
 refine rP 1 [] I ?_
 refine RK D<|cE U (br fun A=>?_) (bq fun A=>?_)
 ·refine WS fun _ E=>rP 1 [] I ?_
  refine RK E<|ar<|Q1 hQ U U U ?_
  exact cI (if_neg om).symm
 refine WK C<|WS fun _ F=>rP 1 [] I ?_
 refine RK F<|ar<|Q1 hQ U U U ?_
 exact cI (if_pos om).symm
end
section
open Go.RowKit
theorem Ni (l:bf) (kA:OA) (kC:Nat) (az:List RA) (cA:OA) (cC:Nat) (bA:OA) (bC:Nat) (r:cG) (sgA:OA) (sgC:Nat) (f:Value) (X:av) (me:Int) (gm:Nat) (hf:El Tryz.prog f [] [X] (.int .i64 me)) (hin:eE l az) (hsl:r.aj.length≤1000000):
 lq Tryz.prog 197 [(vA (bJ.cells (ld l kA kC cA cC bA bC))),(vA (eK.cells (mo r sgA sgC))),(vS (some ⟨gm,0,none⟩) 1 1)] [(rd kA l.aJ.length 9 (l.aJ.map ao.cells)),(rd cA l.ai.length 2 (List.zipWith au.cells l.ai az)),(fc (aS au.gW l.ai az)),(rd bA l.ag.length 4 (l.ag.map bG.cells)),(rd sgA r.aj.length 2 (r.aj.map aO.cells)),X,(b_ gm 262 [f])] (fun (x:Bool×Int×Nat×(OA)×Nat×(OA)×Nat×(List Nat)×(List FM)×(List Nat)×(OA)×Nat×(List FM)×(List Nat)×(OA)×Nat)=>bif x.1 then (vT [(Value.pointer (some ⟨x.2.2.1,0,none⟩)),(vI 0)]) else (vT [(Value.pointer none),(vI x.2.1)])) (fun (x:Bool×Int×Nat×(OA)×Nat×(OA)×Nat×(List Nat)×(List FM)×(List Nat)×(OA)×Nat×(List FM)×(List Nat)×(OA)×Nat)=>(x.1=true→(eH l r me=0∧xq (ct l r) x.2.2.2.2.2.2.2.2.1∧ux (ct l r) x.2.2.2.2.2.2.2.2.2.2.2.2.1∧x.2.2.2.2.2.2.2.2.2.1.length=x.2.2.2.2.2.2.2.2.1.length∧x.2.2.2.2.2.2.2.2.2.2.2.2.2.1.length=x.2.2.2.2.2.2.2.2.2.2.2.2.1.length∧x.2.2.2.2.2.2.2.1.length=(eg l r.aj r.aj.length).length))∧(x.1=false→(x.2.1=eH l r me∧ ¬ eH l r me=0))) (fun (x:Bool×Int×Nat×(OA)×Nat×(OA)×Nat×(List Nat)×(List FM)×(List Nat)×(OA)×Nat×(List FM)×(List Nat)×(OA)×Nat)=>bif x.1 then [(b_ x.2.2.1 270 (ck.cells (ck.mk (ld l kA kC cA cC bA bC) (mo r sgA sgC) (aN.mk x.2.2.2.1 ((cO l l.ag.length).length) x.2.2.2.2.1) (aN.mk x.2.2.2.2.2.1 ((eg l r.aj r.aj.length).length) x.2.2.2.2.2.2.1) (aN.mk x.2.2.2.2.2.2.2.2.2.2.1 x.2.2.2.2.2.2.2.2.1.length x.2.2.2.2.2.2.2.2.2.2.2.1) (aN.mk x.2.2.2.2.2.2.2.2.2.2.2.2.2.2.1 x.2.2.2.2.2.2.2.2.2.2.2.2.1.length x.2.2.2.2.2.2.2.2.2.2.2.2.2.2.2)))),(own x.2.2.2.1 x.2.2.2.2.1 3 1 ((cO l l.ag.length).map iC)),(own x.2.2.2.2.2.1 x.2.2.2.2.2.2.1 58 1 (List.zipWith gH (eg l r.aj r.aj.length) x.2.2.2.2.2.2.2.1)),(bp (aS q_ (eg l r.aj r.aj.length) x.2.2.2.2.2.2.2.1)),(own x.2.2.2.2.2.2.2.2.2.2.1 x.2.2.2.2.2.2.2.2.2.2.2.1 274 1 (List.zipWith gH x.2.2.2.2.2.2.2.2.1 x.2.2.2.2.2.2.2.2.2.1)),(bp (aS nH x.2.2.2.2.2.2.2.2.1 x.2.2.2.2.2.2.2.2.2.1)),(own x.2.2.2.2.2.2.2.2.2.2.2.2.2.2.1 x.2.2.2.2.2.2.2.2.2.2.2.2.2.2.2 274 1 (List.zipWith gH x.2.2.2.2.2.2.2.2.2.2.2.2.1 x.2.2.2.2.2.2.2.2.2.2.2.2.2.1)),(bp (aS nH x.2.2.2.2.2.2.2.2.2.2.2.2.1 x.2.2.2.2.2.2.2.2.2.2.2.2.2.1))] else []):=by
 have B5:=hin.si
 have B3:=hin.sh
 have B1:=hin.nO
 have B2:=hin.sf
 have B4:=hin.side
 refine dv kr Tryz.func197 U U fun w0 Q hQ hN=>?_
 try dsimp only
 refine WS fun _ Bc=>fU U fun b2=>fU U fun b3=>bg 2 U<|RK Bc<|ak fun _ Bd=>WS fun _ Be=>fF 1 [] (mc 1 U I) U<|rS (CL (BM l kA kC az cA cC bA bC hin) (bh [2,3,4,5]) U)<|bg 1 U<|RK Be<|WS fun _ Bf=>rP 2 [] I ?_
 refine RK Bf<|cE U (br fun h=>?_) (bq fun h=>?_)
 ·refine WS fun _ Bg=>rP 3 [] I ?_
  refine RK Bg<|ar<|LX hQ (false,(dx l),0,none,0,none,0,[],[],[],none,0,[],[],none,0) [] [] I U (by rfl) U U ?_
  exact rf<|Jj (nY (r:=r) (me:=me) h) h
 refine WK Bd<|ak fun _ Bh=>WS fun _ AB=>?_
 have C:dx l=0:=h
 obtain ⟨BL,d⟩:=gK C
 have Bj:=d.head
 unfold gr at Bj
 refine rP 2 [] (mc 0 U I) ?_
 refine cZ (xs:=[.tmp 24]) (cs:=[(vI r.Start)]) U cJ jd U U U U (by simp [Value.cells]) U U fun BS=>?_
 refine rS (CL (d_.eq (iM 0 86400000 ([r.Start]) (some ⟨BS,0,none⟩) 1 (by (simp; done))) cU) (ay (a_ 0 U U (by simp [bK]) U)<|aK) U) ?_
 refine rP 2 [] I ?_
 refine cw (t:=28) U (br fun BW=>?_) (bq fun BW=>?_)
 ·refine bg 14 U<|RK AB<|aR U<|WS fun _ AN=>rP 2 [] I ?_
  refine RK AN<|ar<|LX hQ (false,51,0,none,0,none,0,[],[],[],none,0,[],[],none,0) [] [] I U (by rfl) U U ?_
  exact rf<|pO (jc (me:=me) C (fun q:fm l r=>by have q1:=q.time; have q2:=q.len; omega))
 refine rP 4 [] (mc 1 U I) ?_
 refine cZ (xs:=[.tmp 32]) (cs:=[(vI r.gj)]) U cJ jd U U U U (by simp [Value.cells]) U U fun BT=>?_
 refine rS (CL (d_.eq (iM r.Start 86400000 ([r.gj]) (some ⟨BT,0,none⟩) 1 (by (simp; done))) cU) (ay (a_ 0 U U (by simp [bK]) U)<|aK) U) ?_
 refine rP 3 [] I ?_
 refine cw (t:=37) U (br fun BY=>?_) (bq fun BY=>?_)
 ·refine bg 5 U<|RK AB<|aR U<|WS fun _ AO=>rP 2 [] I ?_
  refine RK AO<|ar<|LX hQ (false,51,0,none,0,none,0,[],[],[],none,0,[],[],none,0) [] [] I U (by rfl) U U ?_
  exact rf<|pO (jc (me:=me) C (fun q:fm l r=>by have q1:=q.time; have q2:=q.len; omega))
 refine rP 5 [] (mc 2 U I) ?_
 refine RK AB<|cE U (aQ fun BZ=>?_) (aP fun BZ=>?_)
 ·refine WS fun _ AP=>rP 2 [] I ?_
  refine RK AP<|ar<|LX hQ (false,51,0,none,0,none,0,[],[],[],none,0,[],[],none,0) [] [] I U (by rfl) U U ?_
  exact rf<|pO (jc (me:=me) C (fun q:fm l r=>by have q1:=q.time; have q2:=q.len; omega))
 refine WK Bh<|WS fun _ AQ=>rS (SX (bj (xs:=[(0,.const (vI (-1)))]) (cs:=(aO.cells (aO.mk (-1) 0))) U U (bk F7 U)) U U)<|AL U F1 fun V=>fW U xU U<|RK AQ<|ak fun _ AR=>dL cu [5,6,7,8] [] [] [0,1,2,3,4,5,6,7,8,9,10,11] [] U U U U U<|eS U (LW 4 U cm U U)<|eS U (LW 3 U cm U U)<|eS U (FA 3 U fB U)<|eS U (L1 (vS bA l.ag.length bC) 4 U cm U U)<|eS U (LN U PM)<|e9 U<|cq U fun T18 Az=>?_
 refine xG (n:=l.ag.length) (es:=(List.map oC (List.replicate l.ag.length (none:Option Nat)))) U U U Ry om om (by simp only [maxLen]; omega) (by rw [List.map_replicate]; rfl) U fun B=>?_
 try dsimp only
 refine aF (Az _ _ (aL [1,2,3,4,5,6,7,8,9,10,11,12]) ?_)
 refine cq U fun T20 A0=>rS (SX (bj (xs:=[(0,.tmp 44),(1,.tmp 45),(3,.tmp 49)]) (cs:=(ck.cells (ck.mk (ld l kA kC cA cC bA bC) (mo r sgA sgC) (aN.mk none 0 0) (aN.mk (some ⟨B,0,none⟩) l.ag.length l.ag.length) (aN.mk none 0 0) (aN.mk none 0 0)))) U U (bk SK U)) U U)<|aF (A0 _ _ (aL [1,2,3,4,5,6,7,8,9,10,11,12]) ?_)
 refine cq U fun T21 A1=>fU U fun Bv=>aF (A1 _ _ (aL [2,3,4,5,6,7,8,9,10,11,12,13]) ?_)
 refine cq U fun T23 A2=>rS (AG U)<|aF (A2 _ _ (aL [2,3,4,5,6,7,8,9,10,11,12,13]) ?_)
 refine fO U<|KK AR<|ak fun _ AS=>WS fun _ AU=>rP 4 [] (mc 6 U I) ?_
 refine RK AU<|ax ?_
 rw [zp]
 refine fY 3 1<|og ?_
 have E:(0≤l.ag.length)∧(([]:List Nat).length=0):=by exact ⟨Nat.zero_le _,rfl⟩
 refine bR (ι:={z:Nat×(OA)×Nat×(List Nat) // (z.1≤l.ag.length)∧(z.2.2.2.length=z.1)}) [2,3,4,6,7,9,10,54] [4,7,8,9,10,11,12,13,14,15] U U (fun z=>[(55,(vI (z.1.1:Int)))]) (fun z=>[(bp (aS q_ (List.replicate z.1.1 ([]:TM)) z.1.2.2.2)),(own z.1.2.1 z.1.2.2.1 3 1 ((cO l z.1.1).map iC)),(b_ Bv 270 (ck.cells (ck.mk (ld l kA kC cA cC bA bC) (mo r sgA sgC) (aN.mk z.1.2.1 ((cO l z.1.1).length) z.1.2.2.1) (aN.mk (some ⟨B,0,none⟩) l.ag.length l.ag.length) (aN.mk none 0 0) (aN.mk none 0 0)))),(own (some ⟨B,0,none⟩) l.ag.length 58 1 (List.map oC (eB z.1.2.2.2 l.ag.length)))]) (fun _=>rfl) (fun _=>rfl) (fun z=>l.ag.length-z.1.1) ⟨(0,none,0,([]:List Nat)),E⟩ (aU U) (aL [4,7,8,9,10,11,12,13,14,15,0,1,2,3]) ?_
 clear E
 rintro ⟨⟨b,a,c,fb⟩,⟨AC,Y⟩⟩ J26 AM
 try dsimp only at AC Y
 try dsimp only
 have Bk:(eB fb l.ag.length).length=l.ag.length:=qS om
 refine WS fun _ AV=>rP 1 [] I ?_
 refine RK AV<|ak fun _ AW=>cE U (aQ fun BX=>?_) (aP fun BX=>?_)
 ·refine WK AW<|ak fun _ AX=>ax<|WS fun _ AY=>rP 2 [] I ?_
  refine RK AY<|ak fun _ AZ=>dL cu [12,13,16] [4] [0] [0,1,2,3,4,5,6,7,8,9,10,13] [0,1,2,3,4,5,6,7,8,9,10,11,12,13] U U U U U<|eS U (MV U)<|eS U (MV U)<|eS U (SX (bO U U) U U)<|eS U (FA 10 U fB U)<|fS U (L1 (vS a ((cO l b).length) c) 12 U cm U U)<|eS U (LW 2 U cm U U)<|eS U (MV U)<|eS U (CL (OT l kA kC az cA cC bA bC (b:Int) hin asm (by exact d.vn) om) (bh [3,4,5,6]) U) ?_
  have B6:=EW BL d.vn b
  have B7:=d.QR b om
  simp only [Int.toNat_natCast]
  refine eS U (BI U (vg ⟨om,om⟩))<|eS U (FA 1 U fB U)<|eS U (L1 (vI l.dG) 2 U cm U U) ?_
  refine eS U (CL (Pb (1000*(lQ l (b:Int).toNat)) l.dG om (by (simp; omega))) (aK) U) ?_
  refine eS U (SX (bO U U) U U)<|eS U (FA 10 U fB U)<|e9 U<|iA U fun T33 A3=>cZ (xs:=[.tmp 69]) (cs:=[(vI (oZ (1000*(lQ l (b:Int).toNat)) l.dG))]) U cJ jd U U U U (by simp [Value.cells]) U U fun Bw=>aF (A3 _ _ (aL [1,2,3,4,5,6,7,8,9,10,11,14]) (aL [1,2,3,4,5,6,7,8,9,10,11,12,13,14]) ?_)
  refine cq U fun T35 A4=>?_
  refine de (es2:=(List.map iC (cO l (b+1)))) (m':=(cO l (b+1)).length) 12 U U U pT U U (by simp [ep]) (a_ (es:=List.map iC [(oZ (1000*(lQ l (b:Int).toNat)) l.dG)]) 0 U U (by simp [bK]) U) (j6 _) (by have:=ep (l:=l) (n:=b); first|omega|(simp; omega)) (by simp only [maxLen,ep]; omega) (by rw [u_]; simp [ei]) (by simp [ep]) U fun e g=>?_
  try dsimp only
  refine aF (A4 _ _ (aL [1,2,3,4,5,6,7,8,9,10,11,14]) ?_)
  refine cq U fun T38 A5=>jl (vs:=[(vS e ((cO l (b+1)).length) g)]) (cs':=(ck.cells (ck.mk (ld l kA kC cA cC bA bC) (mo r sgA sgC) (aN.mk e ((cO l (b+1)).length) g) (aN.mk (some ⟨B,0,none⟩) l.ag.length l.ag.length) (aN.mk none 0 0) (aN.mk none 0 0)))) (C':=[_,_,_,_,_,_,_,_,_,_,_,_,_,(b_ Bv 270 (ck.cells (ck.mk (ld l kA kC cA cC bA bC) (mo r sgA sgC) (aN.mk e ((cO l (b+1)).length) g) (aN.mk (some ⟨B,0,none⟩) l.ag.length l.ag.length) (aN.mk none 0 0) (aN.mk none 0 0)))),_]) 13 U U U AJ U U U U U U U<|aF (A5 _ _ (aL [1,2,3,4,5,6,7,8,9,10,11,14]) ?_)
  refine fO U<|KK AZ<|an<|bg 1 U<|rS (SX (bO U U) U U)<|rP 3 [] (mc 13 U I) ?_
  refine nt (kV:=iV) U U fun J=>?_
  try dsimp only
  obtain ⟨Bo,BO⟩:=aM (eB fb l.ag.length) b om
  have hx41m:(List.map oC (eB fb l.ag.length))[b]? =some (oC Bo):=by rw [fE,BO]; rfl
  refine rS (IA b U (al (n:=l.ag.length) 15 U sq) E_ dc om om) ?_
  have A6:((eB fb l.ag.length).set b (some J))=(eB (fb++[J]) l.ag.length):=by exact uu om om
  refine eG (k:=b) (o:=0) (vs:=[(Value.map (some J))]) (es':=(List.map oC (eB (fb++[J]) l.ag.length))) (C':=[_,_,_,_,_,_,_,_,_,_,_,_,_,_,_,(own (some ⟨B,0,none⟩) l.ag.length 58 1 (List.map oC (eB (fb++[J]) l.ag.length)))]) 15 U U U Ms U U U U hx41m U dc (by exact (List.map_set (f:=oC) (l:=(eB fb l.ag.length)) (i:=b) (a:=(some J))).symm.trans (congrArg _ A6)) U<|aF<|aH<|KK AX<|an<|rP 2 [] I ?_
  refine aF<|AT (X':=aS q_ (List.replicate (b+1) ([]:TM)) (fb++[J])) 12 0 U U (Oh Y) ?_
  try dsimp only
  have A7:(vI (((b+1):Nat):Int))=(vI ((b:Int)+1)):=by exact cI om
  refine aT (AM ⟨((b+1),e,g,(fb++[J])),⟨om,by simp; omega⟩⟩ _ _ _ U os (cP 8<|bo U A7<|dy.nil _) (aL [2,3,4,5,6,7,8,9,10,11,0,12,13,14]))
 refine bB<|ae<|ae<|aA<|KK AS<|ak fun _ Aa=>WS fun _ Ab=>rP 4 [] (mc 1 U I) ?_
 refine RK Ab<|ax ?_
 rw [show (List.replicate b ([]:TM))=eg l r.aj 0 from by rw [Dy,show b=l.ag.length by omega]]
 rw [show cO l b=cO l l.ag.length from by rw [show b=l.ag.length by omega]]
 have E:(0≤r.aj.length)∧(qf l r.aj 0):=by exact ⟨Nat.zero_le _,yr⟩
 refine bR (ι:={z:Nat // (z≤r.aj.length)∧(qf l r.aj z)}) [2,3,4,6,7,9,10,83,84] [1,2,3,4,5,6,7,8,9,11,12,13] U U (fun z=>[(85,(vI (z.1:Int)))]) (fun z=>[(b_ V 131 (aO.cells (my r.aj z.1))),(bp (aS q_ (eg l r.aj z.1) fb))]) (fun _=>rfl) (fun _=>rfl) (fun z=>r.aj.length-z.1) ⟨0,E⟩ (aU U) (aL [1,2,3,4,5,6,7,8,9,11,12,13,0,10]) ?_
 clear E
 rintro ⟨i,⟨BR,A⟩⟩ J46 T
 try dsimp only
 have Bl:(eg l r.aj i).length=l.ag.length:=ji
 have Bk:(eB fb l.ag.length).length=l.ag.length:=qS om
 refine WS fun _ Ac=>rP 1 [] I ?_
 refine RK Ac<|ak fun _ Ad=>bS U (aP fun Ba=>?_) (aQ fun Ba=>?_)
 ·refine bB<|ae<|ae<|aA<|KK Aa<|ak fun _ An=>ak fun _ Ao=>?_
  have j:fm l r:=Bx om om A om
  refine an<|bg 3 U<|RK Ao<|ax<|jO 2<|eu fun R81 Ay=>WS fun _ Ap=>rS (SX (cb (r:= .bool true) U U U gQ) U U)<|RK Ap<|ak fun _ Aq=>aR U<|WK Aq<|ak fun _ Ar=>ax<|WS fun _ As=>rS (Tz 0 0 U Pe U dc U)<|fF 2 [] (mr 8 U I) U<|RK As<|WS fun _ At=>bg 1 U<|rS (SX (r_ U U U (hf) (bh [7])) U U)<|bg 1 U<|RK At<|WS fun _ Au=>rP 2 [] I ?_
  refine RK Au<|cE U (br fun K=>?_) (bq fun K=>?_)
  ·refine WS fun _ Av=>rP 3 [] I ?_
   refine RK Av<|ar<|LX hQ (false,me,0,none,0,none,0,[],[],[],none,0,[],[],none,0) [] [] I U (by rfl) U U ?_
   exact rf<|Jj (qm C j K) K
  refine cj<|aH<|KK Ar<|an<|rS (SX (cb (r:= .int .i64 1) U U U (ij ⟨dc,dc⟩)) U U)<|rP 1 [] I ?_
  refine RK Ay<|eu fun R89 Bs=>WS fun _ Aw=>rS (SX (cb (r:= .bool false) U U U gQ) U U)<|RK Aw<|ak fun _ Br=>aX U<|bB<|ae<|ae<|aA<|KK An<|ak fun _ Ax=>?_
  rw [show eg l r.aj i=eg l r.aj r.aj.length from by rw [show i=r.aj.length by omega]]
  have AE:(eg l r.aj r.aj.length).length=l.ag.length:=ji
  rw [show (List.map oC (eB fb l.ag.length))=(List.zipWith gH (eg l r.aj r.aj.length) fb) from T1 om AE]
  rw [show (b_ Bv 270 (ck.cells (ck.mk (ld l kA kC cA cC bA bC) (mo r sgA sgC) (aN.mk a ((cO l l.ag.length).length) c) (aN.mk (some ⟨B,0,none⟩) l.ag.length l.ag.length) (aN.mk none 0 0) (aN.mk none 0 0))))=(b_ Bv 270 (ck.cells (ck.mk (ld l kA kC cA cC bA bC) (mo r sgA sgC) (aN.mk a ((cO l l.ag.length).length) c) (aN.mk (some ⟨B,0,none⟩) ((eg l r.aj r.aj.length).length) l.ag.length) (aN.mk none 0 0) (aN.mk none 0 0)))) from by rw [AE]]
  have BN:=oI BL d j
  have Bt:(cO l l.ag.length).length=l.ag.length:=ep
  refine an<|rP 1 [] I ?_
  refine iN 10 U U U U (ID (ld l kA kC cA cC bA bC) (mo r sgA sgC) (cO l l.ag.length) (eg l r.aj r.aj.length) a c fb (some ⟨B,0,none⟩) l.ag.length Bv (by exact BN) (by exact ep.symm) (by rw [AE]; omega)) U (ed 9 U U (jY sm) (ed 11 U U (jY (by rw [List.length_zipWith]; omega)) (ed 13 U U th j8))) U (fun BP Bi=>?_)
  obtain ⟨G,S,P,R,F,O,N,H⟩:=BP
  refine NK (X:=[(b_ Bv 270 (ck.cells (ck.mk (ld l kA kC cA cC bA bC) (mo r sgA sgC) (aN.mk a ((cO l l.ag.length).length) c) (aN.mk (some ⟨B,0,none⟩) ((eg l r.aj r.aj.length).length) l.ag.length) (aN.mk P G.length R) (aN.mk N F.length H)))),(own P R 274 1 (List.zipWith gH G S)),(bp (aS nH G S)),(own N H 274 1 (List.zipWith gH F O)),(bp (aS nH F O))]) 10 U U ?_
  try dsimp only
  obtain ⟨AD,BH,BJ,BK⟩:=Bi
  dsimp only at AD BH BJ BK
  refine RK Ax<|ak fun _ v=>WS fun _ w=>rP 1 [] I ?_
  refine cX (Hs (ld l kA kC cA cC bA bC) (mo r sgA sgC) (cO l l.ag.length) (eg l r.aj r.aj.length) a c fb (some ⟨B,0,none⟩) l.ag.length G F S P R O N H Bv (by exact BN) (by (simp; omega)) (by exact ep.symm) (by exact AD) asm) (ay (al (n:=(cO l l.ag.length).length) 14 U sm)<|ay (al (n:=(eg l r.aj r.aj.length).length) 15 U (by rw [List.length_zipWith]; omega))<|ay (dR 17 U wF)<|ay (al (n:=G.length) 1 U (by rw [List.length_zipWith]; omega))<|ay (dR 2 U wF)<|ay (al (n:=F.length) 3 U (by rw [List.length_zipWith]; omega))<|ay (dR 4 U wF)<|fK 0 U U<|aK) U fun BQ Bn=>?_
  obtain ⟨Bp,Bq⟩:=BQ
  try dsimp only
  refine rP 2 [] I ?_
  refine RK w<|bS U (aP fun W=>?_) (aQ fun W=>?_)
  ·refine WK v<|WS fun _ AA=>rP 3 [] I ?_
   refine RK AA<|ar ?_
   refine LX hQ (true,0,Bv,a,c,(some ⟨B,0,none⟩),l.ag.length,fb,G,S,P,R,F,O,N,H) [1,15,16,18,2,3,4,5] [] I U (by (show List.all _ _=true; simp only [cond_true,fI,List.all_nil,JN,Tb,Bool.and_true]; rfl)) U U ?_
   exact ⟨fun _=>⟨lD C j (by first|rfl|exact K) (fun q=>W (congrArg (fun z:List Int=>(z.length:Int)) q)),AD,BH,BJ,BK,dso⟩,Nh⟩
  refine WS fun _ y=>rP 2 [] I ?_
  refine RK y<|ar<|LX hQ (false,8,0,none,0,none,0,[],[],[],none,0,[],[],none,0) [] [] I U (by rfl) U U ?_
  exact rf<|pO (o6 (me:=me) C j (by first|rfl|exact K) (show jx (ct l r)=[] from jz (Int.natCast_eq_zero.1 W)))
 refine WK Ad<|ak fun _ Bu=>ax<|WS fun _ Ae=>rP 1 [] I ?_
 obtain ⟨x,hx⟩:=aM r.aj i om
 have Bm:=bQ aO.cells hx
 refine rS (IA i U (aB 6 U) zX dc om om)<|rS (ov i 0 (aO.cells x) U cm (aB 6 U) Bm U dc U U)<|AL U F1 fun By=>bg 1 U<|fW U xU U<|RK Ae<|ak fun _ p=>WS fun _ L=>rP 6 [0,1] (mc 2 U (mc 0 U I)) ?_
 refine cZ (xs:=[.tmp 95]) (cs:=[(vI x.gl)]) U cJ jd U U U U (by simp [Value.cells]) U U fun BU=>?_
 refine rS (CL (d_.eq (iM 0 ((l.ag.length:Int)-1) ([x.gl]) (some ⟨BU,0,none⟩) 1 (by (simp; done))) cU) (ay (a_ 0 U U (by simp [bK]) U)<|aK) U) ?_
 refine rP 2 [] I ?_
 refine cw (t:=99) U (br fun Bb=>?_) (bq fun Bb=>?_)
 ·refine bg 27 U<|RK L<|aR U<|WS fun _ Af=>rP 2 [] I ?_
  refine RK Af<|ar<|LX hQ (false,51,0,none,0,none,0,[],[],[],none,0,[],[],none,0) [] [] I U (by rfl) U U ?_
  exact rf<|pO (jc (me:=me) C (vK hx (by unfold j2 kT; omega)))
 refine rP 2 [] (mc 1 U I) ?_
 refine cZ (xs:=[.tmp 101]) (cs:=[(vI x.Read)]) U cJ jd U U U U (by simp [Value.cells]) U U fun BV=>?_
 refine rS (CL (d_.eq (iM 0 86400000 ([x.Read]) (some ⟨BV,0,none⟩) 1 (by (simp; done))) cU) (ay (a_ 0 U U (by simp [bK]) U)<|aK) U) ?_
 refine rP 3 [] I ?_
 refine cw (t:=106) U (br fun AF=>?_) (bq fun AF=>?_)
 ·refine bg 20 U<|RK L<|aR U<|WS fun _ Ag=>rP 2 [] I ?_
  refine RK Ag<|ar<|LX hQ (false,51,0,none,0,none,0,[],[],[],none,0,[],[],none,0) [] [] I U (by rfl) U U ?_
  exact rf<|pO (jc (me:=me) C (vK hx (by unfold j2 kT; omega)))
 refine rP 7 [0,1] (mc 2 U (mc 15 U I)) ?_
 refine cw (t:=113) U (aQ fun AH=>?_) (aP fun AH=>?_)
 ·refine bg 13 U<|RK L<|aR U<|WS fun _ Ah=>rP 2 [] I ?_
  refine RK Ah<|ar<|LX hQ (false,51,0,none,0,none,0,[],[],[],none,0,[],[],none,0) [] [] I U (by rfl) U U ?_
  exact rf<|pO (jc (me:=me) C (vK hx (by unfold j2 kT; omega)))
 refine rP 6 [0,1] (mc 2 U (mc 15 U I)) ?_
 refine cf (t:=119) U (aP fun AI=>?_) (aQ fun AI=>?_)
 ·refine bg 7 U<|RK L<|aX U<|WK p<|ak fun _ u=>WS fun _ Al=>fF 2 [0,1] (mc 4 U (mc 2 U I)) U<|rS (CL (Kq l kA kC az cA cC bA bC x hin asm om) (bh [5,6,7,8]) U)<|AL U di fun B0=>fW U cv U<|RK Al<|WS fun _ Am=>rP 5 [] (mc 0 U I) ?_
  refine RK Am<|bS U (aP fun D=>?_) (aQ fun D=>?_)
  ·refine WK u<|an<|rP 1 [] (mc 3 U I) ?_
   refine jl (vs:=(aO.cells x)) (cs':=(aO.cells x)) (C':=[_,_,_,_,_,_,_,_,_,_,_,_,_,_,_,_,(b_ V 131 (aO.cells x)),_]) 16 U U U xU U U U U U U U<|aF<|aH<|KK Bu ?_
   have BD:(aO.cells x)=(aO.cells (my r.aj (i+1))):=by rw [pn hx]
   rw [BD]
   refine an<|rP 2 [] I ?_
   refine aF ?_
   rw [show (eg l r.aj i)=(eg l r.aj (i+1)) from (xY hx D).symm]
   have BE:(vI (((i+1):Nat):Int))=(vI ((i:Int)+1)):=by exact cI om
   refine aT (T ⟨(i+1),⟨om,lL A hx (by unfold j2 kT; omega)⟩⟩ _ _ _ U os (cP 9<|bo U BE<|dy.nil _) (aL [4,5,6,7,8,9,10,11,12,13,14,15,16,17]))
  obtain ⟨mb,Z⟩:=aM (eg l r.aj i) ((x.gl).toNat) om
  obtain ⟨ga,M⟩:=aM fb ((x.gl).toNat) om
  refine F6 17 Z M U U U ?_
  try dsimp only
  refine dh cu 10 kr<|kX 1 U<|dS (SX (bO U U) U U)<|dP 4 [0,1] (mc 16 U (mc 5 U I)) ?_
  have BG:(List.map oC (eB fb l.ag.length))[(x.gl).toNat]? =some (oC (some ga)):=rl (ow M)
  refine dS (IA ((x.gl).toNat) U (al (n:=l.ag.length) 17 U sq) E_ dc om om) ?_
  refine dS (gh ((x.gl).toNat) 0 (Value.map (some ga)) U cm (al (n:=(eB fb l.ag.length).length) 17 U sm) BG U dc U)<|lJ 2 [] (mc 2 U I) U<|cK<|iU (kV:=iV) (x:=(i:Int)) (C':=[(hO iV ga (bM dW (eh mb (i:Int) (cL l x)))),_,_,_,_,_,_,_,_,_,_,_,_,_,_,_,_,_,_]) 0 U U U U nJ (dQ oG) U (gJ _ _ _ _).symm U<|RK u<|an<|rP 1 [] (mc 5 U I) ?_
  refine jl (vs:=(aO.cells x)) (cs':=(aO.cells x)) (C':=[_,_,_,_,_,_,_,_,_,_,_,_,_,_,_,_,_,_,(b_ V 131 (aO.cells x))]) 18 U U U xU U U U U U U U<|aF<|aH<|KK Bu ?_
  have BB:(aO.cells x)=(aO.cells (my r.aj (i+1))):=by rw [pn hx]
  rw [BB]
  refine an<|rP 2 [] I ?_
  refine aF ?_
  refine Lu (f:=q_) (ms:=(eg l r.aj i)) (m:=(eh mb (i:Int) (cL l x))) 1 0 (by rw [ji]; omega) M U U U ?_
  rw [yT hx om D Z]
  have BC:(vI (((i+1):Nat):Int))=(vI ((i:Int)+1)):=by exact cI om
  refine aT (T ⟨(i+1),⟨om,lL A hx (by unfold j2 kT; omega)⟩⟩ _ _ _ U os (cP 9<|bo U BC<|dy.nil _) (aL [5,6,7,8,9,10,11,12,13,14,15,16,17,0]))
 refine rP 7 [0,1] (mc 2 U (mc 15 U I)) ?_
 refine RK L<|cE U (aQ fun AK=>?_) (aP fun AK=>?_)
 ·refine WS fun _ Ai=>rP 2 [] I ?_
  refine RK Ai<|ar<|LX hQ (false,51,0,none,0,none,0,[],[],[],none,0,[],[],none,0) [] [] I U (by rfl) U U ?_
  exact rf<|pO (jc (me:=me) C (vK hx (by unfold j2 kT; omega)))
 refine WK p<|ak fun _ s=>WS fun _ Aj=>fF 2 [0,1] (mc 4 U (mc 2 U I)) U<|rS (CL (Kq l kA kC az cA cC bA bC x hin asm om) (bh [5,6,7,8]) U)<|AL U di fun Bz=>fW U cv U<|RK Aj<|WS fun _ Ak=>rP 5 [] (mc 0 U I) ?_
 refine RK Ak<|bS U (aP fun D=>?_) (aQ fun D=>?_)
 ·refine WK s<|an<|rP 1 [] (mc 3 U I) ?_
  refine jl (vs:=(aO.cells x)) (cs':=(aO.cells x)) (C':=[_,_,_,_,_,_,_,_,_,_,_,_,_,_,_,_,(b_ V 131 (aO.cells x)),_]) 16 U U U xU U U U U U U U<|aF<|aH<|KK Bu ?_
  have A_:(aO.cells x)=(aO.cells (my r.aj (i+1))):=by rw [pn hx]
  rw [A_]
  refine an<|rP 2 [] I ?_
  refine aF ?_
  rw [show (eg l r.aj i)=(eg l r.aj (i+1)) from (xY hx D).symm]
  have BA:(vI (((i+1):Nat):Int))=(vI ((i:Int)+1)):=by exact cI om
  refine aT (T ⟨(i+1),⟨om,lL A hx (by unfold j2 kT; omega)⟩⟩ _ _ _ U os (cP 9<|bo U BA<|dy.nil _) (aL [4,5,6,7,8,9,10,11,12,13,14,15,16,17]))
 obtain ⟨mb,Z⟩:=aM (eg l r.aj i) ((x.gl).toNat) om
 obtain ⟨ga,M⟩:=aM fb ((x.gl).toNat) om
 refine F6 17 Z M U U U ?_
 try dsimp only
 refine dh cu 10 kr<|kX 1 U<|dS (SX (bO U U) U U)<|dP 4 [0,1] (mc 16 U (mc 5 U I)) ?_
 have BF:(List.map oC (eB fb l.ag.length))[(x.gl).toNat]? =some (oC (some ga)):=rl (ow M)
 refine dS (IA ((x.gl).toNat) U (al (n:=l.ag.length) 17 U sq) E_ dc om om) ?_
 refine dS (gh ((x.gl).toNat) 0 (Value.map (some ga)) U cm (al (n:=(eB fb l.ag.length).length) 17 U sm) BF U dc U)<|lJ 2 [] (mc 2 U I) U<|cK<|iU (kV:=iV) (x:=(i:Int)) (C':=[(hO iV ga (bM dW (eh mb (i:Int) (cL l x)))),_,_,_,_,_,_,_,_,_,_,_,_,_,_,_,_,_,_]) 0 U U U U nJ (dQ oG) U (gJ _ _ _ _).symm U<|RK s<|an<|rP 1 [] (mc 5 U I) ?_
 refine jl (vs:=(aO.cells x)) (cs':=(aO.cells x)) (C':=[_,_,_,_,_,_,_,_,_,_,_,_,_,_,_,_,_,_,(b_ V 131 (aO.cells x))]) 18 U U U xU U U U U U U U<|aF<|aH<|KK Bu ?_
 have A8:(aO.cells x)=(aO.cells (my r.aj (i+1))):=by rw [pn hx]
 rw [A8]
 refine an<|rP 2 [] I ?_
 refine aF ?_
 refine Lu (f:=q_) (ms:=(eg l r.aj i)) (m:=(eh mb (i:Int) (cL l x))) 1 0 (by rw [ji]; omega) M U U U ?_
 rw [yT hx om D Z]
 have A9:(vI (((i+1):Nat):Int))=(vI ((i:Int)+1)):=by exact cI om
 refine aT (T ⟨(i+1),⟨om,lL A hx (by unfold j2 kT; omega)⟩⟩ _ _ _ U os (cP 9<|bo U A9<|dy.nil _) (aL [5,6,7,8,9,10,11,12,13,14,15,16,17,0]))
end
section
open Go.RowKit
theorem K9 (l:bf) (kA:OA) (kC:Nat) (az:List RA) (cA:OA) (cC:Nat) (bA:OA) (bC:Nat) (r:cG) (sgA:OA) (sgC:Nat) (bq_:Int) (hin:eE l az) (hsl:r.aj.length≤1000000):
 d_ Tryz.prog 196 [(vA (bJ.cells (ld l kA kC cA cC bA bC))),(vA (eK.cells (mo r sgA sgC))),(vI bq_)] [(rd kA l.aJ.length 9 (l.aJ.map ao.cells)),(rd cA l.ai.length 2 (List.zipWith au.cells l.ai az)),(fc (aS au.gW l.ai az)),(rd bA l.ag.length 4 (l.ag.map bG.cells)),(rd sgA r.aj.length 2 (r.aj.map aO.cells))] (vT [(vA (aa.cells (e7 l r bq_))),(vI (eV l r bq_))]):=by
 have A2:=hin.si
 have Av:=hin.sh
 have Aq:=hin.nO
 have At:=hin.sf
 have A0:=hin.side
 refine bE kr Tryz.func196 U U fun w0 Q hQ hN=>?_
 try dsimp only
 refine WS fun _ AF=>fU U fun b2=>fU U fun b3=>uA U U fun b4=>AL U di fun b5=>bg 1 U<|RK AF<|WS fun _ p=>rP 2 [0,1] (mc 3 U (mc 2 U I)) ?_
 refine rS (FU U)<|cZ (xs:=[.tmp 17]) (cs:=[(Value.func (.func 198) [].toArray [(vP b2),(vP b4)].toArray)]) U Pe Sg U U U U (by simp [Value.cells]) U U fun b7=>cX (Ni l kA kC az cA cC bA bC r sgA sgC (Value.func (.func 198) [].toArray [(vP b2),(vP b4)].toArray) (fc [(rd kA l.aJ.length 9 (l.aJ.map ao.cells)),(rd cA l.ai.length 2 (List.zipWith au.cells l.ai az)),(fc (aS au.gW l.ai az)),(rd bA l.ag.length 4 (l.ag.map bG.cells)),(b_ b2 28 (bJ.cells (ld l kA kC cA cC bA bC))),(b_ b4 3 [(vI bq_)])]) (jw l bq_) b7 (by exact m8 (fi:=[]) (ca:=[(vP b2),(vP b4)]) (lR (Ds l kA kC az cA cC bA bC b2 bq_ b4 (by first|assumption|omega)) (bh [0,1,2,3,4,5]))) hin hsl) (lz [5,6,7,8,9]<|ay (lV (bh [5,6,7,8,4,2]))<|fK 0 U U<|aK) U fun y8 AW=>?_
 obtain ⟨AX,Al,E,H,AD,g,j,m,B,L,J,K,A,G,d,f⟩:=y8
 cases AX
 ·obtain ⟨AS,he⟩:=AW.2 rfl
  try dsimp only at AS he
  subst AS
  try dsimp only [cond_true,cond_false,List.cons_append,List.nil_append]
  refine bg 5 U<|RK p<|ak fun _ Am=>WS fun _ AO=>rP 2 [] I ?_
  refine RK AO<|bS U (bq fun AN=>?_) (br fun AN=>?_)
  ·exact absurd AN he
  refine WS fun _ AP=>rS (SX (bj (xs:=[]) (cs:=(aa.cells (aa.mk 0 0))) U U (bk gv U)) U U)<|bg 1 U<|tF U cv U<|rP 1 [] I ?_
  refine RK AP<|ar<|lf hQ [0] (mc 1 U I) U ?_
  (have e:=ni (b:=bq_) he; rw [e.1,e.2]<;>rfl)
 obtain ⟨he,D,C,Ab,Aa,Ae⟩:=AW.1 rfl
 try dsimp only [cond_true,cond_false,List.cons_append,List.nil_append]
 dsimp only at D C Ab Aa Ae
 obtain ⟨AZ,AJ,Ad,Ax⟩:=jM he
 obtain ⟨Af,AU⟩:=gK AZ
 have Ac:=AU.head
 unfold gr at Ac
 have Ag:=oI Af AU AJ
 have Az:=AJ.time
 have Ay:=AJ.len
 have AT:(cO l l.ag.length).length=l.ag.length:=ep
 have AV:(eg l r.aj r.aj.length).length=l.ag.length:=ji
 have Aw:B.length=l.ag.length+1:=by have:=D.len; rw [show (ct l r).n=l.ag.length from ep] at this; exact this
 have Au:A.length=l.ag.length+1:=by have:=C.len; rw [show (ct l r).n=l.ag.length from ep] at this; exact this
 obtain ⟨Ar,As⟩:=EJ Ad
 obtain ⟨b,AG⟩: ∃ b:Nat,bq_=(b:Int):=⟨bq_.toNat,om⟩
 rw [AG]
 refine bg 5 U<|RK p<|ak fun _ N=>WS fun _ O=>bg 1 U<|rS (SX (cb (r:= .bool false) U U U lj) U U)<|RK O<|aX U<|WK N<|WS fun _ P=>rS (SX (bj (xs:=[(0,.const (vI 1))]) (cs:=(aa.cells (aa.mk 1 0))) U U (bk gv U)) U U)<|AL U di fun AK=>fW U cv U<|RK P<|WS fun _ R=>fF 1 [] (mc 0 U I) U<|AL U di fun AM=>fW U cv U<|RK R<|ak fun _ T=>WS fun _ AC=>rP 2 [] (mc 12 U I) ?_
 obtain ⟨mf,Y⟩:=aM B b om
 obtain ⟨mb,Z⟩:=aM A (b+1) om
 refine cX (Ju E b) (aK) U fun Ai An=>?_
 obtain ⟨AA,AB⟩:=Ai
 try dsimp only
 refine RK AC<|ax ?_
 refine m0 (L0:=[(3,(vP b2)),(4,(vP b3)),(5,(vP b4)),(6,(vP b5)),(7,(vI 0)),(10,(vP AK)),(11,(vP AM))]) (F:=[(own H AD 3 1 ((cO l l.ag.length).map iC)),(own g j 58 1 (List.zipWith gH (eg l r.aj r.aj.length) m)),(bp (aS q_ (eg l r.aj r.aj.length) m)),(own J K 274 1 (List.zipWith gH B L)),(bp (aS nH B L)),(own d f 274 1 (List.zipWith gH A G)),(bp (aS nH A G)),(b_ E 270 (ck.cells (ck.mk (ld l kA kC cA cC bA bC) (mo r sgA sgC) (aN.mk H ((cO l l.ag.length).length) AD) (aN.mk g ((eg l r.aj r.aj.length).length) j) (aN.mk J B.length K) (aN.mk d A.length f)))),(b_ AA 259 [(vP E)]),(b_ AB 3 [(vI (b:Int))])]) (fun k (y:aa)=>(j9 k y)∧(∀ q∈k,q∈pM (ct l r) b mf mb)) (fun k y=>[(b_ AM 38 (aa.cells y)),(b_ AK 38 (aa.cells (aa.mk 1 0))),(b_ b5 38 (aa.cells (aa.mk 0 0))),(b_ b4 3 [(vI (b:Int))]),(b_ b3 44 (eK.cells (mo r sgA sgC))),(b_ b2 28 (bJ.cells (ld l kA kC cA cC bA bC))),(rd kA l.aJ.length 9 (l.aJ.map ao.cells)).ro,(rd cA l.ai.length 2 (List.zipWith au.cells l.ai az)).ro,(fc (aS au.gW l.ai az)).ro,(rd bA l.ag.length 4 (l.ag.map bG.cells)).ro,(rd sgA r.aj.length 2 (r.aj.map aO.cells)).ro]) (fun _ (_:Unit)=>False) (fun _ _=>[]) [2,3,13,14,15,16,17,18,19,20,21] [5,6,7,8,9,10,11,4,0,1] l0 rfl rfl (Gq (ld l kA kC cA cC bA bC) (mo r sgA sgC) (cO l l.ag.length) (eg l r.aj r.aj.length) H AD m g j B A L J K G d f E b AA AB mf mb (by rw [AT]; omega) (by exact Ag) (by rw [AV]; omega) (by exact D) om (by exact C) om (by show r.aj.length≤1000; omega) (by exact Y) (by exact Z)) rfl rfl rfl (by exact ⟨CI,fun q hq=>by cases hq⟩) (by simp only [List.forall_mem_cons,List.not_mem_nil,false_imp_iff,implies_true,and_true]; exact ⟨⟨_,aV (i:=0) rfl,(jY sm)⟩,⟨_,aV (i:=1) rfl,(jY (by rw [List.length_zipWith]; omega))⟩,⟨_,aV (i:=2) rfl,th⟩,⟨_,aV (i:=3) rfl,(jY (by rw [List.length_zipWith]; omega))⟩,⟨_,aV (i:=4) rfl,th⟩,⟨_,aV (i:=5) rfl,(jY (by rw [List.length_zipWith]; omega))⟩,⟨_,aV (i:=6) rfl,th⟩,⟨_,aV (i:=7) rfl,(bV _)⟩,⟨_,aV (i:=8) rfl,(bV _)⟩,⟨_,aV (i:=9) rfl,(bV _)⟩⟩) (by rintro k x k2 ⟨o,_,rfl,_⟩; rfl) rfl (aU rfl) ?_ ?_ (fun _ _ _ h=>h.elim) (fun _ _ h=>h.elim)
 ·rintro k x k2 h lr ra rb S w1 K41 Qr42 A1 hx AH AQ X Ah Aj
  obtain ⟨q,hq,rfl,rfl⟩:=hx
  obtain ⟨a,c⟩:=AH
  try dsimp only
  refine an<|AL U di fun Ao=>fW U cv U<|aF<|jA (fun _ _ h=>h) (aL [1,0,2,3,4,5,6,7,8,9,10,11,12])<|aT (AQ _ _ ?_)
  refine ax<|ak fun _ s=>WS fun _ AR=>rP 2 [0,1] (mc 2 U (mc 3 U I)) ?_
  refine rS (BI U (Tr _ _ h (aa.mk 1 0)))<|RK AR<|bS U (bq fun M=>?_) (br fun M=>?_)
  ·refine WK s<|an<|rP 1 [] (mc 1 U I) ?_
   refine Hr U cv U<|aF<|aH ?_
   exact X q.2 _ _ (by refine ⟨ze a (mB hq) ?_,fun z hz=>?_⟩; (first|exact if_neg M|exact if_pos M); (rcases List.mem_append.1 hz with hz|hz; exact c z hz; (rw [List.mem_singleton.1 hz]; exact hq))) (aL [0,2,3,4,5,6,7,8,9,10,11,12])
  refine an<|fF 4 [0,1] (mc 1 U (mc 2 U I)) U<|rS (MN U)<|fF 4 [0,1] (mc 1 U (mc 2 U I)) U<|rS (MX U)<|rS (SX (bj (xs:=[(0,.tmp 40),(1,.tmp 45)]) (cs:=(aa.cells (aa.mk (min q.2.Lo h.Lo) (max q.2.Hi h.Hi)))) U U (bk gv U)) U U)<|tF U cv U<|RK s<|an<|rP 1 [] (mc 1 U I) ?_
  refine Hr U cv U<|aF<|aH ?_
  exact X (aa.mk (min q.2.Lo h.Lo) (max q.2.Hi h.Hi)) _ _ (by refine ⟨ze a (mB hq) ?_,fun z hz=>?_⟩; (first|exact if_neg M|exact if_pos M); (rcases List.mem_append.1 hz with hz|hz; exact c z hz; (rw [List.mem_singleton.1 hz]; exact hq))) (aL [0,2,3,4,5,6,7,8,9,10,11,12])
 rintro A4 k h v AI
 obtain ⟨a,c⟩:=AI
 try dsimp only
 refine aH<|KK T<|ak fun _ V=>WS fun _ W=>rP 2 [0,1] (mc 11 U (mc 12 U I)) ?_
 refine rS (BI U (sT _ _ h (aa.mk 1 0)))<|RK W<|bS U (aP fun AE=>?_) (aQ fun AE=>?_)
 ·refine WK V<|WS fun _ u=>fF 1 [] (mc 11 U I) U<|jl (vs:=(aa.cells h)) (cs':=(aa.cells h)) (C':=[_,_,_,_,_,_,_,_,_,_,_,_,_,(b_ b5 38 (aa.cells h)),_,_,_,_,_,_,_,_]) 13 U U U cv U U U U U U U<|rP 1 [] I ?_
  refine RK u<|ar<|hQ _ _ _ (oe 0 U U<|gU (vs:=[(vA (aa.cells h)),(vI 0)]) ⟨⟨_,U,.inl ⟨_,_,cm,pz (vs:=(aa.cells h)) 13 U U,U,U⟩⟩,U,trivial⟩ fun w hs=>EA ?_ hs)
  show (vT [(vA (aa.cells h)),(vI 0)])=(vT [(vA (aa.cells (e7 l r bq_))),(vI (eV l r bq_))])
  clear hs w hQ hN u W V AC T R P O N p AF
  (rw [AG] at he ⊢; have hh:h=mj l r b:=yX (D.min _ _ Y) (C.max _ _ Z) (D.keys _ _ Y) (C.keys _ _ Z) c v a; (have e:=n8 he (fun q=>AE (hh.trans q)); rw [e.1,e.2,hh]<;>rfl))
 refine WS fun _ t=>rS (SX (bj (xs:=[]) (cs:=(aa.cells (aa.mk 0 0))) U U (bk gv U)) U U)<|jl (vs:=(aa.cells (aa.mk 0 0))) (cs':=(aa.cells (aa.mk 0 0))) (C':=[_,_,_,_,_,_,_,_,_,_,_,_,_,(b_ b5 38 (aa.cells (aa.mk 0 0))),_,_,_,_,_,_,_,_]) 13 U U U cv U U U U U U U<|rP 1 [] I ?_
 refine RK t<|ar<|hQ _ _ _ (oe 0 U U<|gU (vs:=[(vA (aa.cells (aa.mk 0 0))),(vI 6)]) ⟨⟨_,U,.inl ⟨_,_,cm,pz (vs:=(aa.cells (aa.mk 0 0))) 13 U U,U,U⟩⟩,U,trivial⟩ fun w hs=>EA ?_ hs)
 show (vT [(vA (aa.cells (aa.mk 0 0))),(vI 6)])=(vT [(vA (aa.cells (e7 l r bq_))),(vI (eV l r bq_))])
 clear hs w hQ hN t W V AC T R P O N p AF
 (rw [AG] at he ⊢; have hh:h=mj l r b:=yX (D.min _ _ Y) (C.max _ _ Z) (D.keys _ _ Y) (C.keys _ _ Z) c v a; (have e:=qB he (hh.symm.trans AE); rw [e.1,e.2]<;>rfl))
theorem RS (l:bf) (kA:OA) (kC:Nat) (az:List RA) (cA:OA) (cC:Nat) (bA:OA) (bC:Nat) (r:cG) (sgA:OA) (sgC:Nat) (hin:eE l az) (hsl:r.aj.length≤1000000):
 d_ Tryz.prog 195 [(vA (bJ.cells (ld l kA kC cA cC bA bC))),(vA (eK.cells (mo r sgA sgC)))] [(rd kA l.aJ.length 9 (l.aJ.map ao.cells)),(rd cA l.ai.length 2 (List.zipWith au.cells l.ai az)),(fc (aS au.gW l.ai az)),(rd bA l.ag.length 4 (l.ag.map bG.cells)),(rd sgA r.aj.length 2 (r.aj.map aO.cells))] (vT [(vA (aa.cells (Aw l r))),(vI (eV l r l.bI))]):=by
 have N:=hin.si
 have J:=hin.sh
 have H:=hin.nO
 have AA:=hin.sf
 have M:=hin.side
 refine bE kr Tryz.func195 U U fun T Q hQ hN=>?_
 try dsimp only
 refine WS fun _ C=>fU U fun O=>fU U fun P=>AL U di fun R=>bg 1 U<|RK C<|WS fun _ D=>fF 4 [0,1] (mc 2 U (mc 1 U I)) U<|rS (CL (K9 l kA kC az cA cC bA bC r sgA sgC l.bI hin hsl) (bh [3,4,5,6,7]) U)<|bg 3 U<|AL U di fun S=>fW U cv U<|bg 1 U<|RK D<|ak fun _ E=>WS fun _ F=>rP 2 [] I ?_
 refine RK F<|cE U (br fun A=>?_) (bq fun A=>?_)
 ·refine WS fun _ G=>rS (SX (bj (xs:=[]) (cs:=(aa.cells (aa.mk 0 0))) U U (bk gv U)) U U)<|bg 1 U<|tF U cv U<|rP 1 [] I ?_
  refine RK G<|ar<|lf hQ [0] (mc 1 U I) U ?_
  (rw [Er A]<;>rfl)
 refine WK E<|WS fun _ B=>rP 4 [0,1] (mc 0 U (mc 2 U I)) ?_
 have K:=wV A
 have L:=(uT A).time
 refine fF 6 [0,1] (mc 0 U (mc 2 U I)) U<|rS (SX (bj (xs:=[(0,.tmp 24),(1,.tmp 29)]) (cs:=(aa.cells (aa.mk (((e7 l r l.bI).Lo)-r.Start) (((e7 l r l.bI).Hi)-r.Start)))) U U (bk gv U)) U U)<|tF U cv U<|rP 1 [] I ?_
 refine RK B<|ar<|lf hQ [0] (mc 1 U I) U ?_
 (rw [AK A,A]<;>rfl)
end
section
open Go.RowKit
theorem M7 (l:bf) (kA:OA) (kC:Nat) (az:List RA) (cA:OA) (cC:Nat) (bA:OA) (bC:Nat) (d:aw) (sgA:OA) (sgC:Nat) (hin:eE l az):
 d_ Tryz.prog 189 [(vA (bJ.cells (ld l kA kC cA cC bA bC))),(vA (bw.cells (bw.mk d.Out d.eO d.Time (mo d.cz sgA sgC))))] [(rd kA l.aJ.length 9 (l.aJ.map ao.cells)),(rd cA l.ai.length 2 (List.zipWith au.cells l.ai az)),(fc (aS au.gW l.ai az)),(rd bA l.ag.length 4 (l.ag.map bG.cells)),(rd sgA d.cz.aj.length 2 (d.cz.aj.map aO.cells))] (vT [(vA (aa.cells d.Time)),(vB (decide (d.eO=false∧d.Time=dA∧l9 d.cz)))]):=by
 refine bE kr Tryz.func189 U U fun K Q hQ hN=>?_
 try dsimp only
 refine WS fun _ B=>fU U fun H=>fU U fun AA=>AL U di fun J=>rP 1 [] I ?_
 refine RK B<|ak fun _ A=>dL cu [15] [] [] [1,2,3,4,5,6,7] [] U U U U U<|eS U (FA 2 U fB U)<|eS U (LP (aa.cells d.Time) 0 U cm U U U)<|eS U (FA 1 U fB U)<|eS U (L1 (vB d.eO) 0 U cm U U)<|eS U (NT U)<|eS U (MV U)<|qM (t:=11) U (fun G=>?_) (fun G=>?_)
 rotate_left 1
 ·rw [Bool.not_eq_false'] at G
  refine eS U (OX U)<|eS U (OX U)<|eS U (OX U)<|eS U (OX U)<|eS U (PK U)<|eS U (MV U)<|eS U (OX U)<|eS U (OX U)<|eS U (PK U)<|eS U (AG U)<|e9 U<|cq U fun T10 C=>fW U cv U<|aF (C _ _ (aL [1,2,3,4,5,6,7]) ?_)
  refine fO U<|KK A<|ar<|lf hQ [0] (mc 0 U I) U ?_
  clear hQ hN C T10 A B
  refine congrArg (fun z=>Value.tuple #[_,vB z]) ?_
  first|rfl|(simp_all [dA]; done)
 rw [Bool.not_eq_true'] at G
 refine eS U (FA 2 U fB U)<|eS U (LP (aa.cells d.Time) 0 U cm U U U)<|eS U (SX (bj (xs:=[]) (cs:=(aa.cells (aa.mk 0 0))) U U (bk gv U)) U U)<|eS U (BI U (sT _ _ d.Time (aa.mk 0 0)))<|eS U (PK U)<|eS U (MV U)<|qM (t:=17) U (fun D=>?_) (fun D=>?_)
 rotate_left 1
 ·replace D:=DF D
  refine eS U (OX U)<|eS U (OX U)<|eS U (PK U)<|eS U (AG U)<|e9 U<|cq U fun T9 F=>fW U cv U<|aF (F _ _ (aL [1,2,3,4,5,6,7]) ?_)
  refine fO U<|KK A<|ar<|lf hQ [0] (mc 0 U I) U ?_
  clear hQ hN F T9 A B
  refine congrArg (fun z=>Value.tuple #[_,vB z]) ?_
  first|rfl|(simp_all [dA]; done)
 replace D:=DT D
 refine eS U (LW 0 U cm U U)<|eS U (CL (H6 d sgA sgC) (bh [6]) U)<|eS U (PK U)<|eS U (AG U)<|e9 U<|cq U fun T8 E=>fW U cv U<|aF (E _ _ (aL [1,2,3,4,5,6,7]) ?_)
 refine fO U<|KK A<|ar<|lf hQ [0] (mc 0 U I) U ?_
 clear hQ hN E T8 A B
 refine congrArg (fun z=>Value.tuple #[_,vB z]) ?_
 first|rfl|(simp_all [dA]; done)
theorem Mt (l:bf) (kA:OA) (kC:Nat) (az:List RA) (cA:OA) (cC:Nat) (bA:OA) (bC:Nat) (d:aw) (sgA:OA) (sgC:Nat) (hin:eE l az):
 d_ Tryz.prog 192 [(vA (bJ.cells (ld l kA kC cA cC bA bC))),(vA (bw.cells (bw.mk d.Out d.eO d.Time (mo d.cz sgA sgC))))] [(rd kA l.aJ.length 9 (l.aJ.map ao.cells)),(rd cA l.ai.length 2 (List.zipWith au.cells l.ai az)),(fc (aS au.gW l.ai az)),(rd bA l.ag.length 4 (l.ag.map bG.cells)),(rd sgA d.cz.aj.length 2 (d.cz.aj.map aO.cells))] (vT [(vA (aa.cells d.Time)),(vB (decide (iI d.Time∧l9 d.cz)))]):=by
 refine bE kr Tryz.func192 U U fun AA Q hQ hN=>?_
 try dsimp only
 refine WS fun _ B=>fU U fun F=>fU U fun G=>AL U di fun H=>rP 1 [] I ?_
 refine RK B<|ak fun _ A=>dL cu [9] [] [] [1,2,3,4,5,6,7] [] U U U U U<|eS U (FA 2 U fB U)<|eS U (LP (aa.cells d.Time) 0 U cm U U U)<|eS U (FA 2 U fB U)<|eS U (LP (aa.cells d.Time) 0 U cm U U U)<|eS U (CL (FL d.Time) (aK) U)<|eS U (MV U)<|qM (t:=11) U (fun C=>?_) (fun C=>?_)
 rotate_left 1
 ·replace C:=DF C
  refine eS U (OX U)<|eS U (OX U)<|eS U (PK U)<|eS U (AG U)<|e9 U<|cq U fun T8 E=>fW U cv U<|aF (E _ _ (aL [1,2,3,4,5,6,7]) ?_)
  refine fO U<|KK A<|ar<|lf hQ [0] (mc 0 U I) U ?_
  clear hQ hN E T8 A B
  refine congrArg (fun z=>Value.tuple #[_,vB z]) ?_
  first|rfl|(simp_all; done)
 replace C:=DT C
 refine eS U (LW 0 U cm U U)<|eS U (CL (H6 d sgA sgC) (bh [6]) U)<|eS U (PK U)<|eS U (AG U)<|e9 U<|cq U fun T7 D=>fW U cv U<|aF (D _ _ (aL [1,2,3,4,5,6,7]) ?_)
 refine fO U<|KK A<|ar<|lf hQ [0] (mc 0 U I) U ?_
 clear hQ hN D T7 A B
 refine congrArg (fun z=>Value.tuple #[_,vB z]) ?_
 first|rfl|(simp_all; done)
theorem Nq (l:bf) (kA:OA) (kC:Nat) (az:List RA) (cA:OA) (cC:Nat) (bA:OA) (bC:Nat) (d:aw) (sgA:OA) (sgC:Nat) (hin:eE l az) (hsl:d.cz.aj.length≤1000000):
 d_ Tryz.prog 194 [(vA (bJ.cells (ld l kA kC cA cC bA bC))),(vA (bw.cells (bw.mk d.Out d.eO d.Time (mo d.cz sgA sgC))))] [(rd kA l.aJ.length 9 (l.aJ.map ao.cells)),(rd cA l.ai.length 2 (List.zipWith au.cells l.ai az)),(fc (aS au.gW l.ai az)),(rd bA l.ag.length 4 (l.ag.map bG.cells)),(rd sgA d.cz.aj.length 2 (d.cz.aj.map aO.cells))] (vT [(vA (aa.cells (Aw l d.cz))),(vB (decide (eV l d.cz l.bI=0∧d.Time=dA)))]):=by
 have K:=hin.si
 have AA:=hin.sh
 have G:=hin.nO
 have H:=hin.sf
 have J:=hin.side
 refine bE kr Tryz.func194 U U fun P Q hQ hN=>?_
 try dsimp only
 refine WS fun _ C=>fU U fun L=>fU U fun M=>AL U di fun N=>bg 1 U<|RK C<|WS fun _ D=>fF 2 [] (mc 2 U I) U<|rS (LP (eK.cells (mo d.cz sgA sgC)) 1 U cm U U U)<|rS (CL (RS l kA kC az cA cC bA bC d.cz sgA sgC hin hsl) (bh [3,4,5,6,7]) U)<|bg 3 U<|AL U di fun O=>fW U cv U<|rP 1 [] I ?_
 refine RK D<|ak fun _ A=>dL cu [9] [] [] [0,2,3,4,5,6,7,8] [] U U U U U<|eS U (LW 0 U cm U U)<|eS U (MV U)<|eS U (BI U l8)<|eS U (MV U)<|qM (t:=18) U (fun E=>?_) (fun E=>?_)
 rotate_left 1
 ·replace E:=DF E
  refine eS U (OX U)<|eS U (OX U)<|eS U (OX U)<|eS U (OX U)<|eS U (PK U)<|eS U (AG U)<|e9 U<|cq U fun T10 B=>tF U cv U<|aF (B _ _ (aL [0,2,3,4,5,6,7,8]) ?_)
  refine fO U<|KK A<|ar<|lf hQ [0] (mc 1 U I) U ?_
  clear hQ hN B T10 A D C
  refine congrArg (fun z=>Value.tuple #[_,vB z]) ?_
  first|rfl|(simp_all [dA]; done)
 replace E:=DT E
 refine eS U (FA 2 U fB U)<|eS U (LP (aa.cells d.Time) 1 U cm U U U)<|eS U (SX (bj (xs:=[]) (cs:=(aa.cells (aa.mk 0 0))) U U (bk gv U)) U U)<|eS U (BI U (sT _ _ d.Time (aa.mk 0 0)))<|eS U (PK U)<|eS U (AG U)<|e9 U<|cq U fun T9 F=>tF U cv U<|aF (F _ _ (aL [0,2,3,4,5,6,7,8]) ?_)
 refine fO U<|KK A<|ar<|lf hQ [0] (mc 1 U I) U ?_
 clear hQ hN F T9 A D C
 refine congrArg (fun z=>Value.tuple #[_,vB z]) ?_
 first|rfl|(simp_all [dA]; done)
theorem Hd (d:aw) (sgA:OA) (sgC g1:Nat):
 d_ Tryz.prog 78 [(vA (mz.cells (mz.mk (Value.func (.func 188) [].toArray [].toArray) (Value.func (.func 189) [].toArray [].toArray)))),(vP g1)] [(rd sgA d.cz.aj.length 2 (d.cz.aj.map aO.cells)),(b_ g1 46 (bw.cells (bw.mk d.Out d.eO d.Time (mo d.cz sgA sgC))))] (vB d.Out):=by
 refine bE kr Tryz.func78 U U fun D Q hQ hN=>?_
 try dsimp only
 refine WS fun _ A=>fU U fun C=>bg 1 U<|RK A<|WS fun _ B=>fF 3 [0,1] (mc 0 U (mr 2 U I)) U<|rS (CL (SO d sgA sgC) (bh [1]) U)<|rP 1 [] I ?_
 refine RK B<|ar<|Q1 hQ U U U ?_
 rfl
theorem Hj (d:aw) (sgA:OA) (sgC g1:Nat):
 d_ Tryz.prog 78 [(vA (mz.cells (mz.mk (Value.func (.func 191) [].toArray [].toArray) (Value.func (.func 192) [].toArray [].toArray)))),(vP g1)] [(rd sgA d.cz.aj.length 2 (d.cz.aj.map aO.cells)),(b_ g1 46 (bw.cells (bw.mk d.Out d.eO d.Time (mo d.cz sgA sgC))))] (vB d.eO):=by
 refine bE kr Tryz.func78 U U fun D Q hQ hN=>?_
 try dsimp only
 refine WS fun _ A=>fU U fun C=>bg 1 U<|RK A<|WS fun _ B=>fF 3 [0,1] (mc 0 U (mr 2 U I)) U<|rS (CL (Re d sgA sgC) (bh [1]) U)<|rP 1 [] I ?_
 refine RK B<|ar<|Q1 hQ U U U ?_
 rfl
theorem G2 (d:aw) (sgA:OA) (sgC g1:Nat):
 d_ Tryz.prog 78 [(vA (mz.cells (mz.mk (Value.func (.func 193) [].toArray [].toArray) (Value.func (.func 194) [].toArray [].toArray)))),(vP g1)] [(rd sgA d.cz.aj.length 2 (d.cz.aj.map aO.cells)),(b_ g1 46 (bw.cells (bw.mk d.Out d.eO d.Time (mo d.cz sgA sgC))))] (vB true):=by
 refine bE kr Tryz.func78 U U fun D Q hQ hN=>?_
 try dsimp only
 refine WS fun _ A=>fU U fun C=>bg 1 U<|RK A<|WS fun _ B=>fF 3 [0,1] (mc 0 U (mr 2 U I)) U<|rS (CL (To d sgA sgC) (bh [1]) U)<|rP 1 [] I ?_
 refine RK B<|ar<|Q1 hQ U U U ?_
 rfl
end
section
open Go.RowKit
theorem wq (d:aw) (sgA:OA) (sgC g1:Nat):
 d_ Tryz.prog 77 [(vS dD 3 3),(Value.func (.func 78) [].toArray [(vP g1)].toArray)] [(rd dD 3 2 dg),(rd sgA d.cz.aj.length 2 (d.cz.aj.map aO.cells)),(b_ g1 46 (bw.cells (bw.mk d.Out d.eO d.Time (mo d.cz sgA sgC))))] (vI (oi d)):=by
 refine bE kr Tryz.func77 U U fun b Q hQ hN=>?_
 try dsimp only
 refine WS fun _ F=>bg 1 U<|RK F<|ak fun _ AA=>WS fun _ G=>bg 3 U<|RK G<|ax<|jO 4<|eu fun R4 Z=>WS fun _ H=>rS (SX (cb (r:= .bool true) U U U gQ) U U)<|RK H<|ak fun _ AB=>aR U<|WK AB<|ak fun _ J=>ax<|WS fun _ K=>bg 2 U<|RK K<|WS fun _ L=>rP 3 [] I ?_
 refine rS (IA 0 U (aB 0 U) H5 dc U om)<|rS (ov 0 0 (mz.cells (mz.mk (Value.func (.func 188) [].toArray [].toArray) (Value.func (.func 189) [].toArray [].toArray))) U cm (aB 0 U) (show dg[0]? =some [(Value.func (.func 188) [].toArray [].toArray),(Value.func (.func 189) [].toArray [].toArray)] from U) U dc U U)<|rS (CL (Hd d sgA sgC g1) (bh [1,2]) U)<|RK L<|cE U (fun X=>?_) (fun X=>?_)
 ·refine WS fun _ M=>rP 2 [] I ?_
  refine RK M<|ar<|Q1 hQ U U U ?_
  clear hQ hN M L K J AB H G AA F
  refine cI ?_
  simp [oi, *]
 refine cj<|aH<|KK J<|an<|rS (SX (cb (r:= .int .i64 1) U U U (ij ⟨dc,dc⟩)) U U)<|bg 1 U<|RK Z<|eu fun R12 W=>WS fun _ A=>rS (SX (cb (r:= .bool true) U U U gQ) U U)<|RK A<|ak fun _ B=>aR U<|WK B<|ak fun _ C=>ax<|WS fun _ D=>bg 2 U<|RK D<|WS fun _ E=>rP 3 [] I ?_
 refine rS (IA 1 U (aB 0 U) H5 dc U om)<|rS (ov 1 0 (mz.cells (mz.mk (Value.func (.func 191) [].toArray [].toArray) (Value.func (.func 192) [].toArray [].toArray))) U cm (aB 0 U) (show dg[1]? =some [(Value.func (.func 191) [].toArray [].toArray),(Value.func (.func 192) [].toArray [].toArray)] from U) U dc U U)<|rS (CL (Hj d sgA sgC g1) (bh [1,2]) U)<|RK E<|cE U (fun Y=>?_) (fun Y=>?_)
 ·refine WS fun _ N=>rP 2 [] I ?_
  refine RK N<|ar<|Q1 hQ U U U ?_
  clear hQ hN N E D C B A L K J AB H G AA F
  refine cI ?_
  simp [oi, *]
 refine cj<|aH<|KK C<|an<|rS (SX (cb (r:= .int .i64 2) U U U (ij ⟨dc,dc⟩)) U U)<|bg 1 U<|RK W<|eu fun R20 a=>WS fun _ O=>rS (SX (cb (r:= .bool true) U U U gQ) U U)<|RK O<|ak fun _ P=>aR U<|WK P<|ak fun _ V=>ax<|WS fun _ R=>bg 2 U<|RK R<|WS fun _ S=>bg 3 U<|rS (IA 2 U (aB 0 U) H5 dc U om)<|rS (ov 2 0 (mz.cells (mz.mk (Value.func (.func 193) [].toArray [].toArray) (Value.func (.func 194) [].toArray [].toArray))) U cm (aB 0 U) (show dg[2]? =some [(Value.func (.func 193) [].toArray [].toArray),(Value.func (.func 194) [].toArray [].toArray)] from U) U dc U U)<|rS (CL (G2 d sgA sgC g1) (bh [1,2]) U)<|RK S<|aR U<|WS fun _ T=>rP 2 [] I ?_
 refine RK T<|ar<|Q1 hQ U U U ?_
 clear hQ hN T S R V P O E D C B A L K J AB H G AA F
 refine cI ?_
 simp [oi, *]
end
section
open Go.RowKit
theorem Sk (d:aw) (sgA:OA) (sgC g1:Nat) (hk:d.Out=true):
 d_ Tryz.prog 77 [(vS dD 3 3),(Value.func (.func 78) [].toArray [(vP g1)].toArray)] [(rd dD 3 2 dg),(rd sgA d.cz.aj.length 2 (d.cz.aj.map aO.cells)),(b_ g1 46 (bw.cells (bw.mk d.Out d.eO d.Time (mo d.cz sgA sgC))))] (vI 0):=by
 have h:=wq d sgA sgC g1
 have e:oi d=0:=by simp [oi,hk]
 rw [e] at h
 exact h
theorem SH (d:aw) (sgA:OA) (sgC g1:Nat) (hk:d.Out=false∧d.eO=true):
 d_ Tryz.prog 77 [(vS dD 3 3),(Value.func (.func 78) [].toArray [(vP g1)].toArray)] [(rd dD 3 2 dg),(rd sgA d.cz.aj.length 2 (d.cz.aj.map aO.cells)),(b_ g1 46 (bw.cells (bw.mk d.Out d.eO d.Time (mo d.cz sgA sgC))))] (vI 1):=by
 have h:=wq d sgA sgC g1
 have e:oi d=1:=by simp [oi,hk]
 rw [e] at h
 exact h
theorem SY (d:aw) (sgA:OA) (sgC g1:Nat) (hk:d.Out=false∧d.eO=false):
 d_ Tryz.prog 77 [(vS dD 3 3),(Value.func (.func 78) [].toArray [(vP g1)].toArray)] [(rd dD 3 2 dg),(rd sgA d.cz.aj.length 2 (d.cz.aj.map aO.cells)),(b_ g1 46 (bw.cells (bw.mk d.Out d.eO d.Time (mo d.cz sgA sgC))))] (vI 2):=by
 have h:=wq d sgA sgC g1
 have e:oi d=2:=by simp [oi,hk]
 rw [e] at h
 exact h
theorem CO (l:bf) (kA:OA) (kC:Nat) (az:List RA) (cA:OA) (cC:Nat) (bA:OA) (bC:Nat) (d:aw) (sgA:OA) (sgC:Nat) (hin:eE l az) (hsl:d.cz.aj.length≤1000000) (hk:d.Out=true):
 d_ Tryz.prog 52 [(vA (bJ.cells (ld l kA kC cA cC bA bC))),(vA (bw.cells (bw.mk d.Out d.eO d.Time (mo d.cz sgA sgC))))] [(rd dD 3 2 dg),(rd kA l.aJ.length 9 (l.aJ.map ao.cells)),(rd cA l.ai.length 2 (List.zipWith au.cells l.ai az)),(fc (aS au.gW l.ai az)),(rd bA l.ag.length 4 (l.ag.map bG.cells)),(rd sgA d.cz.aj.length 2 (d.cz.aj.map aO.cells))] (vT [(vA (aa.cells (dw l d))),(vB (decide (ic l d)))]):=by
 refine bE kr Tryz.func52 U U fun AA Q hQ hN=>?_
 try dsimp only
 refine WS fun _ A=>fU U fun G=>fU U fun D=>AL U di fun H=>bg 1 U<|RK A<|WS fun _ B=>rS (SX (EL U U yV) U U)<|rS (FU U)<|rS (CL (Sk d sgA sgC D hk) (MD 3 8 1 U U U U U U) U)<|bg 1 U<|RK B<|ak fun _ C=>dh cu 9 kr<|kX 1 U<|dS (SX (Eh (k:=0) U U U yV U om) U U)<|dS (mK ((0*2)+1) U (aB 3 U) (Nat.mul_pos om dc) fB U)<|dS (gh 0 1 (Value.func (.func 189) [].toArray [].toArray) U cm (aB 3 U) (show dg[0]? =some [(Value.func (.func 188) [].toArray [].toArray),(Value.func (.func 189) [].toArray [].toArray)] from U) U dc U)<|lJ 2 [0,1] (mc 2 U (mc 1 U I)) U<|dS (CL (M7 l kA kC az cA cC bA bC d sgA sgC hin) (bh [4,5,6,7,8]) U)<|kX 2 U<|cK<|fW U cv U<|rP 1 [] I ?_
 refine RK C<|ar<|lf hQ [0] (mc 0 U I) U ?_
 have E:=FD (l:=l) hk
 have F:=pW (l:=l) hk
 simp only [E,F]
theorem BP (l:bf) (kA:OA) (kC:Nat) (az:List RA) (cA:OA) (cC:Nat) (bA:OA) (bC:Nat) (d:aw) (sgA:OA) (sgC:Nat) (hin:eE l az) (hsl:d.cz.aj.length≤1000000) (hk:d.Out=false∧d.eO=true):
 d_ Tryz.prog 52 [(vA (bJ.cells (ld l kA kC cA cC bA bC))),(vA (bw.cells (bw.mk d.Out d.eO d.Time (mo d.cz sgA sgC))))] [(rd dD 3 2 dg),(rd kA l.aJ.length 9 (l.aJ.map ao.cells)),(rd cA l.ai.length 2 (List.zipWith au.cells l.ai az)),(fc (aS au.gW l.ai az)),(rd bA l.ag.length 4 (l.ag.map bG.cells)),(rd sgA d.cz.aj.length 2 (d.cz.aj.map aO.cells))] (vT [(vA (aa.cells (dw l d))),(vB (decide (ic l d)))]):=by
 refine bE kr Tryz.func52 U U fun AA Q hQ hN=>?_
 try dsimp only
 refine WS fun _ A=>fU U fun G=>fU U fun D=>AL U di fun H=>bg 1 U<|RK A<|WS fun _ B=>rS (SX (EL U U yV) U U)<|rS (FU U)<|rS (CL (SH d sgA sgC D hk) (MD 3 8 1 U U U U U U) U)<|bg 1 U<|RK B<|ak fun _ C=>dh cu 9 kr<|kX 1 U<|dS (SX (Eh (k:=1) U U U yV U om) U U)<|dS (mK ((1*2)+1) U (aB 3 U) (Nat.mul_pos om dc) fB U)<|dS (gh 1 1 (Value.func (.func 192) [].toArray [].toArray) U cm (aB 3 U) (show dg[1]? =some [(Value.func (.func 191) [].toArray [].toArray),(Value.func (.func 192) [].toArray [].toArray)] from U) U dc U)<|lJ 2 [0,1] (mc 2 U (mc 1 U I)) U<|dS (CL (Mt l kA kC az cA cC bA bC d sgA sgC hin) (bh [4,5,6,7,8]) U)<|kX 2 U<|cK<|fW U cv U<|rP 1 [] I ?_
 refine RK C<|ar<|lf hQ [0] (mc 0 U I) U ?_
 have E:=AH (l:=l) hk
 have F:=sQ (l:=l) hk
 simp only [E,F]
theorem Bb (l:bf) (kA:OA) (kC:Nat) (az:List RA) (cA:OA) (cC:Nat) (bA:OA) (bC:Nat) (d:aw) (sgA:OA) (sgC:Nat) (hin:eE l az) (hsl:d.cz.aj.length≤1000000) (hk:d.Out=false∧d.eO=false):
 d_ Tryz.prog 52 [(vA (bJ.cells (ld l kA kC cA cC bA bC))),(vA (bw.cells (bw.mk d.Out d.eO d.Time (mo d.cz sgA sgC))))] [(rd dD 3 2 dg),(rd kA l.aJ.length 9 (l.aJ.map ao.cells)),(rd cA l.ai.length 2 (List.zipWith au.cells l.ai az)),(fc (aS au.gW l.ai az)),(rd bA l.ag.length 4 (l.ag.map bG.cells)),(rd sgA d.cz.aj.length 2 (d.cz.aj.map aO.cells))] (vT [(vA (aa.cells (dw l d))),(vB (decide (ic l d)))]):=by
 refine bE kr Tryz.func52 U U fun AA Q hQ hN=>?_
 try dsimp only
 refine WS fun _ A=>fU U fun G=>fU U fun D=>AL U di fun H=>bg 1 U<|RK A<|WS fun _ B=>rS (SX (EL U U yV) U U)<|rS (FU U)<|rS (CL (SY d sgA sgC D hk) (MD 3 8 1 U U U U U U) U)<|bg 1 U<|RK B<|ak fun _ C=>dh cu 9 kr<|kX 1 U<|dS (SX (Eh (k:=2) U U U yV U om) U U)<|dS (mK ((2*2)+1) U (aB 3 U) (Nat.mul_pos om dc) fB U)<|dS (gh 2 1 (Value.func (.func 194) [].toArray [].toArray) U cm (aB 3 U) (show dg[2]? =some [(Value.func (.func 193) [].toArray [].toArray),(Value.func (.func 194) [].toArray [].toArray)] from U) U dc U)<|lJ 2 [0,1] (mc 2 U (mc 1 U I)) U<|dS (CL (Nq l kA kC az cA cC bA bC d sgA sgC hin hsl) (bh [4,5,6,7,8]) U)<|kX 2 U<|cK<|fW U cv U<|rP 1 [] I ?_
 refine RK C<|ar<|lf hQ [0] (mc 0 U I) U ?_
 have E:=vO (l:=l) hk
 have F:=sK (l:=l) hk
 simp only [E,F]
theorem Et (l:bf) (kA:OA) (kC:Nat) (az:List RA) (cA:OA) (cC:Nat) (bA:OA) (bC:Nat) (d:aw) (sgA:OA) (sgC:Nat) (hin:eE l az) (hsl:d.cz.aj.length≤1000000):
 d_ Tryz.prog 52 [(vA (bJ.cells (ld l kA kC cA cC bA bC))),(vA (bw.cells (bw.mk d.Out d.eO d.Time (mo d.cz sgA sgC))))] [(rd dD 3 2 dg),(rd kA l.aJ.length 9 (l.aJ.map ao.cells)),(rd cA l.ai.length 2 (List.zipWith au.cells l.ai az)),(fc (aS au.gW l.ai az)),(rd bA l.ag.length 4 (l.ag.map bG.cells)),(rd sgA d.cz.aj.length 2 (d.cz.aj.map aO.cells))] (vT [(vA (aa.cells (dw l d))),(vB (decide (ic l d)))]):=by
 by_cases ho:d.Out=true
 ·exact CO l kA kC az cA cC bA bC d sgA sgC hin hsl ho
 by_cases hf:d.eO=true
 ·exact BP l kA kC az cA cC bA bC d sgA sgC hin hsl ⟨by simpa using ho,hf⟩
 ·exact Bb l kA kC az cA cC bA bC d sgA sgC hin hsl ⟨by simpa using ho,by simpa using hf⟩
end
section
open Go.RowKit
theorem Jk (r:cd) (kA:OA) (kC:Nat) (az:List RA) (cA:OA) (cC:Nat) (bA:OA) (bC:Nat) (slA:OA) (slC:Nat) (drA:OA) (drC:Nat) (ha:List cS) (heA:OA) (heC:Nat) (tz:List RA) (tA:OA) (tC:Nat) (ms:Value) (gw h:Nat) (gm g1 g2:Nat) (hin:fy r az ha) (htz:tz.length=r.aq.length) (hh:h<r.aq.length) (hok:jV r (h+1)):
 Da Tryz.prog 79 [(vI (h:Int)),(vP g1),(vP g2)] [(rd kA r.ah.aJ.length 9 (r.ah.aJ.map ao.cells)),(rd cA r.ah.ai.length 2 (List.zipWith au.cells r.ah.ai az)),(fc (aS au.gW r.ah.ai az)),(rd bA r.ah.ag.length 4 (r.ah.ag.map bG.cells)),(rd slA r.aI.length 1 (r.aI.map iC)),(rd drA r.bD.length 1 (r.bD.map iC)),(rd heA r.aq.length 1 (List.zipWith cD r.aq ha)),(fc (aS im r.aq ha)),(rd tA ((cQ r).length) 1 (List.zipWith DA (cQ r) tz)),(fc (aS Mf (cQ r) tz)),(b_ gw 88 (fT.cells (fT.mk (ou r kA kC cA cC bA bC slA slC drA drC heA heC) (aN.mk tA ((cQ r).length) tC) ms))),(b_ g1 80 [(vP gw)]),(b_ g2 58 [(Value.map (some gm))])] (hO iV gm (bM dW (ek r.ah r.aq r.aI.length h 0))) (fun (x:Unit)=>(vT [])) (fun (x:Unit)=>True) (fun (x:Unit)=>(hO iV gm (bM dW (ek r.ah r.aq r.aI.length (h+1) 0)))):=by
 have v:=hin.line
 have AI:=hin.iP
 have AJ:=hin.has
 have AC:=hin.iR
 have AA:=hin.draw
 have AD:=dJ (r:=r)
 refine mw kr Tryz.func79 U U fun w0 Q hQ hN=>?_
 try dsimp only
 refine WS fun _ g=>fF 1 [] (mr 12 U I) U<|rS (SX (bO U U) U U)<|rP 3 [] (mr 11 U I) ?_
 obtain ⟨ht,B⟩:=aM r.aq h om
 obtain ⟨A,C⟩:=aM ha h om
 have Z:(List.zipWith cD r.aq ha)[h]? =some (cD ht A):=dB B C
 have s:=hin.nu _ _ _ B C
 have AB:=s.nO
 have N:=hok h ht om B
 obtain ⟨tr,G⟩:=aM (cQ r) h om
 obtain ⟨tra,F⟩:=aM tz h om
 have c:(List.zipWith DA (cQ r) tz)[h]? =some (DA tr tra):=dB G F
 refine rS (IA h U (aB 9 U) N7 dc om om)<|rS (gh h 0 (vS tra.1 tr.length tra.2) U cm (aB 9 U) c U dc U) ?_
 have AM:=zh B G
 have AF:tr.length=r.aI.length:=by rw [AM,List.length_map]; exact N.1
 have AE:=N.1
 refine rP 2 [] I ?_
 refine RK g<|ax ?_
 have E:(0≤r.aI.length):=by exact Nat.zero_le _
 refine bR (ι:={z:Nat // (z≤r.aI.length)}) [0,1,2,14,15] [1,2,3,4,5,6,7,8,9,10,11,12,13] U U (fun z=>[(16,(vI (z.1:Int)))]) (fun z=>[(hO iV gm (bM dW (ek r.ah r.aq r.aI.length h z.1)))]) (fun _=>rfl) (fun _=>rfl) (fun z=>r.aI.length-z.1) ⟨0,E⟩ (aU U) (aL [1,2,3,4,5,6,7,8,9,10,11,12,13,0]) ?_
 clear E
 rintro ⟨i,u⟩ J2 K
 try dsimp only
 have a:i<r.aI.length→(ek r.ah r.aq r.aI.length h i).lookup (i:Int)=eP r.ah r.aq i h:=LH
 refine WS fun _ k=>rP 1 [] I ?_
 refine RK k<|ak fun _ m=>bS U (aP fun h5=>?_) (aQ fun h5=>?_)
 ·refine bB<|ae<|ae<|aA ?_
  rw [show (ek r.ah r.aq r.aI.length h i)=(ek r.ah r.aq r.aI.length (h+1) 0) from by rw [show i=r.aI.length by omega]; exact Mq]
  refine LM hN () 13 [] I U U U U ?_
  trivial
 refine WK m<|ak fun _ L=>ax<|WS fun _ n=>rP 1 [] I ?_
 obtain ⟨x,hx⟩:=aM tr i om
 have y:=bQ aa.cells hx
 refine rS (IA i U (show iq _ (rd tra.1 tr.length 2 (tr.map aa.cells)).holds from (cT 9 U (bT G F (by simp [Mf])))) jL dc om om)<|rS (ov i 0 (aa.cells x) U cm (show iq _ (rd tra.1 tr.length 2 (tr.map aa.cells)).holds from (cT 9 U (bT G F (by simp [Mf])))) y U dc U U)<|AL U di fun b8=>bg 1 U<|fW U cv U<|RK n<|WS fun _ o=>fF 2 [] (mr 13 U I) U<|rS (SX (kz (kV:=iV) (x:=(i:Int)) (l:=(ek r.ah r.aq r.aI.length h i)) (f:=dW) (z:=(aa.mk 0 0)) U U U nJ (dQ oG) wI (by exact aB 14 U)) U U)<|bg 3 U<|AL U di fun AG=>fW U cv U<|bg 1 U<|RK o<|ak fun _ P=>WS fun _ H=>fF 1 [] (mr 13 U I) U<|rS (SX (bO U U) U U)<|fF 4 [] (mr 12 U I) U<|rS (IA h U (aB 8 U) pk dc om om)<|rS (gh h 0 (vS A.1.1 ht.length A.1.2) U cm (aB 8 U) Z U dc U)<|rP 1 [] I ?_
 obtain ⟨d,hd⟩:=aM ht i om
 obtain ⟨da,p⟩:=aM A.2 i om
 have q:(List.zipWith aw.cells ht A.2)[i]? =some (aw.cells d da):=dB hd p
 refine rS (IA i U (show iq _ (rd A.1.1 ht.length 7 (List.zipWith aw.cells ht A.2)).holds from (cT 9 U (bT B C bZ))) sE dc om om)<|rS (mK (i*7) U (show iq _ (rd A.1.1 ht.length 7 (List.zipWith aw.cells ht A.2)).holds from (cT 9 U (bT B C bZ))) (Nat.mul_pos om dc) fB U)<|rS (gh i 0 (vB d.Out) U cm (show iq _ (rd A.1.1 ht.length 7 (List.zipWith aw.cells ht A.2)).holds from (cT 9 U (bT B C bZ))) q U dc U)<|rP 1 [] I ?_
 refine cw (t:=39) U (fun J=>?_) (fun J=>?_)
 ·refine bg 3 U<|RK H<|aR U<|WS fun _ R=>rP 2 [] (mr 14 U I) ?_
  have T:(cp (ek r.ah r.aq r.aI.length h i) (i:Int))=(ek r.ah r.aq r.aI.length h (i+1)):=by exact EY (by exact Gz B hd J)
  refine pw (kV:=iV) (x:=(i:Int)) (C':=[_,_,_,_,_,_,_,_,_,_,_,_,_,_,_,(hO iV gm (bM dW (ek r.ah r.aq r.aI.length h (i+1))))]) 15 U U U U nJ (dQ oG) U ((lO _ _ _).symm.trans (congrArg _ T)) U<|RK R<|bB<|ae<|aA<|KK L<|an<|rP 2 [] I ?_
  refine aF ?_
  have AH:(vI (((i+1):Nat):Int))=(vI ((i:Int)+1)):=by exact cI om
  refine aT (K ⟨(i+1),(by first|omega|(simp only []; omega))⟩ _ _ _ U os (cP 5<|bo U AH<|dy.nil _) (aL [2,3,4,5,6,7,8,9,10,11,12,13,14,15]))
 refine rP 3 [] I ?_
 refine RK H<|cE U (fun D=>?_) (fun D=>?_)
 ·rw [Bool.not_eq_true'] at D
  refine WS fun _ S=>rP 2 [] (mr 14 U I) ?_
  have V:(cp (ek r.ah r.aq r.aI.length h i) (i:Int))=(ek r.ah r.aq r.aI.length h (i+1)):=by exact EY (by exact DX ((a om).symm.trans (Option.not_isSome_iff_eq_none.1 (by rw [D]; decide))))
  refine pw (kV:=iV) (x:=(i:Int)) (C':=[_,_,_,_,_,_,_,_,_,_,_,_,_,_,_,(hO iV gm (bM dW (ek r.ah r.aq r.aI.length h (i+1))))]) 15 U U U U nJ (dQ oG) U ((lO _ _ _).symm.trans (congrArg _ V)) U<|RK S<|bB<|ae<|aA<|KK L<|an<|rP 2 [] I ?_
  refine aF ?_
  have W:(vI (((i+1):Nat):Int))=(vI ((i:Int)+1)):=by exact cI om
  refine aT (K ⟨(i+1),(by first|omega|(simp only []; omega))⟩ _ _ _ U os (cP 5<|bo U W<|dy.nil _) (aL [2,3,4,5,6,7,8,9,10,11,12,13,14,15]))
 rw [Bool.not_eq_false'] at D
 refine WK P<|an ?_
 obtain ⟨O,b⟩:=Option.isSome_iff_exists.1 D
 have M:eP r.ah r.aq i h=some O:=(a om).symm.trans b
 have e:=IL AM hx hd
 have AK:=Al (fun j x hj hx=>hok j x om hx) om M
 have w:=zQ (N.2 d (aV hd))
 rw [← e] at w
 rw [show ((List.lookup (i:Int) (ek r.ah r.aq r.aI.length h i)).getD (aa.mk 0 0))=O from by rw [b]; rfl]
 refine fF 6 [0,1,2] (mr 14 U (mc 0 U (mc 1 U I))) U<|rS (BI U (nM om om om))<|fF 5 [0,1] (mc 0 U (mc 1 U I)) U<|rS (BI U (nM om om om))<|rP 1 [] I ?_
 refine rS (SX (bj (xs:=[(0,.tmp 52),(1,.tmp 58)]) (cs:=(aa.cells (aa.mk (O.Lo+(x.Lo/10)) (O.Hi+(x.Hi/10))))) U U (bk gv U)) U U) ?_
 have X:(eh (ek r.ah r.aq r.aI.length h i) (i:Int) (aa.mk (O.Lo+(x.Lo/10)) (O.Hi+(x.Hi/10))))=(ek r.ah r.aq r.aI.length h (i+1)):=by exact Nm om (by rw [M]; rfl) (by rw [e]; exact D3 B hd (by rw [J]; decide) M)
 refine iU (kV:=iV) (x:=(i:Int)) (C':=[_,_,_,_,_,_,_,_,_,_,_,_,_,_,_,(hO iV gm (bM dW (ek r.ah r.aq r.aI.length h (i+1))))]) 15 U U U U nJ (dQ oG) U ((gJ _ _ _ _).symm.trans (congrArg _ X)) U<|aF<|aH<|KK L<|an<|rP 2 [] I ?_
 refine aF ?_
 have Y:(vI (((i+1):Nat):Int))=(vI ((i:Int)+1)):=by exact cI om
 refine aT (K ⟨(i+1),(by first|omega|(simp only []; omega))⟩ _ _ _ U os (cP 5<|bo U Y<|dy.nil _) (aL [2,3,4,5,6,7,8,9,10,11,12,13,14,15]))
theorem OP (r:cd) (kA:OA) (kC:Nat) (az:List RA) (cA:OA) (cC:Nat) (bA:OA) (bC:Nat) (slA:OA) (slC:Nat) (drA:OA) (drC:Nat) (ha:List cS) (heA:OA) (heC:Nat) (tz:List RA) (tA:OA) (tC:Nat) (ms:Value) (gw n:Nat) (hin:fy r az ha) (htz:tz.length=r.aq.length) (hn:n≤r.aq.length) (hok:jV r n):
 lq Tryz.prog 53 [(vP gw),(vI (n:Int))] [(rd kA r.ah.aJ.length 9 (r.ah.aJ.map ao.cells)),(rd cA r.ah.ai.length 2 (List.zipWith au.cells r.ah.ai az)),(fc (aS au.gW r.ah.ai az)),(rd bA r.ah.ag.length 4 (r.ah.ag.map bG.cells)),(rd slA r.aI.length 1 (r.aI.map iC)),(rd drA r.bD.length 1 (r.bD.map iC)),(rd heA r.aq.length 1 (List.zipWith cD r.aq ha)),(fc (aS im r.aq ha)),(rd tA ((cQ r).length) 1 (List.zipWith DA (cQ r) tz)),(fc (aS Mf (cQ r) tz)),(b_ gw 88 (fT.cells (fT.mk (ou r kA kC cA cC bA bC slA slC drA drC heA heC) (aN.mk tA ((cQ r).length) tC) ms)))] (fun (x:Nat)=>(Value.map (some x))) (fun (x:Nat)=>True) (fun (x:Nat)=>[(hO iV x (bM dW (eL r n)))]):=by
 have c:=hin.line
 have m:=hin.iP
 have o:=hin.has
 have e:=hin.iR
 have d:=hin.draw
 have f:=dJ (r:=r)
 refine dv kr Tryz.func53 U U fun q Q hQ hN=>?_
 try dsimp only
 refine WS fun _ V=>uA U U fun k=>rP 1 [] I ?_
 refine RK V<|WS fun _ W=>nt (kV:=iV) U U fun B=>?_
 try dsimp only
 refine AL U Sq fun l=>HW U Ms U U<|RK W<|ak fun _ X=>WS fun _ Y=>fF 1 [] (mc 2 U I) U<|rS (SX (bO U U) U U)<|rP 5 [] (mr 13 U I) ?_
 refine RK Y<|ax ?_
 skip
 have A:(0≤r.aI.length):=by exact Nat.zero_le _
 refine bR (ι:={z:Nat // (z≤r.aI.length)}) [1,2,5,15] [0,2,3,4,5,6,7,8,9,10,11,12,13] U U (fun z=>[(16,(vI (z.1:Int)))]) (fun z=>[(hO iV B (bM dW (ek r.ah r.aq z.1 0 0)))]) (fun _=>rfl) (fun _=>rfl) (fun z=>r.aI.length-z.1) ⟨0,A⟩ (aU U) (aL [0,2,3,4,5,6,7,8,9,10,11,12,13,1]) ?_
 clear A
 rintro ⟨i,a⟩ J8 AA
 try dsimp only
 refine WS fun _ Z=>rP 1 [] I ?_
 refine RK Z<|ak fun _ D=>cE U (aQ fun S=>?_) (aP fun S=>?_)
 ·refine WK D<|ak fun _ E=>ax<|WS fun _ F=>bg 2 U<|RK F<|an<|rP 2 [] (mc 0 U I) ?_
  refine rS (SX (bj (xs:=[]) (cs:=(aa.cells (aa.mk 0 0))) U U (bk gv U)) U U) ?_
  have O:(eh (ek r.ah r.aq i 0 0) (i:Int) (aa.mk 0 0))=(ek r.ah r.aq (i+1) 0 0):=by exact Mx
  refine iU (kV:=iV) (x:=(i:Int)) (C':=[_,_,_,_,_,_,_,_,_,_,_,_,_,(hO iV B (bM dW (ek r.ah r.aq (i+1) 0 0)))]) 13 U U U U nJ (dQ oG) U ((gJ _ _ _ _).symm.trans (congrArg _ O)) U<|aF<|aH<|KK E<|an<|rP 2 [] I ?_
  refine aF ?_
  have P:(vI (((i+1):Nat):Int))=(vI ((i:Int)+1)):=by exact cI om
  refine aT (AA ⟨(i+1),(by first|omega|(simp only []; omega))⟩ _ _ _ U os (cP 4<|bo U P<|dy.nil _) (aL [0,1,2,3,4,5,6,7,8,9,10,11,12,13]))
 refine bB<|ae<|ae<|aA<|KK X<|WS fun _ G=>rS (FU U)<|bg 1 U<|RK G<|ak fun _ H=>WS fun _ AB=>rP 2 [] I ?_
 refine RK AB<|ax ?_
 rw [show (ek r.ah r.aq i 0 0)=(ek r.ah r.aq r.aI.length 0 0) from by rw [show i=r.aI.length by omega]]
 have A:(0≤n):=by exact Nat.zero_le _
 refine bR (ι:={z:Nat // (z≤n)}) [2,5,7,24] [0,1,2,3,4,5,6,7,8,9,10,11,12] U U (fun z=>[(25,(vI (z.1:Int)))]) (fun z=>[(hO iV B (bM dW (ek r.ah r.aq r.aI.length z.1 0)))]) (fun _=>rfl) (fun _=>rfl) (fun z=>n-z.1) ⟨0,A⟩ (aU U) (aL [0,1,2,3,4,5,6,7,8,9,10,11,12,13]) ?_
 clear A
 rintro ⟨h,b⟩ J19 C
 try dsimp only
 refine WS fun _ J=>rP 1 [] I ?_
 refine RK J<|ak fun _ K=>bS U (aP fun T=>?_) (aQ fun T=>?_)
 ·refine bB<|ae<|ae<|aA<|KK H<|ak fun _ N=>?_
  rw [show (ek r.ah r.aq r.aI.length h 0)=(eL r n) from by rw [show h=n by omega]; exact MS]
  refine an<|rP 2 [] (mc 0 U I) ?_
  refine RK N<|ar<|LX hQ B [13] [] I U U U U ?_
  trivial
 refine WK K<|ak fun _ L=>ax<|WS fun _ M=>bg 2 U<|RK M<|an<|rP 2 [] I ?_
 refine iN 13 U U U U (Jk r kA kC az cA cC bA bC slA slC drA drC ha heA heC tz tA tC ms gw h B k l hin htz om (by exact fun j x hj hx=>hok j x om hx)) U (ed 2 U U (dC (bV _)) (ed 3 U U (dC (bV _)) (ed 4 U U (dC (bV _)) (ed 5 U U (dC (bV _)) (ed 6 U U (dC (bV _)) (ed 7 U U (dC (bV _)) (ed 8 U U (dC (bV _)) (ed 9 U U (dC (bV _)) (ed 10 U U (dC (bV _)) (ed 11 U U (dC (bV _)) (ed 12 U U (dC (bV _)) (ed 1 U U (bV _) (ed 0 U U (bV _) j8))))))))))))) U (fun p g=>?_)
 try dsimp only
 refine aF<|aH<|KK L<|an<|rP 2 [] I ?_
 refine aF ?_
 have R:(vI (((h+1):Nat):Int))=(vI ((h:Int)+1)):=by exact cI om
 refine aT (C ⟨(h+1),(by first|omega|(simp only []; omega))⟩ _ _ _ U os (cP 4<|bo U R<|dy.nil _) (aL [0,1,2,3,4,5,6,7,8,9,10,11,12,13]))
end
section
open Go.RowKit
theorem n_ (r:cd) (kA:OA) (kC:Nat) (az:List RA) (cA:OA) (cC:Nat) (bA:OA) (bC:Nat) (slA:OA) (slC:Nat) (drA:OA) (drC:Nat) (ha:List cS) (heA:OA) (heC:Nat) (hin:fy r az ha):
 lq Tryz.prog 31 [(vA (bu.cells (ou r kA kC cA cC bA bC slA slC drA drC heA heC)))] [(rd dD 3 2 dg),(rd kA r.ah.aJ.length 9 (r.ah.aJ.map ao.cells)),(rd cA r.ah.ai.length 2 (List.zipWith au.cells r.ah.ai az)),(fc (aS au.gW r.ah.ai az)),(rd bA r.ah.ag.length 4 (r.ah.ag.map bG.cells)),(rd slA r.aI.length 1 (r.aI.map iC)),(rd drA r.bD.length 1 (r.bD.map iC)),(rd heA r.aq.length 1 (List.zipWith cD r.aq ha)),(fc (aS im r.aq ha))] (fun (x:Bool×Int×Nat×Nat×(OA)×Nat×(List RA))=>bif x.1 then (vT [(Value.pointer (some ⟨x.2.2.1,0,none⟩)),(vI 0)]) else (vT [(Value.pointer none),(vI x.2.1)])) (fun (x:Bool×Int×Nat×Nat×(OA)×Nat×(List RA))=>(x.1=true→(bY r=0∧x.2.2.2.2.2.2.length=r.aq.length))∧(x.1=false→(x.2.1=bY r∧ ¬ bY r=0))) (fun (x:Bool×Int×Nat×Nat×(OA)×Nat×(List RA))=>bif x.1 then [(b_ x.2.2.1 88 (fT.cells (fT.mk (ou r kA kC cA cC bA bC slA slC drA drC heA heC) (aN.mk x.2.2.2.2.1 ((cQ r).length) x.2.2.2.2.2.1) (Value.map (some x.2.2.2.1))))),(own x.2.2.2.2.1 x.2.2.2.2.2.1 85 1 (List.zipWith DA (cQ r) x.2.2.2.2.2.2)),(bp (aS C8 (cQ r) x.2.2.2.2.2.2)),(hO iV x.2.2.2.1 (bM dW (aG r)))] else []):=by
 have BA:=hin.line
 have BW:=hin.iP
 have BX:=hin.has
 have BL:=hin.iR
 have BI:=hin.draw
 have Aj:=dJ (r:=r)
 refine dv kr Tryz.func31 U U fun w0 Q hQ hN=>?_
 try dsimp only
 refine WS fun _ A1=>fU U fun b2=>bg 2 U<|RK A1<|ak fun _ A2=>WS fun _ A3=>bg 1 U<|rS (LP (bJ.cells (ld r.ah kA kC cA cC bA bC)) 0 U cm U U U)<|rS (CL (BM r.ah kA kC az cA cC bA bC asm) (bh [2,3,4,5]) U)<|bg 1 U<|RK A3<|WS fun _ A4=>rP 2 [] I ?_
 refine RK A4<|cE U (br fun B=>?_) (bq fun B=>?_)
 ·refine WS fun _ A5=>rP 3 [] I ?_
  refine RK A5<|ar<|LX hQ (false,(dx r.ah),0,0,none,0,[]) [] [] I U (by rfl) U U ?_
  exact rf<|Jj (zm B) B
 refine WK A2<|WS fun _ A6=>fF 4 [] (mc 0 U I) U<|RK A6<|WS fun _ A7=>rP 2 [] (mc 0 U I) ?_
 refine cX (wK drA r.bD.length drC) (aK) U fun An BN=>?_
 try dsimp only
 refine cX (xn r.bD drA drC An asm) (bh [8,0]) U fun BH BO=>?_
 obtain ⟨BQ,BV⟩:=BH
 try dsimp only
 refine bg 1 U<|RK A7<|ak fun _ e=>WS fun _ H=>rP 1 [] I ?_
 refine cZ (xs:=[.tmp 29]) (cs:=[(vI (r.aI.length:Int))]) U cJ jd U U U U (by simp [Value.cells]) U U fun Ao=>?_
 refine rS (CL (d_.eq (jT 1 5 ([(r.aI.length:Int)]) (some ⟨Ao,0,none⟩) 1 (by (simp; done))) cU) (ay (a_ 0 U U (by simp [bK]) U)<|aK) U) ?_
 refine rP 2 [] I ?_
 refine cw (t:=33) U (br fun As=>?_) (bq fun As=>?_)
 ·refine bg 26 U<|RK H<|aR U<|WS fun _ f=>rP 2 [] I ?_
  refine RK f<|ar<|LX hQ (false,60,0,0,none,0,[]) [] [] I U (by rfl) U U ?_
  exact rf<|pO (kp B (fun q:eZ r=>by have q1:=q.num; have q2:=q.v8; have q3:=q.nh; have q4:=q.x_; omega))
 refine rP 6 [] I ?_
 refine cw (t:=39) U (br fun At=>?_) (bq fun At=>?_)
 ·refine bg 20 U<|RK H<|aR U<|WS fun _ g=>rP 2 [] I ?_
  refine RK g<|ar<|LX hQ (false,60,0,0,none,0,[]) [] [] I U (by rfl) U U ?_
  exact rf<|pO (kp B (fun q:eZ r=>by have q1:=q.num; have q2:=q.v8; have q3:=q.nh; have q4:=q.x_; omega))
 refine rP 2 [] (mc 3 U I) ?_
 refine cZ (xs:=[.tmp 41]) (cs:=[(vI r.dZ)]) U cJ jd U U U U (by simp [Value.cells]) U U fun Ap=>?_
 refine rS (CL (d_.eq (jT 0 5 ([r.dZ]) (some ⟨Ap,0,none⟩) 1 (by (simp; done))) cU) (ay (a_ 0 U U (by simp [bK]) U)<|aK) U) ?_
 refine rP 3 [] I ?_
 refine cw (t:=46) U (br fun Au=>?_) (bq fun Au=>?_)
 ·refine bg 13 U<|RK H<|aR U<|WS fun _ k=>rP 2 [] I ?_
  refine RK k<|ar<|LX hQ (false,60,0,0,none,0,[]) [] [] I U (by rfl) U U ?_
  exact rf<|pO (kp B (fun q:eZ r=>by have q1:=q.num; have q2:=q.v8; have q3:=q.nh; have q4:=q.x_; omega))
 refine rP 3 [] (mc 4 U I) ?_
 refine cZ (xs:=[.tmp 49]) (cs:=[(vI (r.aq.length:Int))]) U cJ jd U U U U (by simp [Value.cells]) U U fun Aq=>?_
 refine rS (CL (d_.eq (jT 1 3 ([(r.aq.length:Int)]) (some ⟨Aq,0,none⟩) 1 (by (simp; done))) cU) (ay (a_ 0 U U (by simp [bK]) U)<|aK) U) ?_
 refine rP 3 [] I ?_
 refine cw (t:=54) U (br fun Av=>?_) (bq fun Av=>?_)
 ·refine bg 5 U<|RK H<|aR U<|WS fun _ l=>rP 2 [] I ?_
  refine RK l<|ar<|LX hQ (false,60,0,0,none,0,[]) [] [] I U (by rfl) U U ?_
  exact rf<|pO (kp B (fun q:eZ r=>by have q1:=q.num; have q2:=q.v8; have q3:=q.nh; have q4:=q.x_; omega))
 refine fF 2 [] (mc 5 U I) U<|rS (CL (jT 0 9999 r.aI slA slC asm) (bh [11]) U)<|rP 2 [] I ?_
 refine RK H<|cE U (fun N=>?_) (fun N=>?_)
 ·rw [Bool.not_eq_true'] at N
  refine WS fun _ m=>rP 2 [] I ?_
  refine RK m<|ar<|LX hQ (false,60,0,0,none,0,[]) [] [] I U (by rfl) U U ?_
  exact rf<|pO (kp B (fun q:eZ r=>by exact absurd (q.ins.symm.trans N) dc))
 rw [Bool.not_eq_false'] at N
 refine WK e<|ak fun _ o=>WS fun _ p=>?_
 have BY:(dk r.bD).length=r.aI.length:=by rw [gp]; omega
 refine rP 2 [] I ?_
 refine RK p<|ax ?_
 have A:(0≤r.aI.length)∧(qK r 0):=by exact ⟨Nat.zero_le _,Dl⟩
 refine bR (ι:={z:Nat // (z≤r.aI.length)∧(qK r z)}) [1,5,6,60] [3,5,6,7,8,9,10,11,12,13,14] U U (fun z=>[(61,(vI (z.1:Int)))]) (fun z=>[]) (fun _=>rfl) (fun _=>rfl) (fun z=>r.aI.length-z.1) ⟨0,A⟩ (aU U) (aL [3,5,6,7,8,9,10,11,12,13,14]) ?_
 clear A
 rintro ⟨i,⟨A_,J⟩⟩ J28 V
 try dsimp only
 refine WS fun _ s=>rP 1 [] I ?_
 refine RK s<|ak fun _ w=>cE U (aQ fun Ax=>?_) (aP fun Ax=>?_)
 ·refine WK w<|ak fun _ W=>ax<|WS fun _ AA=>bg 2 U<|RK AA<|ak fun _ O=>dh cu 24 kr<|dP 2 [] I ?_
  obtain ⟨x,hx⟩:=aM (dk r.bD) i om
  have BB:=bQ iC hx
  refine dS (IA i U (al (n:=r.bD.length) 0 U sq) cJ dc om om) ?_
  refine dS (gh i 0 (vI x) U cm (al (n:=(dk r.bD).length) 0 U sm) BB U dc U)<|dP 3 [] I ?_
  refine ja (t:=70) U (br fun S=>?_) (bq fun S=>?_)
  ·refine kX 17 U<|cK<|RK O<|aR U<|WS fun _ AB=>rP 2 [] I ?_
   refine RK AB<|ar<|LX hQ (false,60,0,0,none,0,[]) [] [] I U (by rfl) U U ?_
   exact rf<|pO (kp B (fun q:eZ r=>by exact absurd (q.drawn hx) S))
  refine dP 3 [] I ?_
  refine jg (t:=73) U (aP fun Ay=>?_) (aQ fun Ay=>?_)
  ·refine kX 14 U<|cK<|RK O<|aX U<|cj<|aH<|KK W<|an<|rP 2 [] I ?_
   refine aF ?_
   have Ad:(vI (((i+1):Nat):Int))=(vI ((i:Int)+1)):=by exact cI om
   refine aT (V ⟨(i+1),⟨om,wG J hx S (fun u v hu hv hw=>by omega)⟩⟩ _ _ _ U os (cP 4<|bo U Ad<|dy.nil _) (aL [0,1,2,3,4,5,6,7,8,9,10]))
  refine dP 3 [] (mc 1 U I) ?_
  obtain ⟨y,hy⟩:=aM r.aI i om
  have BC:=bQ iC hy
  refine dS (IA i U (aB 7 U) cJ dc om om)<|dS (gh i 0 (vI y) U cm (aB 7 U) BC U dc U)<|dP 4 [] (mc 1 U I) ?_
  obtain ⟨z,hz⟩:=aM r.aI (i-1) om
  have BD:=bQ iC hz
  refine dS (IA (i-1) U (aB 7 U) cJ dc om om)<|dS (gh (i-1) 0 (vI z) U cm (aB 7 U) BD U dc U)<|dP 3 [] I ?_
  refine cK<|RK O<|bS U (aP fun Az=>?_) (aQ fun Az=>?_)
  ·refine cj<|aH<|KK W<|an<|rP 2 [] I ?_
   refine aF ?_
   have Ac:(vI (((i+1):Nat):Int))=(vI ((i:Int)+1)):=by exact cI om
   refine aT (V ⟨(i+1),⟨om,wG J hx S (fun u v hu hv hw=>by (rw [hy] at hu; cases hu; rw [hz] at hw; cases hw; omega))⟩⟩ _ _ _ rfl os (cP 4<|bo rfl Ac<|dy.nil _) (aL [0,1,2,3,4,5,6,7,8,9,10]))
  refine WS fun _ AC=>rP 2 [] I ?_
  refine RK AC<|ar<|LX hQ (false,60,0,0,none,0,[]) [] [] I U (by rfl) U U ?_
  exact rf<|pO (kp B (fun q:eZ r=>by have q1:=(q.ids i y hy).2 z om hz; omega))
 refine bB<|ae<|ae<|aA<|KK o<|WS fun _ AD=>fF 1 [] (mc 1 U I) U<|rS (SX (bj (xs:=[(0,.tmp 89)]) (cs:=(fT.cells (fT.mk (ou r kA kC cA cC bA bC slA slC drA drC heA heC) (aN.mk none 0 0) (Value.map none)))) U U (bk Ui U)) U U)<|fU U fun L=>bg 1 U<|RK AD<|ak fun _ AE=>WS fun _ AF=>rP 4 [] (mc 2 U I) ?_
 refine RK AF<|ax<|fY 85 1<|og ?_
 have A:(0≤r.aq.length)∧(([]:List RA).length=0)∧(jV r 0):=by exact ⟨Nat.zero_le _,rfl,wM⟩
 refine bR (ι:={z:Nat×(List RA)×(OA)×Nat // (z.1≤r.aq.length)∧(z.2.1.length=z.1)∧(jV r z.1)}) [1,5,8,93,94] [3,4,5,6,7,8,9,10,11,12,13] U U (fun z=>[(95,(vI (z.1.1:Int)))]) (fun z=>[(bp (aS C8 (gF r z.1.1) z.1.2.1)),(own z.1.2.2.1 z.1.2.2.2 85 1 (List.map sC (List.zipWith CG (gF r z.1.1) z.1.2.1))),(b_ L 88 (fT.cells (fT.mk (ou r kA kC cA cC bA bC slA slC drA drC heA heC) (aN.mk z.1.2.2.1 ((List.zipWith CG (gF r z.1.1) z.1.2.1).length) z.1.2.2.2) (Value.map none))))]) (fun _=>rfl) (fun _=>rfl) (fun z=>r.aq.length-z.1.1) ⟨(0,([]:List RA),none,0),A⟩ (aU U) (aL [3,4,5,6,7,8,9,10,11,12,13,0,1,2]) ?_
 clear A
 rintro ⟨⟨h,tz,a,c⟩,⟨T,C,E⟩⟩ J42 Z
 try dsimp only at T C E
 try dsimp only
 refine WS fun _ AG=>rP 1 [] I ?_
 refine RK AG<|ak fun _ AH=>bS U (aP fun A0=>?_) (aQ fun A0=>?_)
 ·refine bB<|ae<|ae<|aA<|KK AE<|ak fun _ Aa=>?_
  have A9:gF r h=cQ r:=by unfold cQ; rw [show h=r.aq.length by omega]
  have Ak:tz.length=r.aq.length:=by omega
  rw [A9,zr,show (List.zipWith CG (cQ r) tz).length=(cQ r).length from by rw [List.length_zipWith]; omega]
  have X:eZ r:=I9 (n:=i) om om om om om N J E om
  refine an<|rP 5 [] (mc 1 U I) ?_
  refine cX (OP r kA kC az cA cC bA bC slA slC drA drC ha heA heC tz a c (Value.map none) L r.aq.length hin asm om (by exact X.zB)) (lz [3,4,5,6,7,8,9,10]<|ay (al (n:=(cQ r).length) 12 U (mI (by rw [Aj]; exact Ak)))<|ay (dR 11 U sr)<|fK 13 U U<|aK) U fun K BP=>?_
  try dsimp only
  refine rS (SX (bO U U) U U)<|rP 1 [] I ?_
  refine jl (vs:=[(Value.map (some K))]) (cs':=(fT.cells (fT.mk (ou r kA kC cA cC bA bC slA slC drA drC heA heC) (aN.mk a ((cQ r).length) c) (Value.map (some K))))) (C':=[_,_,_,_,_,_,_,_,_,_,_,_,_,_,(b_ L 88 (fT.cells (fT.mk (ou r kA kC cA cC bA bC slA slC drA drC heA heC) (aN.mk a ((cQ r).length) c) (Value.map (some K)))))]) 14 U U U Ms U U U U U U U<|RK Aa<|ak fun _ Ab=>?_
  rw [show eL r r.aq.length=aG r from rfl]
  refine an<|rP 3 [] I ?_
  refine RK Ab<|ar ?_
  refine LX hQ (true,0,L,K,a,c,tz) [14,13,12,0] [] I U (by (show List.all _ _=true; simp only [cond_true,fI,List.all_nil,xS,Bool.and_true]; rfl)) U U ?_
  exact ⟨fun _=>⟨BK B X,Ak⟩,Nh⟩
 refine WK AH<|ak fun _ AI=>ax<|WS fun _ AJ=>?_
 obtain ⟨ht,D⟩:=aM r.aq h om
 obtain ⟨G,BE⟩:=aM ha h om
 have Ai:(List.zipWith cD r.aq ha)[h]? =some (cD ht G):=dB D BE
 refine rS (IA h U (aB 9 U) pk dc om om)<|rS (gh h 0 (vS G.1.1 ht.length G.1.2) U cm (aB 9 U) Ai U dc U)<|rP 1 [] I ?_
 refine RK AJ<|ak fun _ AK=>WS fun _ AM=>?_
 have Ah:=hin.nu _ _ _ D BE
 have BJ:=Ah.nO
 refine rP 4 [] I ?_
 refine RK AM<|cE U (br fun Y=>?_) (bq fun Y=>?_)
 ·refine WS fun _ AN=>rP 2 [] I ?_
  refine RK AN<|ar<|LX hQ (false,60,0,0,none,0,[]) [] [] I U (by rfl) U U ?_
  exact rf<|pO (kp B (fun q:eZ r=>by have q1:=(q.nu ht (aV D)).1; omega))
 refine WK AK<|WS fun _ AO=>bg 1 U<|RK AO<|ak fun _ AP=>WS fun _ AQ=>rP 3 [] I ?_
 refine RK AQ<|ax<|fY 38 2 ?_
 have A:(0≤ht.length)∧(nU r.ah ht 0):=by exact ⟨Nat.zero_le _,ve⟩
 refine bR (ι:={z:Nat×(OA)×Nat // (z.1≤ht.length)∧(nU r.ah ht z.1)}) [1,5,8,10,93,94,95,103,104] [1,2,3,4,5,6,7,8,9,10,11,12,13,14] U U (fun z=>[(11,(vS z.1.2.1 (((ht.take z.1.1).map (dw r.ah)).length) z.1.2.2)),(105,(vI (z.1.1:Int)))]) (fun z=>[(own z.1.2.1 z.1.2.2 38 2 (((ht.take z.1.1).map (dw r.ah)).map aa.cells))]) (fun _=>rfl) (fun _=>rfl) (fun z=>ht.length-z.1.1) ⟨(0,none,0),A⟩ (aU U) (aL [1,2,3,4,5,6,7,8,9,10,11,12,13,14,0]) ?_
 clear A
 rintro ⟨⟨j,la,lc⟩,⟨Al,F⟩⟩ J53 b
 try dsimp only at Al F
 try dsimp only
 refine WS fun _ AR=>rP 1 [] I ?_
 refine RK AR<|ak fun _ AS=>bS U (aP fun Aw=>?_) (aQ fun Aw=>?_)
 ·refine bB<|ae<|ae<|aA<|KK AP<|an<|bg 2 U<|rS (SX (bO U U) U U)<|rP 2 [] (mc 13 U I) ?_
  rw [show ((ht.take j).map (dw r.ah))=ht.map (dw r.ah) from by rw [List.take_of_length_le om]]
  refine rP 1 [] I ?_
  refine cZ (xs:=[.tmp 128]) (cs:=[(vS la ((ht.map (dw r.ah)).length) lc)]) U N7 Q9 U U U U (by simp [Value.cells]) U U fun BU=>?_
  refine de (es2:=(List.map sC (List.zipWith CG (gF r (h+1)) (tz++[(la,lc)])))) (m':=(List.zipWith CG (gF r (h+1)) (tz++[(la,lc)])).length) 13 U U U SZ U U sm (a_ (es:=List.map sC [(aN.mk la ((ht.map (dw r.ah)).length) lc)]) 0 U U (by simp [zc]) U) (IF _) (by rw [List.length_zipWith,kq om]; omega) (by rw [List.length_zipWith,kq om]; simp only [maxLen]; omega) (by rw [tD D C,List.map_append]; rfl) (by rw [tD D C]; simp) U fun P R=>?_
  try dsimp only
  refine rS (SX (bO U U) U U)<|bg 1 U<|jl (vs:=[(vS P ((List.zipWith CG (gF r (h+1)) (tz++[(la,lc)])).length) R)]) (cs':=(fT.cells (fT.mk (ou r kA kC cA cC bA bC slA slC drA drC heA heC) (aN.mk P ((List.zipWith CG (gF r (h+1)) (tz++[(la,lc)])).length) R) (Value.map none)))) (C':=[_,_,_,_,_,_,_,_,_,_,_,_,_,_,(b_ L 88 (fT.cells (fT.mk (ou r kA kC cA cC bA bC slA slC drA drC heA heC) (aN.mk P ((List.zipWith CG (gF r (h+1)) (tz++[(la,lc)])).length) R) (Value.map none)))),_]) 14 U U U UE U U U U U U U<|aF<|aH<|KK AI<|an<|rP 2 [] I ?_
  refine aF<|AT (X':=aS C8 (gF r (h+1)) (tz++[(la,lc)])) 12 15 U U (B5 (a:=(la,lc)) D C) ?_
  have Af:(vI (((h+1):Nat):Int))=(vI ((h:Int)+1)):=by exact cI om
  refine aT (Z ⟨((h+1),(tz++[(la,lc)]),P,R),⟨om,by simp; omega,v9 E D (F4 om F om)⟩⟩ _ _ _ U os (cP 5<|bo U Af<|dy.nil _) (aL [2,3,4,5,6,7,8,9,10,11,12,0,13,14]))
 refine WK AS<|ak fun _ AU=>ax<|WS fun _ AV=>?_
 obtain ⟨d,hd⟩:=aM ht j om
 obtain ⟨da,Ag⟩:=aM G.2 j om
 have A8:(List.zipWith aw.cells ht G.2)[j]? =some (aw.cells d da):=dB hd Ag
 refine rS (IA j U (show iq _ (rd G.1.1 ht.length 7 (List.zipWith aw.cells ht G.2)).holds from (cT 10 U (bT D BE bZ))) sE dc om om)<|rS (ov j 0 (bw.cells (bw.mk d.Out d.eO d.Time (eK.mk d.cz.Start d.cz.gj (aN.mk da.1 d.cz.aj.length da.2)))) U cm (show iq _ (rd G.1.1 ht.length 7 (List.zipWith aw.cells ht G.2)).holds from (cT 10 U (bT D BE bZ))) A8 U dc U U)<|AL U Oo fun BR=>fW U Pp U<|RK AV<|WS fun _ AW=>bg 1 U<|rS (LP (bJ.cells (ld r.ah kA kC cA cC bA bC)) 2 U cm U U U)<|rP 1 [] (mc 0 U I) ?_
 have BZ:=Ah.sig d (aV hd)
 refine rS (CL (Et r.ah kA kC az cA cC bA bC d da.1 da.2 asm asm) (lz [3,4,5,6,7]<|ay (show iq _ (rd da.1 d.cz.aj.length 2 (d.cz.aj.map aO.cells)).holds from (cT 11 U (bT D BE (cW _ (bT hd Ag (by simp [aw.gW]))))))<|aK) U)<|bg 3 U<|AL U di fun BS=>fW U cv U<|bg 1 U<|RK AW<|ak fun _ AX=>WS fun _ AY=>rP 2 [] I ?_
 refine RK AY<|bS U (bq fun M=>?_) (br fun M=>?_)
 ·refine WK AX<|an<|rP 2 [] (mc 0 U I) ?_
  refine cZ (xs:=[.tmp 119]) (cs:=(aa.cells (dw r.ah d))) U jL di U U U U (by simp [Value.cells,aa.aW]) U U fun BT=>?_
  refine de (es2:=(List.map aa.cells ((ht.take (j+1)).map (dw r.ah)))) (m':=((ht.take (j+1)).map (dw r.ah)).length) 17 U U U D9 U U sm (a_ (es:=List.map aa.cells [(dw r.ah d)]) 0 U U (by simp [aa.aW]) U) (gS _) (by simp only [List.length_map,List.length_take]; omega) (by simp only [maxLen,List.length_map,List.length_take]; omega) (by rw [List.take_add_one,hd]; simp) sq U fun Am Ar=>?_
  try dsimp only
  refine bg 1 U<|aF<|aH<|KK AU<|an<|rP 2 [] I ?_
  refine aF ?_
  have Ae:(vI (((j+1):Nat):Int))=(vI ((j:Int)+1)):=by exact cI om
  refine aT (b ⟨((j+1),Am,Ar),⟨om,uS F hd M⟩⟩ _ _ _ U os (cP 10<|bo U Ae<|dy.nil _) (aL [3,4,5,6,7,8,9,10,11,12,13,14,15,16,17]))
 refine WS fun _ AZ=>rP 2 [] I ?_
 refine RK AZ<|ar<|LX hQ (false,60,0,0,none,0,[]) [] [] I U (by rfl) U U ?_
 exact rf<|pO (kp B (fun q:eZ r=>by exact M ((q.nu ht (aV D)).2 d (aV hd))))
end
section
open Go.RowKit
theorem Em (l:List Int) (lA:OA) (lC:Nat) (hlen:l.length=1):
 Da Tryz.prog 56 [(vS lA 1 lC)] [] (own lA lC 3 1 (l.map iC)) (fun (x:Unit)=>(vS lA 1 lC)) (fun (x:Unit)=>True) (fun (x:Unit)=>(own lA lC 3 1 (l.map iC))):=by
 refine mw kr Tryz.func56 U U fun E Q hQ hN=>?_
 try dsimp only
 refine WS fun _ A=>bg 1 U<|RK A<|ak fun _ D=>WS fun _ B=>bg 2 U<|rS (SX (cb (r:= .bool true) U U U gQ) U U)<|RK B<|aR U<|WS fun _ C=>rP 2 [] I ?_
 refine RK C<|ar<|LM hQ () 0 [] I U U U U ?_
 trivial
theorem Dh (l:List Int) (lA:OA) (lC:Nat) (hlen:l.length=2):
 Da Tryz.prog 56 [(vS lA 2 lC)] [] (own lA lC 3 1 (l.map iC)) (fun (x:(List Int))=>(vS lA (Jh l) lC)) (fun (x:(List Int))=>True) (fun (x:(List Int))=>(own lA lC 3 1 (x.map iC))):=by
 refine mw kr Tryz.func56 U U fun c Q hQ hN=>?_
 try dsimp only
 refine WS fun _ M=>bg 1 U<|RK M<|ak fun _ N=>WS fun _ O=>bg 2 U<|rS (SX (cb (r:= .bool false) U U U gQ) U U)<|RK O<|aX U<|WK N<|ak fun _ P=>WS fun _ R=>bg 1 U<|RK R<|ax<|jO 3<|eu fun R6 V=>ak fun _ S=>WS fun _ T=>bg 3 U<|rS (SX (cb (r:= .bool true) U U U gQ) U U)<|RK T<|aR U<|WK S<|ak fun _ AA=>ax<|ak fun _ B=>dh cu 10 kr<|dP 2 [] I ?_
 obtain ⟨x,hx⟩:=aM l 1 om
 have W:=bQ iC hx
 refine dS (IA 1 U (al (n:=2) 0 U sq) cJ dc U om) ?_
 refine dS (gh 1 0 (vI x) U cm (al (n:=l.length) 0 U sm) W U dc U)<|dP 2 [] I ?_
 refine dS (SX (cb (r:= .int .i64 0) U U U (rz ⟨dc,dc⟩)) U U) ?_
 obtain ⟨y,hy⟩:=aM l 0 om
 have X:=bQ iC hy
 refine dS (IA 0 U (al (n:=2) 0 U sq) cJ dc U om) ?_
 refine dS (gh 0 0 (vI y) U cm (al (n:=l.length) 0 U sm) X U dc U)<|dP 1 [] I ?_
 refine cK<|RK B<|bS U (aP fun A=>?_) (aQ fun A=>?_)
 ·refine cj<|aH<|KK AA<|an<|bg 1 U<|rS (SX (cb (r:= .int .i64 2) U U U (ij ⟨dc,dc⟩)) U U)<|bg 1 U<|RK V<|eu fun R19 b=>ak fun _ Z=>WS fun _ AB=>bg 3 U<|rS (SX (cb (r:= .bool false) U U U gQ) U U)<|RK AB<|aX U<|bB<|ae<|ae<|aA<|KK P<|WS fun _ J=>rP 2 [] I ?_
  refine RK J<|ar ?_
  refine LM hQ l 0 [] I U U U ?_ ?_
  ·(rw [BA hlen hy hx A,hlen]; rfl)
  ·trivial
 refine WS fun _ C=>rP 2 [] I ?_
 refine rS (Vp 1 U cJ U os) ?_
 refine bg 1 U<|RK C<|ak fun _ D=>WS fun _ E=>bg 1 U<|RK E<|ax<|jO 2<|eu fun R14 a=>ak fun _ Y=>WS fun _ F=>rP 4 [] I ?_
 refine RK F<|cE U (aQ fun L=>?_) (aP fun L=>?_)
 ·exfalso; omega
 refine bB<|ae<|ae<|aA<|KK D<|WS fun _ G=>rP 2 [] I ?_
 refine rS (Vp 1 U cJ U os) ?_
 refine N8 (k:=1) 0 rfl rfl pT (by intro v hv; simp [Value.cells] at hv; subst hv; rfl) rfl os om ?_
 try dsimp only
 rw [show (own lA lC 3 1 ((l.map iC).take 1))=(own lA lC 3 1 ((l.take 1).map iC)) from by rw [List.map_take]]
 refine RK G<|WS fun _ H=>Lt 0 U fun K=>?_
 simp only [List.length_map,List.length_take] at K
 refine bg 2 U<|rS (TH 1 U cJ U om)<|rP 1 [] I ?_
 refine RK H<|ar ?_
 refine LM hQ (l.take 1) 0 [] I U U U ?_ ?_
 ·(rw [zl hlen hy hx A]; rfl)
 ·trivial
end
section
open Go.RowKit
theorem zd (r:cd) (kA:OA) (kC:Nat) (az:List RA) (cA:OA) (cC:Nat) (bA:OA) (bC:Nat) (slA:OA) (slC:Nat) (drA:OA) (drC:Nat) (ha:List cS) (heA:OA) (heC:Nat) (a:Int) (gq:Nat) (hin:fy r az ha):
 lq Tryz.prog 34 [(vA (bu.cells (ou r kA kC cA cC bA bC slA slC drA drC heA heC))),(vS (some ⟨gq,0,none⟩) 1 1)] [(rd dD 3 2 dg),(rd kA r.ah.aJ.length 9 (r.ah.aJ.map ao.cells)),(rd cA r.ah.ai.length 2 (List.zipWith au.cells r.ah.ai az)),(fc (aS au.gW r.ah.ai az)),(rd bA r.ah.ag.length 4 (r.ah.ag.map bG.cells)),(rd slA r.aI.length 1 (r.aI.map iC)),(rd drA r.bD.length 1 (r.bD.map iC)),(rd heA r.aq.length 1 (List.zipWith cD r.aq ha)),(fc (aS im r.aq ha)),(b_ gq 3 [(vI a)])] (fun (x:Bool×Int×Nat×Nat×(OA)×Nat×(List RA)×(OA)×Nat)=>bif x.1 then (vT [(Value.pointer (some ⟨x.2.2.1,0,none⟩)),(vS x.2.2.2.2.2.2.2.1 1 x.2.2.2.2.2.2.2.2),(vI 0)]) else (vT [(Value.pointer none),(vS none 0 0),(vI x.2.1)])) (fun (x:Bool×Int×Nat×Nat×(OA)×Nat×(List RA)×(OA)×Nat)=>(x.1=true→(jX r a=0∧x.2.2.2.2.2.2.1.length=r.aq.length))∧(x.1=false→(x.2.1=jX r a∧ ¬ jX r a=0))) (fun (x:Bool×Int×Nat×Nat×(OA)×Nat×(List RA)×(OA)×Nat)=>bif x.1 then [(b_ x.2.2.1 88 (fT.cells (fT.mk (ou r kA kC cA cC bA bC slA slC drA drC heA heC) (aN.mk x.2.2.2.2.1 ((cQ r).length) x.2.2.2.2.2.1) (Value.map (some x.2.2.2.1))))),(own x.2.2.2.2.1 x.2.2.2.2.2.1 85 1 (List.zipWith DA (cQ r) x.2.2.2.2.2.2.1)),(bp (aS C8 (cQ r) x.2.2.2.2.2.2.1)),(hO iV x.2.2.2.1 (bM dW (aG r))),(own x.2.2.2.2.2.2.2.1 x.2.2.2.2.2.2.2.2 38 2 ([(aD (aG r) a)].map aa.cells))] else []):=by
 have y:=hin.line
 have AN:=hin.iP
 have AO:=hin.has
 have AF:=hin.iR
 have AE:=hin.draw
 have g:=dJ (r:=r)
 refine dv kr Tryz.func34 U U fun w0 Q hQ hN=>?_
 try dsimp only
 refine WS fun _ w=>fU U fun b2=>bg 3 U<|RK w<|WS fun _ N=>rP 1 [] (mc 0 U I) ?_
 refine cX (n_ r kA kC az cA cC bA bC slA slC drA drC ha heA heC hin) (bh [1,2,3,4,5,6,7,8,9]) U fun y4 j=>?_
 obtain ⟨k,AM,F,E,m,B,C⟩:=y4
 cases k
 ·obtain ⟨e,he⟩:=j.2 rfl
  try dsimp only at e he
  subst e
  try dsimp only [cond_true,cond_false,List.cons_append,List.nil_append]
  refine bg 5 U<|RK N<|ak fun _ AB=>WS fun _ H=>rP 2 [] I ?_
  refine RK H<|bS U (bq fun G=>?_) (br fun G=>?_)
  ·exact absurd G he
  refine WS fun _ AR=>rP 4 [] I ?_
  refine RK AR<|ar<|LX hQ (false,(bY r),0,0,none,0,[],none,0) [] [] I U (by rfl) U U ?_
  exact rf<|Jj (KF (i:=a) he) he
 obtain ⟨he,h⟩:=j.1 rfl
 try dsimp only [cond_true,cond_false,List.cons_append,List.nil_append]
 refine bg 5 U<|RK N<|ak fun _ J=>WS fun _ K=>bg 1 U<|rS (SX (cb (r:= .bool false) U U U lj) U U)<|RK K<|aX U<|WK J<|ak fun _ L=>WS fun _ A=>rP 2 [] I ?_
 refine rS (CL (d_.eq (zR r kA kC az cA cC bA bC slA slC drA drC ha heA heC C m B (Value.map (some E)) F ([a]) (some ⟨gq,0,none⟩) 1 hin (by (simp; done))) cU) (lz [6,7,8,9,10,11,12,13]<|ay (al (n:=(cQ r).length) 1 U (mI (by rw [g]; exact h)))<|ay (dR 2 U sr)<|fK 0 U U<|ay (nR 14 U U (by simp [bK]) U)<|aK) U) ?_
 refine rP 2 [] I ?_
 refine cw (t:=26) U (br fun v=>?_) (bq fun v=>?_)
 ·refine bg 3 U<|bg 4 U<|bg 2 U<|RK A<|aR U<|WS fun _ M=>rP 3 [] I ?_
  refine RK M<|ar<|LX hQ (false,2,0,0,none,0,[],none,0) [] [] I U (by rfl) U U ?_
  exact rf<|pO (Lp (i:=a) he om)
 refine rP 1 [] I ?_
 refine cX (wK (some ⟨gq,0,none⟩) 1 1) (aK) U fun q AG=>?_
 try dsimp only
 refine cX (xn ([a]) (some ⟨gq,0,none⟩) 1 q (by (simp; done))) (ay (nR 15 U U (by simp [bK]) U)<|fK 0 U U<|aK) U fun AA AH=>?_
 obtain ⟨o,s⟩:=AA
 try dsimp only
 try dsimp only
 refine iN 0 U U U U (Em (dk ([a])) o s (by (simp; done))) U j8 U (fun AP AI=>?_)
 try dsimp only
 refine bg 3 U<|rS (SX (cb (r:= .bool false) U U U gQ) U U)<|bg 1 U<|RK A<|aX U<|WK L<|WS fun _ O=>bg 1 U<|RK O<|ak fun _ P=>WS fun _ R=>bg 3 U<|RK R<|ax<|jO 2<|eu fun R33 d=>WS fun _ S=>rS (SX (cb (r:= .bool true) U U U gQ) U U)<|RK S<|ak fun _ T=>aR U<|WK T<|ak fun _ AQ=>ax<|WS fun _ V=>rS (Tz 0 0 U cJ U dc U)<|fF 2 [] (mr 16 U I) U<|RK V<|WS fun _ W=>bg 1 U<|rS (SX (bO U U) U U)<|fF 3 [] (mc 2 U I) U<|rS (SX (kz (kV:=iV) (x:=a) (l:=(aG r)) (f:=dW) (z:=(aa.mk 0 0)) U U U nJ (dQ oG) wI (by exact aB 5 U)) U U)<|bg 3 U<|AL U di fun AJ=>fW U cv U<|rP 1 [] I ?_
 refine RK W<|ak fun _ X=>WS fun _ Y=>?_
 rw [show ((List.lookup a (aG r)).getD (aa.mk 0 0))=(aD (aG r) a) from rfl]
 refine rP 2 [] I ?_
 refine RK Y<|cE U (fun D=>?_) (fun D=>?_)
 ·rw [Bool.not_eq_true'] at D
  refine WS fun _ Z=>rP 3 [] I ?_
  refine RK Z<|ar<|LX hQ (false,6,0,0,none,0,[],none,0) [] [] I U (by rfl) U U ?_
  exact rf<|pO (GP (i:=a) he om asm)
 rw [Bool.not_eq_false'] at D
 refine WK X<|an<|rP 2 [] (mc 0 U I) ?_
 refine cZ (xs:=[.tmp 54]) (cs:=(aa.cells (aD (aG r) a))) U jL di U U U U (by simp [Value.cells,aa.aW]) U U fun AK=>dM 38 2<|de (es2:=(List.map aa.cells ([(aD (aG r) a)]))) (m':=([(aD (aG r) a)]).length) 0 U U U D9 U U sm (a_ (es:=List.map aa.cells [(aD (aG r) a)]) 1 U U (by simp [aa.aW]) U) (gS _) sm (by simp [maxLen]) sm sm U fun p u=>?_
 try dsimp only
 refine bg 1 U<|aF<|aH<|KK AQ<|an<|rS (SX (cb (r:= .int .i64 1) U U U (ij ⟨dc,dc⟩)) U U)<|bg 1 U<|RK d<|eu fun R46 AD=>WS fun _ b=>rS (SX (cb (r:= .bool false) U U U gQ) U U)<|RK b<|ak fun _ AC=>aX U<|bB<|ae<|ae<|aA<|KK P<|WS fun _ c=>rP 5 [] I ?_
 refine RK c<|ar ?_
 refine LX hQ (true,0,F,E,m,B,C,p,u) [5,6,7,8,0] [] I U (by (show List.all _ _=true; simp only [cond_true,fI,List.all_nil,xS,Bool.and_true]; rfl)) U U ?_
 exact ⟨fun _=>⟨Nc he om asm,h⟩,Nh⟩
end
section
open Go.RowKit
theorem zi (r:cd) (kA:OA) (kC:Nat) (az:List RA) (cA:OA) (cC:Nat) (bA:OA) (bC:Nat) (slA:OA) (slC:Nat) (drA:OA) (drC:Nat) (ha:List cS) (heA:OA) (heC:Nat) (a b:Int) (gq:Nat) (hin:fy r az ha):
 lq Tryz.prog 34 [(vA (bu.cells (ou r kA kC cA cC bA bC slA slC drA drC heA heC))),(vS (some ⟨gq,0,none⟩) 2 2)] [(rd dD 3 2 dg),(rd kA r.ah.aJ.length 9 (r.ah.aJ.map ao.cells)),(rd cA r.ah.ai.length 2 (List.zipWith au.cells r.ah.ai az)),(fc (aS au.gW r.ah.ai az)),(rd bA r.ah.ag.length 4 (r.ah.ag.map bG.cells)),(rd slA r.aI.length 1 (r.aI.map iC)),(rd drA r.bD.length 1 (r.bD.map iC)),(rd heA r.aq.length 1 (List.zipWith cD r.aq ha)),(fc (aS im r.aq ha)),(b_ gq 3 [(vI a),(vI b)])] (fun (x:Bool×Int×Nat×Nat×(OA)×Nat×(List RA)×(OA)×Nat)=>bif x.1 then (vT [(Value.pointer (some ⟨x.2.2.1,0,none⟩)),(vS x.2.2.2.2.2.2.2.1 2 x.2.2.2.2.2.2.2.2),(vI 0)]) else (vT [(Value.pointer none),(vS none 0 0),(vI x.2.1)])) (fun (x:Bool×Int×Nat×Nat×(OA)×Nat×(List RA)×(OA)×Nat)=>(x.1=true→(l_ r a b=0∧x.2.2.2.2.2.2.1.length=r.aq.length))∧(x.1=false→(x.2.1=l_ r a b∧ ¬ l_ r a b=0))) (fun (x:Bool×Int×Nat×Nat×(OA)×Nat×(List RA)×(OA)×Nat)=>bif x.1 then [(b_ x.2.2.1 88 (fT.cells (fT.mk (ou r kA kC cA cC bA bC slA slC drA drC heA heC) (aN.mk x.2.2.2.2.1 ((cQ r).length) x.2.2.2.2.2.1) (Value.map (some x.2.2.2.1))))),(own x.2.2.2.2.1 x.2.2.2.2.2.1 85 1 (List.zipWith DA (cQ r) x.2.2.2.2.2.2.1)),(bp (aS C8 (cQ r) x.2.2.2.2.2.2.1)),(hO iV x.2.2.2.1 (bM dW (aG r))),(own x.2.2.2.2.2.2.2.1 x.2.2.2.2.2.2.2.2 38 2 ([(aD (aG r) a),(aD (aG r) b)].map aa.cells))] else []):=by
 have AK:=hin.line
 have Ad:=hin.iP
 have Ae:=hin.has
 have AR:=hin.iR
 have AQ:=hin.draw
 have v:=dJ (r:=r)
 refine dv kr Tryz.func34 U U fun w0 Q hQ hN=>?_
 try dsimp only
 refine WS fun _ AJ=>fU U fun b2=>bg 3 U<|RK AJ<|WS fun _ N=>rP 1 [] (mc 0 U I) ?_
 refine cX (n_ r kA kC az cA cC bA bC slA slC drA drC ha heA heC hin) (bh [1,2,3,4,5,6,7,8,9]) U fun y4 y=>?_
 obtain ⟨AA,Ab,F,E,AB,C,D⟩:=y4
 cases AA
 ·obtain ⟨u,he⟩:=y.2 rfl
  try dsimp only at u he
  subst u
  try dsimp only [cond_true,cond_false,List.cons_append,List.nil_append]
  refine bg 5 U<|RK N<|ak fun _ AN=>WS fun _ H=>rP 2 [] I ?_
  refine RK H<|bS U (bq fun G=>?_) (br fun G=>?_)
  ·exact absurd G he
  refine WS fun _ Ah=>rP 4 [] I ?_
  refine RK Ah<|ar<|LX hQ (false,(bY r),0,0,none,0,[],none,0) [] [] I U (by rfl) U U ?_
  exact rf<|Jj (LF (a:=a) (b:=b) he) he
 obtain ⟨he,w⟩:=y.1 rfl
 try dsimp only [cond_true,cond_false,List.cons_append,List.nil_append]
 refine bg 5 U<|RK N<|ak fun _ J=>WS fun _ K=>bg 1 U<|rS (SX (cb (r:= .bool false) U U U lj) U U)<|RK K<|aX U<|WK J<|ak fun _ L=>WS fun _ B=>rP 2 [] I ?_
 refine rS (CL (d_.eq (zR r kA kC az cA cC bA bC slA slC drA drC ha heA heC D AB C (Value.map (some E)) F ([a,b]) (some ⟨gq,0,none⟩) 2 hin (by (simp; done))) qZ) (lz [6,7,8,9,10,11,12,13]<|ay (al (n:=(cQ r).length) 1 U (mI (by rw [v]; exact w)))<|ay (dR 2 U sr)<|fK 0 U U<|ay (nR 14 U U (by simp [bK]) U)<|aK) U) ?_
 refine rP 2 [] I ?_
 refine cw (t:=26) U (br fun AH=>?_) (bq fun AH=>?_)
 ·refine bg 3 U<|bg 4 U<|bg 2 U<|RK B<|aR U<|WS fun _ M=>rP 3 [] I ?_
  refine RK M<|ar<|LX hQ (false,2,0,0,none,0,[],none,0) [] [] I U (by rfl) U U ?_
  exact rf<|pO (CQ (a:=a) (b:=b) he om)
 refine rP 1 [] I ?_
 refine cX (wK (some ⟨gq,0,none⟩) 2 2) (aK) U fun AE AS=>?_
 try dsimp only
 refine cX (xn ([a,b]) (some ⟨gq,0,none⟩) 2 AE (by (simp; done))) (ay (nR 15 U U (by simp [bK]) U)<|fK 0 U U<|aK) U fun AM AT=>?_
 obtain ⟨AC,AF⟩:=AM
 try dsimp only
 try dsimp only
 refine iN 0 U U U U (Dh (dk ([a,b])) AC AF (by (simp; done))) U j8 U (fun Af AU=>?_)
 try dsimp only
 refine rP 3 [] I ?_
 have Ac:=Je a b
 refine rP 2 [] I ?_
 refine RK B<|cE U (aQ fun AI=>?_) (aP fun AI=>?_)
 ·refine WS fun _ O=>rP 3 [] I ?_
  refine RK O<|ar<|LX hQ (false,2,0,0,none,0,[],none,0) [] [] I U (by rfl) U U ?_
  exact rf<|pO (CQ (a:=a) (b:=b) he om)
 refine WK L<|WS fun _ P=>bg 1 U<|RK P<|ak fun _ R=>WS fun _ S=>bg 3 U<|RK S<|ax<|jO 3<|eu fun R35 q=>WS fun _ T=>rS (SX (cb (r:= .bool true) U U U gQ) U U)<|RK T<|ak fun _ Ag=>aR U<|WK Ag<|ak fun _ V=>ax<|WS fun _ W=>rS (Tz 0 0 U cJ U dc U)<|fF 2 [] (mr 16 U I) U<|RK W<|WS fun _ X=>bg 1 U<|rS (SX (bO U U) U U)<|fF 3 [] (mc 2 U I) U<|rS (SX (kz (kV:=iV) (x:=a) (l:=(aG r)) (f:=dW) (z:=(aa.mk 0 0)) U U U nJ (dQ oG) wI (by exact aB 5 U)) U U)<|bg 3 U<|AL U di fun AW=>fW U cv U<|rP 1 [] I ?_
 refine RK X<|ak fun _ Y=>WS fun _ Z=>?_
 rw [show ((List.lookup a (aG r)).getD (aa.mk 0 0))=(aD (aG r) a) from rfl]
 refine rP 2 [] I ?_
 refine RK Z<|cE U (fun A=>?_) (fun A=>?_)
 ·rw [Bool.not_eq_true'] at A
  refine WS fun _ c=>rP 3 [] I ?_
  refine RK c<|ar<|LX hQ (false,6,0,0,none,0,[],none,0) [] [] I U (by rfl) U U ?_
  exact rf<|pO (yB (a:=a) (b:=b) he om (by exact .inl asm))
 rw [Bool.not_eq_false'] at A
 refine WK Y<|an<|rP 2 [] (mc 0 U I) ?_
 refine cZ (xs:=[.tmp 54]) (cs:=(aa.cells (aD (aG r) a))) U jL di U U U U (by simp [Value.cells,aa.aW]) U U fun AX=>dM 38 2<|de (es2:=(List.map aa.cells ([(aD (aG r) a)]))) (m':=([(aD (aG r) a)]).length) 0 U U U D9 U U sm (a_ (es:=List.map aa.cells [(aD (aG r) a)]) 1 U U (by simp [aa.aW]) U) (gS _) sm (by simp [maxLen]) sm sm U fun AV Aa=>?_
 try dsimp only
 refine bg 1 U<|aF<|aH<|KK V<|an<|rS (SX (cb (r:= .int .i64 1) U U U (ij ⟨dc,dc⟩)) U U)<|bg 1 U<|RK q<|eu fun R48 s=>WS fun _ d=>rS (SX (cb (r:= .bool true) U U U gQ) U U)<|RK d<|ak fun _ e=>aR U<|WK e<|ak fun _ g=>ax<|WS fun _ h=>rS (Tz 1 1 U cJ U dc U)<|fF 2 [] (mr 19 U I) U<|RK h<|WS fun _ i=>bg 1 U<|rS (SX (bO U U) U U)<|fF 3 [] (mc 5 U I) U<|rS (SX (kz (kV:=iV) (x:=b) (l:=(aG r)) (f:=dW) (z:=(aa.mk 0 0)) U U U nJ (dQ oG) wI (by exact aB 8 U)) U U)<|bg 3 U<|AL U di fun AY=>fW U cv U<|rP 1 [] I ?_
 refine RK i<|ak fun _ j=>WS fun _ k=>?_
 rw [show ((List.lookup b (aG r)).getD (aa.mk 0 0))=(aD (aG r) b) from rfl]
 refine rP 2 [] I ?_
 refine RK k<|cE U (fun A=>?_) (fun A=>?_)
 ·rw [Bool.not_eq_true'] at A
  refine WS fun _ m=>rP 3 [] I ?_
  refine RK m<|ar<|LX hQ (false,6,0,0,none,0,[],none,0) [] [] I U (by rfl) U U ?_
  exact rf<|pO (yB (a:=a) (b:=b) he om (by exact .inr asm))
 rw [Bool.not_eq_false'] at A
 refine WK j<|an<|rP 2 [] (mc 0 U I) ?_
 refine cZ (xs:=[.tmp 54]) (cs:=(aa.cells (aD (aG r) b))) U jL di U U U U (by simp [Value.cells,aa.aW]) U U fun AZ=>de (es2:=(List.map aa.cells ([(aD (aG r) a),(aD (aG r) b)]))) (m':=([(aD (aG r) a),(aD (aG r) b)]).length) 2 U U U D9 U U sm (a_ (es:=List.map aa.cells [(aD (aG r) b)]) 0 U U (by simp [aa.aW]) U) (gS _) sm (by simp [maxLen]) sm sm U fun AD AG=>?_
 try dsimp only
 refine bg 1 U<|aF<|aH<|KK g<|an<|rS (SX (cb (r:= .int .i64 2) U U U (ij ⟨dc,dc⟩)) U U)<|bg 1 U<|RK s<|eu fun R61 AP=>WS fun _ o=>rS (SX (cb (r:= .bool false) U U U gQ) U U)<|RK o<|ak fun _ AO=>aX U<|bB<|ae<|ae<|aA<|KK R<|WS fun _ p=>rP 5 [] I ?_
 refine RK p<|ar ?_
 refine LX hQ (true,0,F,E,AB,C,D,AD,AG) [7,8,9,10,2] [] I U (by (show List.all _ _=true; simp only [cond_true,fI,List.all_nil,xS,Bool.and_true]; rfl)) U U ?_
 exact ⟨fun _=>⟨Nd he om asm asm,w⟩,Nh⟩
end
section
open Go.RowKit
theorem Kx (m:qx) (gm g1:Nat):
 DD Tryz.prog 83 [] [(vP g1)] [(hO iV gm (bM vB m)),(b_ g1 62 [(Value.map (some gm))])] ([]:List Int) (fun ys x ys'=> ∃ n zs,(ys++[n]++zs).Perm (m.map (·.1))∧x=[vI n]∧ys'=ys++[n]) (fun ys=>ys.Perm (m.map (·.1))):=by
 refine sW kr Tryz.func83 U U fun l J Z A0 S Q hY M L hQ hN=>?_
 try dsimp only
 refine WS fun _ O=>rP 1 [] (mr 2 U I) ?_
 refine iG (kV:=iV) (m:=bM vB m) 1 U U BX U ⟨U,fun h=>h⟩ (by exact j1 1 U) U fun V=>?_
 try dsimp only
 refine RK O<|ax ?_
 have G:(oc m m ([]:List Int))∧(∀ p∈m,p∈m)∧(J ([]:List Int) A0)∧(Fo A0 S A0):=by exact ⟨uM,fun p hp=>hp,M,L⟩
 refine bR (ι:={z:qx×(List Int)×av // (oc m z.1 z.2.1)∧(∀ p∈z.1,p∈m)∧(J z.2.1 z.2.2)∧(Fo A0 S z.2.2)}) [0,1,5] [2,3] U U (fun z=>[]) (fun z=>[(x9 iV V gm (bM vB m) (bM vB z.1.1) none),z.1.2.2]) (fun _=>rfl) (fun _=>rfl) (fun z=>z.1.1.length) ⟨(m,([]:List Int),A0),G⟩ (dy.nil _) (aL [2,3,0,1]) ?_
 clear G
 rintro ⟨⟨left,ys,A⟩,⟨B,H,C,D⟩⟩ J3 N
 try dsimp only at B H C D
 try dsimp only
 refine WS fun _ AB=>g6 (dQ oG).inj (f:=Value.bool) 2 U U U U (fun T=>?_) (fun x y hm hn=>?_)
 ·refine rP 1 [] I ?_
  refine RK AB<|ak fun _ AA=>aX U<|bB<|ae<|ae<|aA ?_
  refine hN _ _ _ (gU (vs:=[]) trivial fun w hs=>Kz 3 U (by rw [T] at B; exact wx B) C D hs)
 try dsimp only
 refine bg 1 U<|RK AB<|ak fun _ P=>aR U<|WK P<|ax<|WS fun _ R=>rS (SX (g7 2 U U U) U U)<|bg 2 U<|RK R<|WS fun _ K=>rP 2 [] I ?_
 refine ko (k:=ys) (k':=(ys++[(x)])) 3 (by first|exact hsz|exact Nat.le_refl _) hY C D U U U (by exact ⟨x,_,nW hn hm B,U,U⟩) U U (fun B9 F E=>?_) (fun B9 F E=>?_)
 rotate_left 1
 ·refine rP 1 [] I ?_
  refine RK K<|aR U<|ar ?_
  refine hQ _ _ _ (gU (vs:=[]) trivial fun w hs=>rn 3 U F E hs)
 refine rP 1 [] I ?_
 refine RK K<|aX U<|cj<|aH<|f_ 2 U eJ U ?_
 refine aT (N ⟨((cp left x),(ys++[(x)]),B9),⟨nW hn hm B,eQ H,F,E⟩⟩ _ _ _ U (dU hm) (aU U) (aL [0,1,2,3]))
theorem My (gm:Nat):
 lq Tryz.prog 59 [(Value.map (some gm))] [] (fun (x:Nat)=>(Value.func (.func 83) [].toArray [(vP x)].toArray)) (fun (x:Nat)=>True) (fun (x:Nat)=>[(b_ x 62 [(Value.map (some gm))])]):=by
 refine dv kr Tryz.func59 U U fun D Q hQ hN=>?_
 try dsimp only
 refine WS fun _ A=>uA U U fun C=>bg 1 U<|RK A<|WS fun _ B=>rS (FU U)<|rP 1 [] I ?_
 refine RK B<|ar<|LX hQ C [0] [] I U U U U ?_
 trivial
end
section
open Go.RowKit
theorem GI (m:qx) (gm g1:Nat) (hlen:m.length≤12):
 lq Tryz.prog 85 [(vS none 0 0),(Value.func (.func 83) [].toArray [(vP g1)].toArray)] [(hO iV gm (bM vB m)),(b_ g1 62 [(Value.map (some gm))])] (fun (x:(List Int)×(OA)×Nat)=>(vS x.2.1 x.1.length x.2.2)) (fun (x:(List Int)×(OA)×Nat)=>x.1.Perm (m.map (·.1))) (fun (x:(List Int)×(OA)×Nat)=>[(own x.2.1 x.2.2 3 1 (x.1.map iC))]):=by
 refine dv kr Tryz.func85 U U fun X Q hQ hN=>?_
 try dsimp only
 refine WS fun _ AB=>uA U U fun N=>bg 1 U<|RK AB<|ak fun _ J=>WS fun _ K=>rP 1 [] I ?_
 refine RK K<|ax<|kg 1 U (by exact fun _ h=>h)<|kg 3 U (by exact fun _ h=>h)<|fY 3 1 ?_
 refine m0 (L0:=[(2,(vP N))]) (F:=[(hO iV gm (bM vB m)).ro,(b_ g1 62 [(Value.map (some gm))]).ro]) (fun k (y:(OA)×Nat)=>(∃ zs,(k++zs).Perm (m.map (·.1)))) (fun k y=>[(own y.1 y.2 3 1 (k.map iC)),(b_ N 29 [(vS y.1 k.length y.2)]),(hO iV gm (bM vB m)).ro]) (fun _ (_:Unit)=>False) (fun _ _=>[]) [0,3,4] [2,1] (none,0) rfl rfl (Kx m gm g1) rfl rfl rfl (by exact ⟨_,List.Perm.refl _⟩) (by simp only [List.forall_mem_cons,List.not_mem_nil,false_imp_iff,implies_true,and_true]; exact ⟨⟨_,sm,(dC (bV _))⟩,⟨_,sm,(dC (bV _))⟩⟩) (by rintro k x AA ⟨n,zs,_,rfl,_⟩; rfl) rfl (aU rfl) ?_ ?_ (fun _ _ _ h=>h.elim) (fun _ _ h=>h.elim)
 rotate_left 1
 ·rintro V k ⟨a,c⟩ E A
  have B:=A
  try dsimp only at B
  try dsimp only
  refine aH<|KK J<|WS fun _ C=>rP 2 [] (mc 4 U I) ?_
  refine RK C<|ar<|hQ _ _ _ (oe 0 U U<|gU (vs:=[(vS a k.length c)]) ⟨U,trivial⟩ fun w hs=>KM (k,a,c) [3] ?_ ?_ U U U hs)
  ·rfl
  ·first|exact E|exact hys
 rintro k x AA ⟨a,c⟩ l ra rb S Y K5 Qr6 T hx G L D O P
 obtain ⟨n,zs,hn,rfl,rfl⟩:=hx; have M:=hn.length_eq; simp only [List.length_append,List.length_map,List.length_singleton] at M
 have B:=G
 try dsimp only at B
 try dsimp only
 refine an<|rP 1 [] I ?_
 refine aF<|aT (L _ _ ?_)
 refine ax<|an<|rP 2 [] (mc 2 U I) ?_
 refine cZ (xs:=[.tmp 9]) (cs:=[(vI n)]) U cJ jd U U U U (by simp [Value.cells]) U U fun W=>?_
 refine de (es2:=(List.map iC (k++[n]))) (m':=(k++[n]).length) 2 U U U pT U U sm (a_ (es:=List.map iC [n]) 0 U U (by simp [bK]) U) (j6 _) os (by simp only [maxLen]; omega) sm sm U fun R H=>?_
 try dsimp only
 refine TO U AJ U U<|aF<|aH ?_
 exact D (R,H) _ _ (by exact ⟨_,hn⟩) (aL [1,2,3,4])
end
section
open Go.RowKit
theorem Ey (m:qx) (gm g1:Nat) (hlen:m.length≤12):
 lq Tryz.prog 63 [(Value.func (.func 83) [].toArray [(vP g1)].toArray)] [(hO iV gm (bM vB m)),(b_ g1 62 [(Value.map (some gm))])] (fun (x:(List Int)×(OA)×Nat)=>(vS x.2.1 x.1.length x.2.2)) (fun (x:(List Int)×(OA)×Nat)=>x.1.Perm (m.map (·.1))) (fun (x:(List Int)×(OA)×Nat)=>[(own x.2.1 x.2.2 3 1 (x.1.map iC))]):=by
 refine dv kr Tryz.func63 U U fun AA Q hQ hN=>?_
 try dsimp only
 refine WS fun _ A=>bg 1 U<|RK A<|WS fun _ B=>rP 1 [] I ?_
 refine cX (GI m gm g1 hlen) (bh [0,1]) U fun H C=>?_
 obtain ⟨E,F,G⟩:=H
 try dsimp only
 have D:=C
 refine rP 1 [] I ?_
 refine RK B<|ar<|LX hQ (E,F,G) [0] [] I U U U U ?_
 first|exact hfin|exact D
theorem Gp (m:qx) (gm g1:Nat) (hlen:m.length≤12):
 lq Tryz.prog 41 [(Value.func (.func 83) [].toArray [(vP g1)].toArray)] [(hO iV gm (bM vB m)),(b_ g1 62 [(Value.map (some gm))])] (fun (x:(OA)×Nat)=>(vS x.1 m.length x.2)) (fun (x:(OA)×Nat)=>True) (fun (x:(OA)×Nat)=>[(own x.1 x.2 3 1 ((dk (m.map (·.1))).map iC))]):=by
 refine dv kr Tryz.func41 U U fun M Q hQ hN=>?_
 try dsimp only
 refine WS fun _ E=>bg 1 U<|RK E<|WS fun _ F=>rP 1 [] I ?_
 refine cX (Ey m gm g1 hlen) (bh [0,1]) U fun L H=>?_
 obtain ⟨AA,J,K⟩:=L
 try dsimp only
 have D:=H
 refine bg 1 U<|RK F<|WS fun _ G=>rP 1 [] I ?_
 have B:=D.length_eq
 simp only [List.length_map] at B
 refine iN 0 U U U U (zE AA J K om) U j8 U (fun ms C=>?_)
 try dsimp only
 refine RK G<|WS fun _ A=>?_
 obtain rfl:=qg (C.1.trans D) C.2
 skip
 refine rP 2 [] I ?_
 refine RK A<|ar ?_
 refine LX hQ (J,K) [0] [] I U U U ?_ ?_
 ·first|rfl|(rw [B]; rfl)
 ·trivial
end
section
open Go.RowKit
theorem K_ (m:qx) (gm:Nat):
 lq Tryz.prog 57 [(Value.map (some gm))] [(hO iV gm (bM vB m))] (fun (x:Nat)=>(Value.map (some x))) (fun (x:Nat)=>True) (fun (x:Nat)=>[(hO iV x (bM vB m))]):=by
 refine dv Va Tryz.func57 U U fun F Q hQ hN=>?_
 try dsimp only
 refine WS fun _ A=>bg 1 U<|RK A<|ak fun _ B=>WS fun _ C=>bg 1 U<|rS (SX (cb (r:= .bool false) U U U (Qv BX)) U U)<|RK C<|aX U<|WK B<|WS fun _ D=>rP 1 [] I ?_
 refine rS (SX (Mn U U BX) U U)<|Lh (kV:=iV) (fn:=Tryz.f81) U U Tryz.func81 U U U kr (by exact j1 0 U) U fun E=>?_
 try dsimp only
 refine rS (SX (S4 U U BX) U U)<|rP 1 [] I ?_
 refine RK D<|ar<|LX hQ E [0] [] I U U U U ?_
 trivial
end
section
open Go.RowKit
theorem GD (r:cd) (kA:OA) (kC:Nat) (cA:OA) (cC:Nat) (bA:OA) (bC:Nat) (slA:OA) (slC:Nat) (drA:OA) (drC:Nat) (heA:OA) (heC:Nat) (tA:OA) (tN tC:Nat) (gs gw:Nat) (m:g3) (i:Int) (g1 g2:Nat) (hb: ∀ p∈m,0≤p.2.Lo∧p.2.Lo≤p.2.Hi∧p.2.Hi≤30000000):
 DD Tryz.prog 82 [] [(vP g1),(vP g2)] [(b_ gw 88 (fT.cells (fT.mk (ou r kA kC cA cC bA bC slA slC drA drC heA heC) (aN.mk tA tN tC) (Value.map (some gs))))),(hO iV gs (bM dW m)),(b_ g1 80 [(vP gw)]),(b_ g2 3 [(vI i)])] ([]:List Int) (fun ys x ys'=> ∃ n,n∈(jB m i (aD m i))∧x=[vI n]∧ys'=ys++[n]) (fun ys=> ∀ n,n∈ys↔n∈(jB m i (aD m i))):=by
 have BF:=gO (i:=i) hb
 refine sW kr Tryz.func82 U U fun l J Z A0 w0 Q hY An Am hQ hN=>?_
 try dsimp only
 refine ak fun _ Ao=>dL cu [6,7] [] [] [0,1,2,3,4] [] U U U U U<|eS U (TC 3 U cm U)<|eS U (SX (bO U U) U U)<|eS U (FA 12 U fB U)<|eS U (H0 (Value.map (some gs)) 1 U cm U U)<|eS U (TC 4 U cm U)<|eS U (SX (kJ (kV:=iV) (x:=i) (l:=m) (f:=dW) (z:=(aa.mk 0 0)) U U U nJ (dQ oG) wI (by exact j1 2 U)) U U)<|e9 U<|cq U fun T2 Aq=>AL U di fun b3=>aF (Aq _ _ (aL [1,2,3,4,5]) ?_)
 refine cq U fun T4 Ar=>fW U cv U<|aF (Ar _ _ (aL [1,2,3,4,5]) ?_)
 refine fO U<|KK Ao<|ak fun _ Ap=>WS fun _ AR=>?_
 rw [show ((List.lookup i m).getD (aa.mk 0 0))=(aD m i) from rfl]
 refine rP 3 [] (mc 0 U I) ?_
 refine ko (k:=([]:List Int)) (k':=(([]:List Int)++[((aD m i).Lo)])) 1 (by first|exact hsz|exact Nat.le_refl _) hY An Am U U U (by exact ⟨_,bZ ..,U,U⟩) U U (fun B7 u s=>?_) (fun B7 u s=>?_)
 rotate_left 1
 ·refine rP 1 [] I ?_
  refine RK AR<|aR U<|ar ?_
  refine hQ _ _ _ (gU (vs:=[]) trivial fun w hs=>rn 1 U u s hs)
 refine bg 1 U<|RK AR<|aX U<|WK Ap<|WS fun _ AA=>fF 1 [] (mr 4 U I) U<|rS (SX (bO U U) U U)<|rP 2 [] (mr 2 U I) ?_
 refine iG (kV:=iV) (m:=bM dW m) 3 U U nJ U ⟨U,fun h=>h⟩ (by exact j1 3 U) U fun At=>?_
 try dsimp only
 refine RK AA<|ax ?_
 have j:(ym m i (aD m i) m (([]:List Int)++[((aD m i).Lo)]))∧(∀ p∈m,p∈m)∧(J (([]:List Int)++[((aD m i).Lo)]) B7)∧(Fo A0 w0 B7):=by exact ⟨IB,fun p hp=>hp,asm,asm⟩
 refine bR (ι:={z:g3×(List Int)×av // (ym m i (aD m i) z.1 z.2.1)∧(∀ p∈z.1,p∈m)∧(J z.2.1 z.2.2)∧(Fo A0 w0 z.2.2)}) [0,1,2,4,24] [1,3,4,5,6] U U (fun z=>[]) (fun z=>[(x9 iV At gs (bM dW m) (bM dW z.1.1) none),z.1.2.2]) (fun _=>rfl) (fun _=>rfl) (fun z=>z.1.1.length) ⟨(m,(([]:List Int)++[((aD m i).Lo)]),B7),j⟩ (dy.nil _) (aL [1,3,4,5,6,0,2]) ?_
 clear j
 rintro ⟨⟨left,ys,A⟩,⟨D,B,E,F⟩⟩ J12 G
 try dsimp only at D B E F
 try dsimp only
 refine WS fun _ o=>g6 (dQ oG).inj (f:=dW) 5 U U U U (fun q=>?_) (fun x y hm hn=>?_)
 ·refine rP 1 [] I ?_
  refine RK o<|ak fun _ Au=>aX U<|bB<|ae<|ae<|aA ?_
  refine hN _ _ _ (gU (vs:=[]) trivial fun w hs=>Kz 6 U (by rw [q] at D; exact MT D) E F hs)
 try dsimp only
 refine bg 1 U<|RK o<|ak fun _ AB=>aR U<|WK AB<|ax<|WS fun _ AC=>rS (SX (g7 5 U U U) U U)<|bg 2 U<|AL U di fun BE=>bg 1 U<|fW U cv U<|RK AC<|WS fun _ AD=>rP 1 [] I ?_
 have As:=hb _ (B _ hm)
 dsimp only at As
 refine fF 5 [] (mc 0 U I) U<|rS (SX (bj (xs:=[(0,.tmp 32),(1,.tmp 35)]) (cs:=[(vI (y.Lo+1)),(vI (y.Hi+1))]) U U (bk SR U)) U U)<|bg 1 U<|RK AD<|ax<|jO 3<|eu fun R19 c=>WS fun _ AE=>rS (SX (cb (r:= .bool true) U U U gQ) U U)<|RK AE<|ak fun _ AF=>aR U<|WK AF<|ak fun _ X=>ax<|WS fun _ AG=>rS (SX (qF (v:=(vI (y.Lo+1))) 0 U U U Gb cm U dc U) U U)<|bg 1 U<|RK AG<|WS fun _ M=>rP 4 [] (mr 5 U I) ?_
 refine cf (t:=43) U (bq fun q=>?_) (br fun q=>?_)
 ·refine bg 14 U<|RK M<|aX U<|cj<|aH<|KK X<|an<|rS (SX (cb (r:= .int .i64 1) U U U (ij ⟨dc,dc⟩)) U U)<|bg 1 U<|RK c<|eu fun R73 g=>WS fun _ AV=>rS (SX (cb (r:= .bool true) U U U gQ) U U)<|RK AV<|ak fun _ AW=>aR U<|WK AW<|ak fun _ b=>ax<|WS fun _ AX=>rS (SX (qF (v:=(vI (y.Hi+1))) 1 U U U Gb cm U dc U) U U)<|bg 1 U<|RK AX<|WS fun _ P=>rP 4 [] (mr 5 U I) ?_
  refine cf (t:=43) U (bq fun Ak=>?_) (br fun Ak=>?_)
  ·refine bg 14 U<|RK P<|aX U<|cj<|aH<|KK b<|an<|rS (SX (cb (r:= .int .i64 2) U U U (ij ⟨dc,dc⟩)) U U)<|rP 1 [] I ?_
   refine RK g<|eu fun R91 BC=>WS fun _ Aa=>rS (SX (cb (r:= .bool false) U U U gQ) U U)<|RK Aa<|ak fun _ A4=>aX U<|bB<|ae<|ae<|aA<|aH<|f_ 6 U eJ U ?_
   refine aT (G ⟨((cp left x),ys,A),⟨kQ hn hm B D (fun n C=>by first|exact C|(simp [C]; done)) (fun n C=>by exact .inl C) (fun L n C K=>by simp only [ew,List.not_mem_nil,or_false] at C; rcases C with rfl|rfl<;>first|(simp; done)|(exfalso; omega)),eQ B,E,F⟩⟩ _ _ _ rfl (dU hm) (aU rfl) (aL [1,2,3,4,5,6,7]))
  refine fF 5 [] (mc 1 U I) U<|cZ (xs:=[.tmp 48]) (cs:=[(vI (y.Hi+1))]) U cJ jd U U U U (by simp [Value.cells]) U U fun Ae=>rS (CL (d_.eq (jT ((aD m i).Lo) ((aD m i).Hi) ([(y.Hi+1)]) (some ⟨Ae,0,none⟩) 1 om) cU) (ay (a_ 0 U U (by simp [bK]) U)<|aK) U)<|rP 2 [] I ?_
  refine cf (t:=52) U (aP fun Al=>?_) (aQ fun Al=>?_)
  ·refine bg 5 U<|RK P<|aX U<|cj<|aH<|KK b<|an<|rS (SX (cb (r:= .int .i64 2) U U U (ij ⟨dc,dc⟩)) U U)<|rP 1 [] I ?_
   refine RK g<|eu fun R88 BB=>WS fun _ AZ=>rS (SX (cb (r:= .bool false) U U U gQ) U U)<|RK AZ<|ak fun _ A3=>aX U<|bB<|ae<|ae<|aA<|aH<|f_ 7 U eJ U ?_
   refine aT (G ⟨((cp left x),ys,A),⟨kQ hn hm B D (fun n C=>by first|exact C|(simp [C]; done)) (fun n C=>by exact .inl C) (fun L n C K=>by simp only [ew,List.not_mem_nil,or_false] at C; rcases C with rfl|rfl<;>first|(simp; done)|(exfalso; omega)),eQ B,E,F⟩⟩ _ _ _ rfl (dU hm) (aU rfl) (aL [2,3,4,5,6,7,8]))
  refine rP 2 [] I ?_
  refine ko (k:=ys) (k':=(ys++[((y.Hi+1))])) 8 (by first|exact hsz|exact Nat.le_refl _) hY E F U U U (by exact ⟨_,mF (B _ hm) dso (by first|exact .inl rfl|exact .inr U) om,U,U⟩) U U (fun B82 W T=>?_) (fun B82 W T=>?_)
  rotate_left 1
  ·refine rP 2 [] I ?_
   refine RK P<|aR U<|ar ?_
   refine hQ _ _ _ (gU (vs:=[]) trivial fun w hs=>rn 8 U W T hs)
  refine bg 2 U<|RK P<|aX U<|cj<|aH<|KK b<|an<|rS (SX (cb (r:= .int .i64 2) U U U (ij ⟨dc,dc⟩)) U U)<|rP 1 [] I ?_
  refine RK g<|eu fun R85 BA=>WS fun _ AY=>rS (SX (cb (r:= .bool false) U U U gQ) U U)<|RK AY<|ak fun _ A2=>aX U<|bB<|ae<|ae<|aA<|aH<|f_ 7 U eJ U ?_
  refine aT (G ⟨((cp left x),(ys++[((y.Hi+1))]),B82),⟨kQ hn hm B D (fun n C=>by first|exact C|(simp [C]; done)) (fun n C=>by (simp only [ku,bX] at C; rcases C with C|rfl<;>first|exact .inl C|exact .inr (mF (B _ hm) dso sm om))) (fun L n C K=>by simp only [ew,List.not_mem_nil,or_false] at C; rcases C with rfl|rfl<;>first|(simp; done)|(exfalso; omega)),eQ B,W,T⟩⟩ _ _ _ rfl (dU hm) (aU rfl) (aL [2,3,4,5,6,7,8]))
 refine rP 5 [] (mc 1 U I) ?_
 refine cZ (xs:=[.tmp 48]) (cs:=[(vI (y.Lo+1))]) U cJ jd U U U U (by simp [Value.cells]) U U fun Ab=>?_
 refine rS (CL (d_.eq (jT ((aD m i).Lo) ((aD m i).Hi) ([(y.Lo+1)]) (some ⟨Ab,0,none⟩) 1 (by (simp; done))) cU) (ay (a_ 0 U U (by simp [bK]) U)<|aK) U) ?_
 refine rP 2 [] I ?_
 refine cf (t:=52) U (aP fun Af=>?_) (aQ fun Af=>?_)
 ·refine bg 5 U<|RK M<|aX U<|cj<|aH<|KK X<|an<|rS (SX (cb (r:= .int .i64 1) U U U (ij ⟨dc,dc⟩)) U U)<|bg 1 U<|RK c<|eu fun R52 e=>WS fun _ AO=>rS (SX (cb (r:= .bool true) U U U gQ) U U)<|RK AO<|ak fun _ AP=>aR U<|WK AP<|ak fun _ a=>ax<|WS fun _ AQ=>rS (SX (qF (v:=(vI (y.Hi+1))) 1 U U U Gb cm U dc U) U U)<|bg 1 U<|RK AQ<|WS fun _ O=>rP 4 [] (mr 6 U I) ?_
  refine cf (t:=43) U (bq fun Ai=>?_) (br fun Ai=>?_)
  ·refine bg 14 U<|RK O<|aX U<|cj<|aH<|KK a<|an<|rS (SX (cb (r:= .int .i64 2) U U U (ij ⟨dc,dc⟩)) U U)<|rP 1 [] I ?_
   refine RK e<|eu fun R70 A_=>WS fun _ AU=>rS (SX (cb (r:= .bool false) U U U gQ) U U)<|RK AU<|ak fun _ A1=>aX U<|bB<|ae<|ae<|aA<|aH<|f_ 7 U eJ U ?_
   refine aT (G ⟨((cp left x),ys,A),⟨kQ hn hm B D (fun n C=>by first|exact C|(simp [C]; done)) (fun n C=>by exact .inl C) (fun L n C K=>by simp only [ew,List.not_mem_nil,or_false] at C; rcases C with rfl|rfl<;>first|(simp; done)|(exfalso; omega)),eQ B,E,F⟩⟩ _ _ _ rfl (dU hm) (aU rfl) (aL [2,3,4,5,6,7,8]))
  refine rP 5 [] (mc 2 U I) ?_
  refine cZ (xs:=[.tmp 48]) (cs:=[(vI (y.Hi+1))]) U cJ jd U U U U (by simp [Value.cells]) U U fun Ad=>?_
  refine rS (CL (d_.eq (jT ((aD m i).Lo) ((aD m i).Hi) ([(y.Hi+1)]) (some ⟨Ad,0,none⟩) 1 (by (simp; done))) cU) (ay (a_ 0 U U (by simp [bK]) U)<|aK) U) ?_
  refine rP 2 [] I ?_
  refine cf (t:=52) U (aP fun Aj=>?_) (aQ fun Aj=>?_)
  ·refine bg 5 U<|RK O<|aX U<|cj<|aH<|KK a<|an<|rS (SX (cb (r:= .int .i64 2) U U U (ij ⟨dc,dc⟩)) U U)<|rP 1 [] I ?_
   refine RK e<|eu fun R67 A9=>WS fun _ AT=>rS (SX (cb (r:= .bool false) U U U gQ) U U)<|RK AT<|ak fun _ Az=>aX U<|bB<|ae<|ae<|aA<|aH<|f_ 8 U eJ U ?_
   refine aT (G ⟨((cp left x),ys,A),⟨kQ hn hm B D (fun n C=>by first|exact C|(simp [C]; done)) (fun n C=>by exact .inl C) (fun L n C K=>by simp only [ew,List.not_mem_nil,or_false] at C; rcases C with rfl|rfl<;>first|(simp; done)|(exfalso; omega)),eQ B,E,F⟩⟩ _ _ _ rfl (dU hm) (aU rfl) (aL [3,4,5,6,7,8,9]))
  refine rP 2 [] I ?_
  refine ko (k:=ys) (k':=(ys++[((y.Hi+1))])) 9 (by first|exact hsz|exact Nat.le_refl _) hY E F U U U (by exact ⟨_,mF (B _ hm) dso (by first|exact .inl rfl|exact .inr U) om,U,U⟩) U U (fun B61 V S=>?_) (fun B61 V S=>?_)
  rotate_left 1
  ·refine rP 2 [] I ?_
   refine RK O<|aR U<|ar ?_
   refine hQ _ _ _ (gU (vs:=[]) trivial fun w hs=>rn 9 U V S hs)
  refine bg 2 U<|RK O<|aX U<|cj<|aH<|KK a<|an<|rS (SX (cb (r:= .int .i64 2) U U U (ij ⟨dc,dc⟩)) U U)<|rP 1 [] I ?_
  refine RK e<|eu fun R64 A8=>WS fun _ AS=>rS (SX (cb (r:= .bool false) U U U gQ) U U)<|RK AS<|ak fun _ Ay=>aX U<|bB<|ae<|ae<|aA<|aH<|f_ 8 U eJ U ?_
  refine aT (G ⟨((cp left x),(ys++[((y.Hi+1))]),B61),⟨kQ hn hm B D (fun n C=>by first|exact C|(simp [C]; done)) (fun n C=>by (simp only [ku,bX] at C; rcases C with C|rfl<;>first|exact .inl C|exact .inr (mF (B _ hm) dso sm om))) (fun L n C K=>by simp only [ew,List.not_mem_nil,or_false] at C; rcases C with rfl|rfl<;>first|(simp; done)|(exfalso; omega)),eQ B,V,S⟩⟩ _ _ _ rfl (dU hm) (aU rfl) (aL [3,4,5,6,7,8,9]))
 refine rP 2 [] I ?_
 refine ko (k:=ys) (k':=(ys++[((y.Lo+1))])) 8 (by first|exact hsz|exact Nat.le_refl _) hY E F U U U (by exact ⟨_,mF (B _ hm) dso (by first|exact .inl rfl|exact .inr U) om,U,U⟩) U U (fun B28 BG H=>?_) (fun B28 BG H=>?_)
 rotate_left 1
 ·refine rP 2 [] I ?_
  refine RK M<|aR U<|ar ?_
  refine hQ _ _ _ (gU (vs:=[]) trivial fun w hs=>rn 8 U BG H hs)
 refine bg 2 U<|RK M<|aX U<|cj<|aH<|KK X<|an<|rS (SX (cb (r:= .int .i64 1) U U U (ij ⟨dc,dc⟩)) U U)<|bg 1 U<|RK c<|eu fun R31 d=>WS fun _ AH=>rS (SX (cb (r:= .bool true) U U U gQ) U U)<|RK AH<|ak fun _ AI=>aR U<|WK AI<|ak fun _ Y=>ax<|WS fun _ AJ=>rS (SX (qF (v:=(vI (y.Hi+1))) 1 U U U Gb cm U dc U) U U)<|bg 1 U<|RK AJ<|WS fun _ N=>rP 4 [] (mr 6 U I) ?_
 refine cf (t:=43) U (bq fun Ag=>?_) (br fun Ag=>?_)
 ·refine bg 14 U<|RK N<|aX U<|cj<|aH<|KK Y<|an<|rS (SX (cb (r:= .int .i64 2) U U U (ij ⟨dc,dc⟩)) U U)<|rP 1 [] I ?_
  refine RK d<|eu fun R49 A7=>WS fun _ AN=>rS (SX (cb (r:= .bool false) U U U gQ) U U)<|RK AN<|ak fun _ Ax=>aX U<|bB<|ae<|ae<|aA<|aH<|f_ 7 U eJ U ?_
  refine aT (G ⟨((cp left x),(ys++[((y.Lo+1))]),B28),⟨kQ hn hm B D (fun n C=>by first|exact C|(simp [C]; done)) (fun n C=>by (simp only [ku,bX] at C; rcases C with C|rfl<;>first|exact .inl C|exact .inr (mF (B _ hm) dso sm om))) (fun L n C K=>by simp only [ew,List.not_mem_nil,or_false] at C; rcases C with rfl|rfl<;>first|(simp; done)|(exfalso; omega)),eQ B,BG,H⟩⟩ _ _ _ rfl (dU hm) (aU rfl) (aL [2,3,4,5,6,7,8]))
 refine rP 5 [] (mc 2 U I) ?_
 refine cZ (xs:=[.tmp 48]) (cs:=[(vI (y.Hi+1))]) U cJ jd U U U U (by simp [Value.cells]) U U fun Ac=>?_
 refine rS (CL (d_.eq (jT ((aD m i).Lo) ((aD m i).Hi) ([(y.Hi+1)]) (some ⟨Ac,0,none⟩) 1 (by (simp; done))) cU) (ay (a_ 0 U U (by simp [bK]) U)<|aK) U) ?_
 refine rP 2 [] I ?_
 refine cf (t:=52) U (aP fun Ah=>?_) (aQ fun Ah=>?_)
 ·refine bg 5 U<|RK N<|aX U<|cj<|aH<|KK Y<|an<|rS (SX (cb (r:= .int .i64 2) U U U (ij ⟨dc,dc⟩)) U U)<|rP 1 [] I ?_
  refine RK d<|eu fun R46 A6=>WS fun _ AM=>rS (SX (cb (r:= .bool false) U U U gQ) U U)<|RK AM<|ak fun _ Aw=>aX U<|bB<|ae<|ae<|aA<|aH<|f_ 8 U eJ U ?_
  refine aT (G ⟨((cp left x),(ys++[((y.Lo+1))]),B28),⟨kQ hn hm B D (fun n C=>by first|exact C|(simp [C]; done)) (fun n C=>by (simp only [ku,bX] at C; rcases C with C|rfl<;>first|exact .inl C|exact .inr (mF (B _ hm) dso sm om))) (fun L n C K=>by simp only [ew,List.not_mem_nil,or_false] at C; rcases C with rfl|rfl<;>first|(simp; done)|(exfalso; omega)),eQ B,BG,H⟩⟩ _ _ _ rfl (dU hm) (aU rfl) (aL [3,4,5,6,7,8,9]))
 refine rP 2 [] I ?_
 refine ko (k:=(ys++[((y.Lo+1))])) (k':=((ys++[((y.Lo+1))])++[((y.Hi+1))])) 9 (by first|exact hsz|exact Nat.le_refl _) hY BG H U U U (by exact ⟨_,mF (B _ hm) dso (by first|exact .inl rfl|exact .inr U) om,U,U⟩) U U (fun B40 BD R=>?_) (fun B40 BD R=>?_)
 rotate_left 1
 ·refine rP 2 [] I ?_
  refine RK N<|aR U<|ar ?_
  refine hQ _ _ _ (gU (vs:=[]) trivial fun w hs=>rn 9 U BD R hs)
 refine bg 2 U<|RK N<|aX U<|cj<|aH<|KK Y<|an<|rS (SX (cb (r:= .int .i64 2) U U U (ij ⟨dc,dc⟩)) U U)<|rP 1 [] I ?_
 refine RK d<|eu fun R43 A5=>WS fun _ AK=>rS (SX (cb (r:= .bool false) U U U gQ) U U)<|RK AK<|ak fun _ Av=>aX U<|bB<|ae<|ae<|aA<|aH<|f_ 8 U eJ U ?_
 refine aT (G ⟨((cp left x),((ys++[((y.Lo+1))])++[((y.Hi+1))]),B40),⟨kQ hn hm B D (fun n C=>by first|exact C|(simp [C]; done)) (fun n C=>by (simp only [ku,bX] at C; rcases C with (C|rfl)|rfl<;>first|exact .inl C|exact .inr (mF (B _ hm) dso sm om))) (fun L n C K=>by simp only [ew,List.not_mem_nil,or_false] at C; rcases C with rfl|rfl<;>first|(simp; done)|(exfalso; omega)),eQ B,BD,R⟩⟩ _ _ _ rfl (dU hm) (aU rfl) (aL [3,4,5,6,7,8,9]))
theorem Ll (gw:Nat) (i:Int):
 lq Tryz.prog 58 [(vP gw),(vI i)] [] (fun (x:Nat×Nat)=>(Value.func (.func 82) [].toArray [(Value.pointer (some ⟨x.1,0,none⟩)),(Value.pointer (some ⟨x.2,0,none⟩))].toArray)) (fun (x:Nat×Nat)=>True) (fun (x:Nat×Nat)=>[(b_ x.1 80 [(vP gw)]),(b_ x.2 3 [(vI i)])]):=by
 refine dv kr Tryz.func58 U U fun E Q hQ hN=>?_
 try dsimp only
 refine WS fun _ A=>uA U U fun C=>uA U U fun D=>bg 1 U<|RK A<|WS fun _ B=>rS (FU U)<|rP 1 [] I ?_
 refine RK B<|ar<|LX hQ (C,D) [1,0] [] I U U U U ?_
 trivial
end
section
open Go.RowKit
theorem Ag (r:cd) (kA:OA) (kC:Nat) (cA:OA) (cC:Nat) (bA:OA) (bC:Nat) (slA:OA) (slC:Nat) (drA:OA) (drC:Nat) (heA:OA) (heC:Nat) (tA:OA) (tN tC:Nat) (gs gw:Nat) (m:g3) (i:Int) (hb: ∀ p∈m,0≤p.2.Lo∧p.2.Lo≤p.2.Hi∧p.2.Hi≤30000000) (hi:m.lookup i≠none) (hm12:m.length≤12):
 lq Tryz.prog 36 [(vP gw),(vI i)] [(b_ gw 88 (fT.cells (fT.mk (ou r kA kC cA cC bA bC slA slC drA drC heA heC) (aN.mk tA tN tC) (Value.map (some gs))))),(hO iV gs (bM dW m))] (fun (x:(OA)×Nat)=>(vS x.1 ((dI m i (aD m i)).length) x.2)) (fun (x:(OA)×Nat)=>True) (fun (x:(OA)×Nat)=>[(own x.1 x.2 3 1 ((dI m i (aD m i)).map iC))]):=by
 refine dv kr Tryz.func36 U U fun w0 Q hQ hN=>?_
 try dsimp only
 refine WS fun _ Ap=>uA U U fun b2=>uA U U fun b3=>rP 1 [] I ?_
 refine RK Ap<|WS fun _ Aq=>nt (kV:=iV) U U fun Aw=>?_
 try dsimp only
 refine AL U Uv fun b6=>HW U U0 U U<|RK Aq<|ak fun _ Ar=>WS fun _ As=>fF 1 [] (mc 3 U I) U<|rS (SX (bO U U) U U)<|fF 2 [] (mr 4 U I) U<|rS (SX (Ev U U nJ (by exact j1 5 U)) U U)<|rP 1 [] I ?_
 refine RK As<|ax ?_
 have A:(0≤m.length)∧(iZ ([]:qx) (fun u=>1≤u∧u≤(0:Int))):=by exact ⟨Nat.zero_le _,L_ fun k=>by omega⟩
 refine bR (ι:={z:Nat×qx // (z.1≤m.length)∧(iZ z.2 (fun u=>1≤u∧u≤(z.1:Int)))}) [2,3,5,20] [0,2,3,4,5] U U (fun z=>[(21,(vI (z.1.1:Int)))]) (fun z=>[(hO iV Aw (bM vB z.1.2))]) (fun _=>rfl) (fun _=>rfl) (fun z=>m.length-z.1.1) ⟨(0,([]:qx)),A⟩ (aU U) (aL [0,2,3,4,5,1]) ?_
 clear A
 rintro ⟨⟨n,nv⟩,⟨j,K⟩⟩ J9 Ao
 try dsimp only at j K
 try dsimp only
 refine WS fun _ AD=>rP 1 [] I ?_
 refine RK AD<|ak fun _ AE=>cE U (aQ fun Al=>?_) (aP fun Al=>?_)
 ·refine WK AE<|ak fun _ AF=>ax<|WS fun _ AG=>bg 2 U<|RK AG<|an<|fF 3 [] (mc 0 U I) U<|iU (kV:=iV) (x:=((n:Int)+1)) (C':=[_,_,_,_,_,(hO iV Aw (bM vB (eh nv ((n:Int)+1) true)))]) 5 U U U U BX (dQ oG) U (gJ _ _ _ _).symm U<|aF<|aH<|KK AF<|an<|rP 2 [] I ?_
  refine aF ?_
  have Af:(vI (((n+1):Nat):Int))=(vI ((n:Int)+1)):=by exact cI om
  refine aT (Ao ⟨((n+1),(eh nv ((n:Int)+1) true)),⟨om,(JV K om).yc fun k=>by omega⟩⟩ _ _ _ U os (cP 4<|bo U Af<|dy.nil _) (aL [0,1,2,3,4,5]))
 refine bB<|ae<|ae<|aA<|KK Ar<|WS fun _ AH=>rP 1 [] (mc 0 U I) ?_
 refine cX (K_ nv Aw) (bh [5]) U fun G A8=>?_
 try dsimp only
 refine bg 1 U<|RK AH<|ak fun _ AI=>WS fun _ AJ=>rP 2 [0,1] (mc 3 U (mc 2 U I)) ?_
 refine cX (Ll gw i) (aK) U fun A0 A9=>?_
 obtain ⟨Z,c⟩:=A0
 try dsimp only
 refine RK AJ<|ax<|kg 6 U (by exact fun _ h=>h)<|kg 8 U (by exact fun _ h=>h) ?_
 refine m0 (L0:=[(2,(vP b2)),(3,(vP b3)),(5,(vP b6)),(7,(Value.map (some G)))]) (F:=[(b_ gw 88 (fT.cells (fT.mk (ou r kA kC cA cC bA bC slA slC drA drC heA heC) (aN.mk tA tN tC) (Value.map (some gs))))).ro,(hO iV gs (bM dW m)).ro,(b_ Z 80 [(vP gw)]),(b_ c 3 [(vI i)])]) (fun k (y:qx)=>(iZ y (uE m i k))) (fun k y=>[(hO iV G (bM vB nv)),(b_ b6 62 [(Value.map (some Aw))]),(b_ b3 3 [(vI i)]),(b_ b2 80 [(vP gw)]),(b_ gw 88 (fT.cells (fT.mk (ou r kA kC cA cC bA bC slA slC drA drC heA heC) (aN.mk tA tN tC) (Value.map (some gs))))).ro,(hO iV gs (bM dW m)).ro,(hO iV Aw (bM vB y))]) (fun _ (_:Unit)=>False) (fun _ _=>[]) [4,5,6,7,8,9,10] [1,0,2,3] nv rfl rfl (GD r kA kC cA cC bA bC slA slC drA drC heA heC tA tN tC gs gw m i Z c (by exact hb)) rfl rfl rfl (by exact JZ (K.yc fun k=>by omega)) (by simp only [List.forall_mem_cons,List.not_mem_nil,false_imp_iff,implies_true,and_true]; exact ⟨⟨_,sm,(dC (bV _))⟩,⟨_,sm,(dC (bV _))⟩,⟨_,sm,(bV _)⟩,⟨_,sm,(bV _)⟩⟩) (by rintro k x k2 ⟨n,_,rfl,_⟩; rfl) rfl (aU rfl) ?_ ?_ (fun _ _ _ h=>h.elim) (fun _ _ h=>h.elim)
 rotate_left 1
 ·rintro BJ k nw Ah g
  have T:=g
  try dsimp only
  refine aH<|KK AI<|ak fun _ Aa=>WS fun _ Ab=>rP 1 [] (mc 6 U I) ?_
  refine tW 11 U U BX U U fun Ay=>?_
  try dsimp only
  refine RK Ab<|ax ?_
  have A:(∀ p∈nw,p∈nw)∧(iZ nv (fun u=>(1≤u∧u≤(m.length:Int))∧ ¬ (uE m i k u∧u ∉ nw.map (·.1)))):=by exact ⟨fun p hp=>hp,K.yc fun u=>⟨fun q=>⟨om,fun z=>z.2 ((T.2 u).2 z.1)⟩,fun q=>by omega⟩⟩
  refine bR (ι:={z:qx×qx // (∀ p∈z.1,p∈nw)∧(iZ z.2 (fun u=>(1≤u∧u≤(m.length:Int))∧ ¬ (uE m i k u∧u ∉ z.1.map (·.1))))}) [7,68] [0,1,2,9,10] U U (fun z=>[]) (fun z=>[(hO iV G (bM vB z.1.2)),(zk iV Ay Aw (bM vB nw) (bM vB z.1.1) none)]) (fun _=>rfl) (fun _=>rfl) (fun z=>z.1.1.length) ⟨(nw,nv),A⟩ (dy.nil _) (aL [0,1,2,9,10,5,11]) ?_
  clear A
  rintro ⟨⟨left,rk⟩,⟨A3,J⟩⟩ J55 AC
  try dsimp only at A3 J
  try dsimp only
  refine WS fun _ X=>rG (dQ oG).inj (f:=Value.bool) 6 U U U U (fun An=>?_) (fun u v Ai BC=>?_)
  rotate_left 1
  ·try dsimp only
   refine bg 1 U<|RK X<|ak fun _ Ad=>aR U<|WK Ad<|ax<|WS fun _ Ae=>rS (SX (rX 6 U U U) U U)<|bg 2 U<|RK Ae<|an<|rP 2 [] I ?_
   refine pw (kV:=iV) (x:=u) (C':=[_,_,_,_,_,(hO iV G (bM vB (cp rk u))),_]) 5 U U U U BX (dQ oG) U (lO _ _ _).symm U<|aF<|aH<|f_ 6 U xV U ?_
   refine aT (AC ⟨((cp left u),(cp rk u)),⟨eQ A3,Nj A3 T Ai J⟩⟩ _ _ _ U (dU Ai) (aU U) (aL [0,1,2,3,4,5,6]))
  refine rP 1 [] I ?_
  refine RK X<|ak fun _ A7=>aX U<|bB<|ae<|ae<|aA<|KK Aa<|WS fun _ Ac=>?_
  have Aj:iZ rk (fun u=>(1≤u∧u≤(m.length:Int))∧ ¬ uE m i k u):=J.yc fun u=>⟨fun q=>⟨q.1,fun z=>q.2 ⟨z,by rw [An]; simp⟩⟩,fun q=>⟨q.1,fun z=>q.2 z.1⟩⟩
  have Y:dk (rk.map (·.1))=(dI m i (aD m i)):=EK hi Ah Aj
  have BE:rk.length≤m.length:=IP Aj fun k q=>q.1
  have At:rk.length=(dI m i (aD m i)).length:=by rw [← Y]; simp
  refine rP 1 [] I ?_
  refine cX (My G) (aK) U fun Ak A_=>?_
  try dsimp only
  refine cX (Gp rk G Ak om) (bh [6,0]) U fun A1 BA=>?_
  obtain ⟨o,AA⟩:=A1
  try dsimp only
  rw [Y]
  refine rP 1 [] I ?_
  refine RK Ac<|ar<|hQ _ _ _ (oe 2 U U<|gU (vs:=[(vS o rk.length AA)]) ⟨U,trivial⟩ fun w hs=>KM (o,AA) [0] ?_ ?_ U U U hs)
  ·(rw [← At]; rfl)
  ·trivial
 rintro k x k2 nw l ra rb S w1 K26 Qr27 BH hx e AK d Az A2
 obtain ⟨n,BD,rfl,rfl⟩:=hx
 have T:=e
 try dsimp only
 refine an<|rP 1 [] I ?_
 refine aF<|aT (AK _ _ ?_)
 refine ax<|WS fun _ AM=>bg 2 U<|RK AM<|ak fun _ AN=>WS fun _ AO=>fF 1 [] (mc 4 U I) U<|rS (SX (bO U U) U U)<|rP 2 [] (mr 5 U I) ?_
 refine iG (kV:=iV) (m:=bM dW m) 6 U U nJ U ⟨U,fun h=>h⟩ (by exact j1 6 U) U fun Ax=>?_
 try dsimp only
 refine RK AO<|ax ?_
 have A:((1:Int)+(iL m i n:Int)=1+(iL m i n:Int))∧((1:Int)+(kO m i n:Int)=1+(kO m i n:Int))∧(∀ p∈m,p∈m)∧(1≤(1:Int)∧1≤(1:Int)):=by exact ⟨rfl,rfl,fun p hp=>hp,om⟩
 refine bR (ι:={z:g3×Int×Int // (z.2.1+(iL z.1 i n:Int)=1+(iL m i n:Int))∧(z.2.2+(kO z.1 i n:Int)=1+(kO m i n:Int))∧(∀ p∈z.1,p∈m)∧(1≤z.2.1∧1≤z.2.2)}) [2,3,5,7,8,38] [1,2,3,4,5,6,7,8] U U (fun z=>[(9,(vI z.1.2.1)),(10,(vI z.1.2.2))]) (fun z=>[(x9 iV Ax gs (bM dW m) (bM dW z.1.1) none)]) (fun _=>rfl) (fun _=>rfl) (fun z=>z.1.1.length) ⟨(m,(1:Int),(1:Int)),A⟩ (aU U) (aL [1,2,3,4,5,6,7,8,0]) ?_
 clear A
 rintro ⟨⟨left,s,t⟩,⟨C,D,B,R⟩⟩ J33 L
 try dsimp only at C D B R
 try dsimp only
 have Au:=F_ (m:=m) (i:=i) (n:=n)
 have Av:=I8 (m:=m) (i:=i) (n:=n)
 refine WS fun _ V=>g6 (dQ oG).inj (f:=dW) 8 U U U U (fun P=>?_) (fun x y hm hn=>?_)
 ·refine bg 1 U<|RK V<|ak fun _ A6=>aX U<|bB<|ae<|ae<|aA<|KK AN<|WS fun _ AP=>rP 2 [] I ?_
  refine RK AP<|ax ?_
  have A:(s≤s∧(s≤t+1∨s=s))∧(iZ nw (fun u=>uE m i k u∧ ¬ (s≤u∧u<s))):=by exact ⟨⟨Int.le_refl _,.inr rfl⟩,T.yc fun u=>⟨fun q=>⟨q,fun z=>by omega⟩,fun q=>q.1⟩⟩
  refine bR (ι:={z:Int×qx // (s≤z.1∧(z.1≤t+1∨z.1=s))∧(iZ z.2 (fun u=>uE m i k u∧ ¬ (s≤u∧u<z.1)))}) [2,3,5,7,8,9,10] [0,1,2,3,4,5,6,8] U U (fun z=>[(13,(vI z.1.1))]) (fun z=>[(hO iV Aw (bM vB z.1.2))]) (fun _=>rfl) (fun _=>rfl) (fun z=>(t+1-z.1.1).toNat) ⟨(s,nw),A⟩ (aU U) (aL [0,1,2,3,4,5,6,8,7]) ?_
  clear A
  rintro ⟨⟨q,n2⟩,⟨N,H⟩⟩ J37 AB
  try dsimp only at N H
  try dsimp only
  have Au:=F_ (m:=m) (i:=i) (n:=n)
  have Av:=I8 (m:=m) (i:=i) (n:=n)
  have BF:s=1+(iL m i n:Int):=by rw [P] at C; simp only [yS] at C; omega
  have BG:t=1+(kO m i n:Int):=by rw [P] at D; simp only [Bl] at D; omega
  refine ak fun _ AQ=>WS fun _ AR=>rP 3 [] I ?_
  refine RK AR<|bS U (aP fun Am=>?_) (aQ fun Am=>?_)
  ·refine bB<|ae<|ae<|aA<|aH ?_
   exact d n2 _ _ (by exact Ka (a:=s) (b:=t) (by rw [P,yS] at C; omega) (by rw [P,Bl] at D; omega) (H.yc fun u=>⟨fun z=>⟨z.1,fun w=>z.2 om⟩,fun z=>⟨z.1,fun w=>z.2 om⟩⟩)) (aL [0,1,2,3,4,5,6,8])
  refine WK AQ<|ak fun _ AS=>ax<|an<|fF 2 [] (mc 2 U I) U<|pw (kV:=iV) (x:=q) (C':=[_,_,_,_,_,_,_,_,(hO iV Aw (bM vB (cp n2 q)))]) 8 U U U U BX (dQ oG) U (lO _ _ _).symm U<|aF<|aH<|KK AS<|an<|rP 3 [] I ?_
  refine aF ?_
  refine aT (AB ⟨((q+1),(cp n2 q)),⟨om,Ea N.1 H⟩⟩ _ _ _ U dso (aU U) (aL [0,1,2,3,4,5,6,7,8]))
 try dsimp only
 refine bg 1 U<|RK V<|ak fun _ AT=>aR U<|WK AT<|ax<|WS fun _ AU=>rS (SX (g7 8 U U U) U U)<|bg 2 U<|AL U di fun BB=>bg 1 U<|fW U cv U<|RK AU<|ak fun _ AV=>WS fun _ AW=>rP 3 [] (mc 4 U I) ?_
 refine RK AW<|cE U (aQ fun E=>?_) (aP fun E=>?_)
 ·refine bB<|ae<|aA<|f_ 9 U eJ U ?_
  refine aT (L ⟨((cp left x),s,t),(by refine ⟨?_,?_,eQ B,?_⟩<;>dsimp only <;>first|omega|(rw [← GQ hn hm E]; omega)|(rw [← JG hn hm E]; omega))⟩ _ _ _ U (dU hm) (aU U) (aL [1,2,3,4,5,6,7,8,9]))
 refine WK AV<|ak fun _ W=>WS fun _ AX=>rP 4 [] (mc 0 U I) ?_
 refine RK AX<|bS U (aP fun O=>?_) (aQ fun O=>?_)
 ·refine WK W<|WS fun _ AZ=>rP 4 [] (mc 0 U I) ?_
  refine RK AZ<|bS U (aP fun M=>?_) (aQ fun M=>?_)
  ·refine cj<|aH<|f_ 9 U eJ U ?_
   refine aT (L ⟨((cp left x),s,t),(by refine ⟨?_,?_,eQ B,?_⟩<;>dsimp only <;>first|omega|(have:=Bj hn hm E O; omega)|(have:=Fj hn hm E M; omega))⟩ _ _ _ U (dU hm) (aU U) (aL [1,2,3,4,5,6,7,8,9]))
  refine an<|rP 3 [] I ?_
  refine aF<|aH<|f_ 9 U eJ U ?_
  refine aT (L ⟨((cp left x),s,(t+1)),(by refine ⟨?_,?_,eQ B,?_⟩<;>dsimp only <;>first|omega|(have:=Bj hn hm E O; omega)|(have:=Bv hn hm E M; omega))⟩ _ _ _ U (dU hm) (aU U) (aL [1,2,3,4,5,6,7,8,9]))
 refine an<|bg 3 U<|RK W<|WS fun _ AY=>rP 4 [] (mc 0 U I) ?_
 refine RK AY<|bS U (aP fun M=>?_) (aQ fun M=>?_)
 ·refine cj<|aH<|f_ 9 U eJ U ?_
  refine aT (L ⟨((cp left x),(s+1),t),(by refine ⟨?_,?_,eQ B,?_⟩<;>dsimp only <;>first|omega|(have:=yC hn hm E O; omega)|(have:=Fj hn hm E M; omega))⟩ _ _ _ U (dU hm) (aU U) (aL [1,2,3,4,5,6,7,8,9]))
 refine an<|rP 3 [] I ?_
 refine aF<|aH<|f_ 9 U eJ U ?_
 refine aT (L ⟨((cp left x),(s+1),(t+1)),(by refine ⟨?_,?_,eQ B,?_⟩<;>dsimp only <;>first|omega|(have:=yC hn hm E O; omega)|(have:=Bv hn hm E M; omega))⟩ _ _ _ U (dU hm) (aU U) (aL [1,2,3,4,5,6,7,8,9]))
end
section
open Go.RowKit
theorem Fy (i:Int) (r:cd) (kA:OA) (kC:Nat) (az:List RA) (cA:OA) (cC:Nat) (bA:OA) (bC:Nat) (slA:OA) (slC:Nat) (drA:OA) (drC:Nat) (ha:List cS) (heA:OA) (heC:Nat) (hin:fy r az ha):
 lq Tryz.prog 15 [(vA (bu.cells (ou r kA kC cA cC bA bC slA slC drA drC heA heC))),(vI i)] [(rd dD 3 2 dg),(rd kA r.ah.aJ.length 9 (r.ah.aJ.map ao.cells)),(rd cA r.ah.ai.length 2 (List.zipWith au.cells r.ah.ai az)),(fc (aS au.gW r.ah.ai az)),(rd bA r.ah.ag.length 4 (r.ah.ag.map bG.cells)),(rd slA r.aI.length 1 (r.aI.map iC)),(rd drA r.bD.length 1 (r.bD.map iC)),(rd heA r.aq.length 1 (List.zipWith cD r.aq ha)),(fc (aS im r.aq ha))] (fun (x:(OA)×Nat)=>(vT [(vS x.1 ((ig r i).length) x.2),(vI (jX r i))])) (fun (x:(OA)×Nat)=>True) (fun (x:(OA)×Nat)=>[(own x.1 x.2 3 1 ((ig r i).map iC))]):=by
 have V:=hin.line
 have k:=hin.iP
 have l:=hin.has
 have c:=hin.iR
 have Z:=hin.draw
 have d:=dJ (r:=r)
 refine dv kr Tryz.func15 U U fun o Q hQ hN=>?_
 try dsimp only
 refine WS fun _ AA=>fU U fun n=>bg 2 U<|RK AA<|WS fun _ G=>rP 2 [] (mc 0 U I) ?_
 refine cZ (xs:=[.tmp 11]) (cs:=[(vI i)]) U cJ jd U U U U (by simp [Value.cells]) U U fun h=>cX (zd r kA kC az cA cC bA bC slA slC drA drC ha heA heC i h hin) (bh [2,3,4,5,6,7,8,9,10,0]) U fun m L=>?_
 obtain ⟨M,j,T,S,N,O,zU,f,g⟩:=m
 cases M
 ·obtain ⟨H,he⟩:=L.2 rfl
  try dsimp only at H he
  subst H
  try dsimp only [cond_true,cond_false,List.cons_append,List.nil_append]
  refine bg 7 U<|RK G<|ak fun _ Y=>WS fun _ B=>rP 2 [] I ?_
  refine RK B<|bS U (bq fun A=>?_) (br fun A=>?_)
  ·exact absurd A he
  refine WS fun _ C=>dM 3 1 ?_
  rw [show (own none 0 3 1 ([]:List (List Value)))=own none 0 3 1 ((ig r i).map iC) from by rw [yu he]; rfl]
  refine bg 1 U<|rP 2 [] I ?_
  refine RK C<|ar ?_
  refine LX hQ (none,0) [0] [] I U U U ?_ ?_
  ·(rw [yu he]; rfl)
  ·trivial
 obtain ⟨he,W⟩:=L.1 rfl
 try dsimp only [cond_true,cond_false,List.cons_append,List.nil_append]
 try dsimp only at W
 obtain ⟨J,a,AB⟩:=yv he
 have K:=nm J
 have b:=nx J
 refine bg 7 U<|RK G<|ak fun _ D=>WS fun _ E=>bg 1 U<|rS (SX (cb (r:= .bool false) U U U lj) U U)<|RK E<|aX U<|WK D<|WS fun _ F=>rP 2 [] I ?_
 refine cX (Ag r kA kC cA cC bA bC slA slC drA drC heA heC N ((cQ r).length) O S T (aG r) i (by exact K) (by exact AB) om) (bh [0,3]) U fun X e=>?_
 obtain ⟨P,R⟩:=X
 try dsimp only
 rw [show (dI (aG r) i (aD (aG r) i))=ig r i from (zq he).symm]
 refine rP 2 [] I ?_
 refine RK F<|ar ?_
 refine LX hQ (P,R) [0] [] I U U U ?_ ?_
 ·(rw [he]; rfl)
 ·trivial
theorem w5 (a b:Int) (r:cd) (kA:OA) (kC:Nat) (az:List RA) (cA:OA) (cC:Nat) (bA:OA) (bC:Nat) (slA:OA) (slC:Nat) (drA:OA) (drC:Nat) (ha:List cS) (heA:OA) (heC:Nat) (hin:fy r az ha):
 d_ Tryz.prog 12 [(vA (bu.cells (ou r kA kC cA cC bA bC slA slC drA drC heA heC))),(vI a),(vI b)] [(rd dD 3 2 dg),(rd kA r.ah.aJ.length 9 (r.ah.aJ.map ao.cells)),(rd cA r.ah.ai.length 2 (List.zipWith au.cells r.ah.ai az)),(fc (aS au.gW r.ah.ai az)),(rd bA r.ah.ag.length 4 (r.ah.ag.map bG.cells)),(rd slA r.aI.length 1 (r.aI.map iC)),(rd drA r.bD.length 1 (r.bD.map iC)),(rd heA r.aq.length 1 (List.zipWith cD r.aq ha)),(fc (aS im r.aq ha))] (vT [(Value.int .u8 (ph r a b)),(vI (l_ r a b))]):=by
 have M:=hin.line
 have k:=hin.iP
 have l:=hin.has
 have V:=hin.iR
 have R:=hin.draw
 have W:=dJ (r:=r)
 refine bE kr Tryz.func12 U U fun p Q hQ hN=>?_
 try dsimp only
 refine WS fun _ L=>fU U fun o=>bg 2 U<|RK L<|WS fun _ H=>rP 3 [] (mc 0 U I) ?_
 refine cZ (xs:=[.tmp 13,.tmp 14]) (cs:=[(vI a),(vI b)]) U cJ jd U U U U (by simp [Value.cells]) U U fun d=>cX (zi r kA kC az cA cC bA bC slA slC drA drC ha heA heC a b d hin) (bh [2,3,4,5,6,7,8,9,10,0]) U fun m J=>?_
 obtain ⟨K,e,g,f,Z,c,zU,X,Y⟩:=m
 cases K
 ·obtain ⟨AB,he⟩:=J.2 rfl
  try dsimp only at AB he
  subst AB
  try dsimp only [cond_true,cond_false,List.cons_append,List.nil_append]
  refine bg 7 U<|RK H<|ak fun _ P=>WS fun _ C=>rP 2 [] I ?_
  refine RK C<|bS U (bq fun B=>?_) (br fun B=>?_)
  ·exact absurd B he
  refine WS fun _ D=>rP 3 [] I ?_
  refine RK D<|ar<|Q2 hQ U U U U ?_
  (rw [show ph r a b=0 from if_neg he]; done)
 obtain ⟨he,O⟩:=J.1 rfl
 try dsimp only [cond_true,cond_false,List.cons_append,List.nil_append]
 try dsimp only at O
 obtain ⟨N,S,T,AA⟩:=yH he
 have A:=nm N
 have h:=gO (i:=a) A
 have j:=gO (i:=b) A
 refine bg 7 U<|RK H<|ak fun _ E=>WS fun _ F=>bg 1 U<|rS (SX (cb (r:= .bool false) U U U lj) U U)<|RK F<|aX U<|WK E<|ak fun _ G=>dh cu 21 kr<|dP 1 [] I ?_
 refine dS (IA 0 U (al (n:=2) 4 U sq) jL dc U om) ?_
 refine dS (mK ((0*2)+1) U (al (n:=([(aD (aG r) a),(aD (aG r) b)]).length) 4 U sm) (Nat.succ_pos _) fB U)<|dS (gh 0 1 (vI ((aD (aG r) a).Hi)) U cm (al (n:=([(aD (aG r) a),(aD (aG r) b)]).length) 4 U sm) (show ([(aD (aG r) a),(aD (aG r) b)].map aa.cells)[0]? =some [(vI ((aD (aG r) a).Lo)),(vI ((aD (aG r) a).Hi))] from U) U dc U)<|dP 1 [] I ?_
 refine dS (IA 1 U (al (n:=2) 4 U sq) jL dc U om) ?_
 refine dS (mK (1*2) U (al (n:=([(aD (aG r) a),(aD (aG r) b)]).length) 4 U sm) (Nat.succ_pos _) fB U)<|dS (gh 1 0 (vI ((aD (aG r) b).Lo)) U cm (al (n:=([(aD (aG r) a),(aD (aG r) b)]).length) 4 U sm) (show ([(aD (aG r) a),(aD (aG r) b)].map aa.cells)[1]? =some [(vI ((aD (aG r) b).Lo)),(vI ((aD (aG r) b).Hi))] from U) U dc U)<|dP 2 [] I ?_
 refine dS (IA 0 U (al (n:=2) 4 U sq) jL dc U om) ?_
 refine dS (mK (0*2) U (al (n:=([(aD (aG r) a),(aD (aG r) b)]).length) 4 U sm) (Nat.succ_pos _) fB U)<|dS (gh 0 0 (vI ((aD (aG r) a).Lo)) U cm (al (n:=([(aD (aG r) a),(aD (aG r) b)]).length) 4 U sm) (show ([(aD (aG r) a),(aD (aG r) b)].map aa.cells)[0]? =some [(vI ((aD (aG r) a).Lo)),(vI ((aD (aG r) a).Hi))] from U) U dc U)<|dP 1 [] I ?_
 refine dS (IA 1 U (al (n:=2) 4 U sq) jL dc U om) ?_
 refine dS (mK ((1*2)+1) U (al (n:=([(aD (aG r) a),(aD (aG r) b)]).length) 4 U sm) (Nat.succ_pos _) fB U)<|dS (gh 1 1 (vI ((aD (aG r) b).Hi)) U cm (al (n:=([(aD (aG r) a),(aD (aG r) b)]).length) 4 U sm) (show ([(aD (aG r) a),(aD (aG r) b)].map aa.cells)[1]? =some [(vI ((aD (aG r) b).Lo)),(vI ((aD (aG r) b).Hi))] from U) U dc U)<|kX 1 U<|dS (CL (w7 (decide (((aD (aG r) a).Hi)<((aD (aG r) b).Lo))) (decide (((aD (aG r) a).Lo)<((aD (aG r) b).Hi)))) (aK) U)<|dP 2 [] I ?_
 refine cK<|RK G<|ar<|Q2 hQ U U U U ?_
 (rw [he,show ph r a b=ue _ _ from if_pos he,← M6])
theorem EP (a b:Int) (r:cd) (kA:OA) (kC:Nat) (az:List RA) (cA:OA) (cC:Nat) (bA:OA) (bC:Nat) (slA:OA) (slC:Nat) (drA:OA) (drC:Nat) (ha:List cS) (heA:OA) (heC:Nat) (hin:fy r az ha):
 d_ Tryz.prog 13 [(vA (bu.cells (ou r kA kC cA cC bA bC slA slC drA drC heA heC))),(vI a),(vI b)] [(rd dD 3 2 dg),(rd kA r.ah.aJ.length 9 (r.ah.aJ.map ao.cells)),(rd cA r.ah.ai.length 2 (List.zipWith au.cells r.ah.ai az)),(fc (aS au.gW r.ah.ai az)),(rd bA r.ah.ag.length 4 (r.ah.ag.map bG.cells)),(rd slA r.aI.length 1 (r.aI.map iC)),(rd drA r.bD.length 1 (r.bD.map iC)),(rd heA r.aq.length 1 (List.zipWith cD r.aq ha)),(fc (aS im r.aq ha))] (vT [(Value.int .u8 (lk r a b)),(vI (l_ r a b))]):=by
 have T:=hin.line
 have q:=hin.iP
 have s:=hin.has
 have d:=hin.iR
 have X:=hin.draw
 have e:=dJ (r:=r)
 refine bE kr Tryz.func13 U U fun w Q hQ hN=>?_
 try dsimp only
 refine WS fun _ P=>fU U fun v=>bg 2 U<|RK P<|WS fun _ J=>rP 3 [] (mc 0 U I) ?_
 refine cZ (xs:=[.tmp 14,.tmp 15]) (cs:=[(vI a),(vI b)]) U cJ jd U U U U (by simp [Value.cells]) U U fun l=>cX (zi r kA kC az cA cC bA bC slA slC drA drC ha heA heC a b l hin) (bh [2,3,4,5,6,7,8,9,10,0]) U fun u N=>?_
 obtain ⟨O,m,p,o,h,j,zU,f,g⟩:=u
 cases O
 ·obtain ⟨M,he⟩:=N.2 rfl
  try dsimp only at M he
  subst M
  try dsimp only [cond_true,cond_false,List.cons_append,List.nil_append]
  refine bg 7 U<|RK J<|ak fun _ W=>WS fun _ E=>rP 2 [] I ?_
  refine RK E<|bS U (bq fun D=>?_) (br fun D=>?_)
  ·exact absurd D he
  refine WS fun _ F=>rP 3 [] I ?_
  refine RK F<|ar<|Q2 hQ U U U U ?_
  (rw [show lk r a b=0 from if_neg he]; done)
 obtain ⟨he,V⟩:=N.1 rfl
 try dsimp only [cond_true,cond_false,List.cons_append,List.nil_append]
 try dsimp only at V
 obtain ⟨AA,Y,Z,c⟩:=yH he
 have B:=nm AA
 have R:=gO (i:=a) B
 have S:=gO (i:=b) B
 refine bg 7 U<|RK J<|ak fun _ G=>WS fun _ H=>rP 1 [] I ?_
 refine rS (SX (cb (r:= .bool false) U U U lj) U U)<|RK H<|aX U<|WK G<|ak fun _ AB=>dL cu [19,20] [] [] [0,1,2,3,4,5,6,7,8,9,10,11,12,13,14,15] [] U U U U U<|eS U (MV U) ?_
 refine eS U (IA 0 U (al (n:=2) 4 U sq) jL dc U om) ?_
 refine eS U (mK (0*2) U (al (n:=([(aD (aG r) a),(aD (aG r) b)]).length) 4 U sm) (Nat.succ_pos _) fB U)<|eS U (gh 0 0 (vI ((aD (aG r) a).Lo)) U cm (al (n:=([(aD (aG r) a),(aD (aG r) b)]).length) 4 U sm) (show ([(aD (aG r) a),(aD (aG r) b)].map aa.cells)[0]? =some [(vI ((aD (aG r) a).Lo)),(vI ((aD (aG r) a).Hi))] from U) U dc U)<|eS U (MV U) ?_
 refine eS U (IA 1 U (al (n:=2) 4 U sq) jL dc U om) ?_
 refine eS U (mK (1*2) U (al (n:=([(aD (aG r) a),(aD (aG r) b)]).length) 4 U sm) (Nat.succ_pos _) fB U)<|eS U (gh 1 0 (vI ((aD (aG r) b).Lo)) U cm (al (n:=([(aD (aG r) a),(aD (aG r) b)]).length) 4 U sm) (show ([(aD (aG r) a),(aD (aG r) b)].map aa.cells)[1]? =some [(vI ((aD (aG r) b).Lo)),(vI ((aD (aG r) b).Hi))] from U) U dc U)<|eS U (MX U)<|eS U (MV U) ?_
 refine eS U (IA 0 U (al (n:=2) 4 U sq) jL dc U om) ?_
 refine eS U (mK ((0*2)+1) U (al (n:=([(aD (aG r) a),(aD (aG r) b)]).length) 4 U sm) (Nat.succ_pos _) fB U)<|eS U (gh 0 1 (vI ((aD (aG r) a).Hi)) U cm (al (n:=([(aD (aG r) a),(aD (aG r) b)]).length) 4 U sm) (show ([(aD (aG r) a),(aD (aG r) b)].map aa.cells)[0]? =some [(vI ((aD (aG r) a).Lo)),(vI ((aD (aG r) a).Hi))] from U) U dc U)<|eS U (MV U) ?_
 refine eS U (IA 1 U (al (n:=2) 4 U sq) jL dc U om) ?_
 refine eS U (mK ((1*2)+1) U (al (n:=([(aD (aG r) a),(aD (aG r) b)]).length) 4 U sm) (Nat.succ_pos _) fB U)<|eS U (gh 1 1 (vI ((aD (aG r) b).Hi)) U cm (al (n:=([(aD (aG r) a),(aD (aG r) b)]).length) 4 U sm) (show ([(aD (aG r) a),(aD (aG r) b)].map aa.cells)[1]? =some [(vI ((aD (aG r) b).Lo)),(vI ((aD (aG r) b).Hi))] from U) U dc U)<|eS U (MN U)<|eS U (SX (bj (xs:=[(0,.tmp 32),(1,.tmp 41)]) (cs:=(aa.cells (aa.mk (max ((aD (aG r) a).Lo) ((aD (aG r) b).Lo)) (min ((aD (aG r) a).Hi) ((aD (aG r) b).Hi))))) U U (bk gv U)) U U)<|e9 U<|cq U fun T22 K=>AL U di fun k=>aF (K _ _ (aL [1,2,3,4,5,6,7,8,9,10,11,12,13,14,15,16]) ?_)
 refine cq U fun T24 L=>fW U cv U<|aF (L _ _ (aL [1,2,3,4,5,6,7,8,9,10,11,12,13,14,15,16]) ?_)
 refine fO U<|KK AB<|ak fun _ A=>dh cu 22 kr<|dP 1 [] I ?_
 refine dS (IA 0 U (al (n:=2) 5 U sq) jL dc U om) ?_
 refine dS (ov 0 0 (aa.cells (aD (aG r) a)) U cm (al (n:=([(aD (aG r) a),(aD (aG r) b)]).length) 5 U sm) (show ([(aD (aG r) a),(aD (aG r) b)].map aa.cells)[0]? =some [(vI ((aD (aG r) a).Lo)),(vI ((aD (aG r) a).Hi))] from U) U dc U U)<|dP 1 [] I ?_
 refine dS (IA 1 U (al (n:=2) 5 U sq) jL dc U om) ?_
 refine dS (ov 1 0 (aa.cells (aD (aG r) b)) U cm (al (n:=([(aD (aG r) a),(aD (aG r) b)]).length) 5 U sm) (show ([(aD (aG r) a),(aD (aG r) b)].map aa.cells)[1]? =some [(vI ((aD (aG r) b).Lo)),(vI ((aD (aG r) b).Hi))] from U) U dc U U)<|dS (BI U (sT _ _ (aD (aG r) a) (aD (aG r) b)))<|dP 1 [] I ?_
 refine jg (t:=50) U (aP fun C=>?_) (aQ fun C=>?_)
 ·refine lJ 11 [] (mc 0 U I) U<|dS (CL (w7 false (decide ((max ((aD (aG r) a).Lo) ((aD (aG r) b).Lo))≤(min ((aD (aG r) a).Hi) ((aD (aG r) b).Hi))))) (aK) U)<|dP 2 [] I ?_
  refine cK<|RK A<|ar<|Q2 hQ U U U U ?_
  (rw [he,show lk r a b=mW _ _ from if_pos he,← NN R.2.1 S.2.1 C]; done)
 refine lJ 11 [] (mc 0 U I) U<|dS (CL (w7 (decide ((max ((aD (aG r) a).Lo) ((aD (aG r) b).Lo))=(min ((aD (aG r) a).Hi) ((aD (aG r) b).Hi)))) (decide ((max ((aD (aG r) a).Lo) ((aD (aG r) b).Lo))≤(min ((aD (aG r) a).Hi) ((aD (aG r) b).Hi))))) (aK) U)<|dP 2 [] I ?_
 refine cK<|RK A<|ar<|Q2 hQ U U U U ?_
 (rw [he,show lk r a b=mW _ _ from if_pos he,← KG C]; done)
end
section
open Go.RowKit
theorem OF (i:Int) (r:cd) (kA:OA) (kC:Nat) (az:List RA) (cA:OA) (cC:Nat) (bA:OA) (bC:Nat) (slA:OA) (slC:Nat) (drA:OA) (drC:Nat) (ha:List cS) (heA:OA) (heC:Nat) (hin:fy r az ha):
 d_ Tryz.prog 11 [(vA (bu.cells (ou r kA kC cA cC bA bC slA slC drA drC heA heC))),(vI i)] [(rd dD 3 2 dg),(rd kA r.ah.aJ.length 9 (r.ah.aJ.map ao.cells)),(rd cA r.ah.ai.length 2 (List.zipWith au.cells r.ah.ai az)),(fc (aS au.gW r.ah.ai az)),(rd bA r.ah.ag.length 4 (r.ah.ag.map bG.cells)),(rd slA r.aI.length 1 (r.aI.map iC)),(rd drA r.bD.length 1 (r.bD.map iC)),(rd heA r.aq.length 1 (List.zipWith cD r.aq ha)),(fc (aS im r.aq ha))] (vT [(vA (aa.cells (qC r i))),(vI (jX r i))]):=by
 have M:=hin.line
 have g:=hin.iP
 have h:=hin.has
 have W:=hin.iR
 have R:=hin.draw
 have X:=dJ (r:=r)
 refine bE kr Tryz.func11 U U fun m Q hQ hN=>?_
 try dsimp only
 refine WS fun _ L=>fU U fun k=>AL U di fun l=>bg 1 U<|RK L<|WS fun _ G=>rP 2 [] (mc 1 U I) ?_
 refine cZ (xs:=[.tmp 11]) (cs:=[(vI i)]) U cJ jd U U U U (by simp [Value.cells]) U U fun d=>cX (zd r kA kC az cA cC bA bC slA slC drA drC ha heA heC i d hin) (bh [3,4,5,6,7,8,9,10,11,0]) U fun j J=>?_
 obtain ⟨K,e,f,O,a,b,c,Y,Z⟩:=j
 cases K
 ·obtain ⟨H,he⟩:=J.2 rfl
  try dsimp only at H he
  subst H
  try dsimp only [cond_true,cond_false,List.cons_append,List.nil_append]
  refine bg 7 U<|RK G<|ak fun _ P=>WS fun _ B=>rP 2 [] I ?_
  refine RK B<|bS U (bq fun A=>?_) (br fun A=>?_)
  ·exact absurd A he
  refine WS fun _ C=>rS (SX (bj (xs:=[]) (cs:=(aa.cells (aa.mk 0 0))) U U (bk gv U)) U U)<|bg 1 U<|tF U cv U<|rP 1 [] I ?_
  refine RK C<|ar<|lf hQ [0] (mc 1 U I) U ?_
  first|(rw [show qC r i=dA from if_neg he]; rfl)|(rw [he,show qC r i=aD _ _ from if_pos he]; done)
 obtain ⟨he,N⟩:=J.1 rfl
 try dsimp only [cond_true,cond_false,List.cons_append,List.nil_append]
 try dsimp only at N
 obtain ⟨AB,S,T⟩:=yv he
 have AA:=nm AB
 have V:=nx AB
 refine bg 7 U<|RK G<|ak fun _ D=>WS fun _ E=>bg 1 U<|rS (SX (cb (r:= .bool false) U U U lj) U U)<|RK E<|aX U<|WK D<|WS fun _ F=>rP 1 [] I ?_
 refine rS (IA 0 U (al (n:=1) 4 U sq) jL dc U om) ?_
 refine rS (ov 0 0 (aa.cells (aD (aG r) i)) U cm (al (n:=([(aD (aG r) i)]).length) 4 U sm) (show ([(aD (aG r) i)].map aa.cells)[0]? =some [(vI ((aD (aG r) i).Lo)),(vI ((aD (aG r) i).Hi))] from U) U dc U U)<|OU U cv U<|rP 1 [] I ?_
 refine RK F<|ar<|lf hQ [0] (mc 6 U I) U ?_
 first|(rw [show qC r i=dA from if_neg he]; rfl)|(rw [he,show qC r i=aD _ _ from if_pos he]; done)
end
section
open Go.RowKit
theorem I_ (h i:Int) (r:cd) (kA:OA) (kC:Nat) (az:List RA) (cA:OA) (cC:Nat) (bA:OA) (bC:Nat) (slA:OA) (slC:Nat) (drA:OA) (drC:Nat) (ha:List cS) (heA:OA) (heC:Nat) (hin:fy r az ha):
 d_ Tryz.prog 8 [(vA (bu.cells (ou r kA kC cA cC bA bC slA slC drA drC heA heC))),(vI h),(vI i)] [(rd dD 3 2 dg),(rd kA r.ah.aJ.length 9 (r.ah.aJ.map ao.cells)),(rd cA r.ah.ai.length 2 (List.zipWith au.cells r.ah.ai az)),(fc (aS au.gW r.ah.ai az)),(rd bA r.ah.ag.length 4 (r.ah.ag.map bG.cells)),(rd slA r.aI.length 1 (r.aI.map iC)),(rd drA r.bD.length 1 (r.bD.map iC)),(rd heA r.aq.length 1 (List.zipWith cD r.aq ha)),(fc (aS im r.aq ha))] (vT [(vA (aa.cells (df r h i))),(vI (fR r h i))]):=by
 have AB:=hin.line
 have AJ:=hin.iP
 have AK:=hin.has
 have AG:=hin.iR
 have AE:=hin.draw
 have F:=dJ (r:=r)
 refine bE kr Tryz.func8 U U fun w0 Q hQ hN=>?_
 try dsimp only
 refine WS fun _ u=>fU U fun b2=>AL U di fun b3=>bg 1 U<|RK u<|WS fun _ X=>rP 1 [] (mc 1 U I) ?_
 refine cX (n_ r kA kC az cA cC bA bC slA slC drA drC ha heA heC hin) (bh [2,3,4,5,6,7,8,9,10]) U fun y5 c=>?_
 obtain ⟨f,AI,o,m,g,j,zU⟩:=y5
 cases f
 ·obtain ⟨Y,he⟩:=c.2 rfl
  try dsimp only at Y he
  subst Y
  try dsimp only [cond_true,cond_false,List.cons_append,List.nil_append]
  refine bg 5 U<|RK X<|ak fun _ AD=>ax<|WS fun _ N=>rP 3 [] I ?_
  refine RK N<|bS U (bq fun M=>?_) (br fun M=>?_)
  ·exact absurd M he
  refine WS fun _ O=>rS (SX (bj (xs:=[]) (cs:=(aa.cells (aa.mk 0 0))) U U (bk gv U)) U U)<|bg 1 U<|fW U cv U<|rP 1 [] I ?_
  refine RK O<|ar<|lf hQ [0] (mc 0 U I) U ?_
  first|(have e:=oQ (h:=h) (i:=i) he; have B:df r h i=dA:=if_neg (fun q=>by rw [e] at q; exact he q); rw [e,B]; rfl)|(have e:=oE (h:=h) (i:=i) he om; have B:df r h i=dA:=if_neg (fun q=>by rw [e] at q; cases q); rw [e,B]; rfl)|(have e:=mU he om A hd C; have B:df r h i=dA:=if_neg (fun q=>by rw [e] at q; cases q); rw [e,B]; rfl)|(have e:=qv he om A hd C; rw [e.1,e.2,H]; done)
 obtain ⟨he,J⟩:=c.1 rfl
 try dsimp only [cond_true,cond_false,List.cons_append,List.nil_append]
 try dsimp only at J
 have a:=(iF he).2
 refine bg 5 U<|RK X<|ak fun _ P=>ax<|WS fun _ R=>bg 1 U<|rS (SX (cb (r:= .bool false) U U U lj) U U)<|bg 1 U<|RK R<|aX U<|WS fun _ K=>rP 5 [] (mc 5 U I) ?_
 refine cZ (xs:=[.tmp 25]) (cs:=[(vI h)]) U cJ jd U U U U (by simp [Value.cells]) U U fun k=>?_
 refine rS (CL (d_.eq (jT 0 ((r.aq.length:Int)-1) ([h]) (some ⟨k,0,none⟩) 1 sd) cU) (ay (a_ 0 U U (by simp [bK]) U)<|aK) U) ?_
 refine rP 2 [] I ?_
 refine cw (t:=29) U (br fun s=>?_) (bq fun s=>?_)
 ·refine bg 7 U<|RK K<|aR U<|WS fun _ S=>rS (SX (bj (xs:=[]) (cs:=(aa.cells (aa.mk 0 0))) U U (bk gv U)) U U)<|H4 U cv U<|rP 1 [] I ?_
  refine RK S<|ar<|lf hQ [0] (mc 5 U I) U ?_
  first|(have e:=oQ (h:=h) (i:=i) he; have B:df r h i=dA:=if_neg (fun q=>by rw [e] at q; exact he q); rw [e,B]; rfl)|(have e:=oE (h:=h) (i:=i) he om; have B:df r h i=dA:=if_neg (fun q=>by rw [e] at q; cases q); rw [e,B]; rfl)|(have e:=mU he om A hd C; have B:df r h i=dA:=if_neg (fun q=>by rw [e] at q; cases q); rw [e,B]; rfl)|(have e:=qv he om A hd C; rw [e.1,e.2,H]; done)
 refine rP 2 [] I ?_
 refine cZ (xs:=[.tmp 31]) (cs:=[(vI i)]) U cJ jd U U U U (by simp [Value.cells]) U U fun l=>?_
 refine rS (CL (d_.eq (zR r kA kC az cA cC bA bC slA slC drA drC ha heA heC zU g j (Value.map (some m)) o ([i]) (some ⟨l,0,none⟩) 1 hin sd) cU) (lz [9,10,11,12,13,14,15,16]<|ay (al (n:=(cQ r).length) 3 U (mI (by rw [F]; exact J)))<|ay (dR 4 U sr)<|fK 2 U U<|ay (a_ 0 U U (by simp [bK]) U)<|aK) U) ?_
 refine rP 3 [] I ?_
 refine RK K<|cE U (br fun p=>?_) (bq fun p=>?_)
 ·refine WS fun _ T=>rS (SX (bj (xs:=[]) (cs:=(aa.cells (aa.mk 0 0))) U U (bk gv U)) U U)<|OU U cv U<|rP 1 [] I ?_
  refine RK T<|ar<|lf hQ [0] (mc 6 U I) U ?_
  first|(have e:=oQ (h:=h) (i:=i) he; have B:df r h i=dA:=if_neg (fun q=>by rw [e] at q; exact he q); rw [e,B]; rfl)|(have e:=oE (h:=h) (i:=i) he om; have B:df r h i=dA:=if_neg (fun q=>by rw [e] at q; cases q); rw [e,B]; rfl)|(have e:=mU he om A hd C; have B:df r h i=dA:=if_neg (fun q=>by rw [e] at q; cases q); rw [e,B]; rfl)|(have e:=qv he om A hd C; rw [e.1,e.2,H]; done)
 refine WS fun _ AM=>rP 3 [] (mc 7 U I) ?_
 obtain ⟨ht,A⟩:=aM r.aq ((h).toNat) om
 obtain ⟨D,E⟩:=aM ha ((h).toNat) om
 have Z:(List.zipWith cD r.aq ha)[(h).toNat]? =some (cD ht D):=dB A E
 refine rS (IA ((h).toNat) U (aB 15 U) pk dc om om) ?_
 have z:=hin.nu _ _ _ A E
 have AF:=z.nO
 have AA:=(a.nu ht (aV A)).1
 refine rS (gh ((h).toNat) 0 (vS D.1.1 ht.length D.1.2) U cm (aB 15 U) Z U dc U)<|rP 1 [] I ?_
 obtain ⟨d,hd⟩:=aM ht ((i).toNat) om
 obtain ⟨da,v⟩:=aM D.2 ((i).toNat) om
 have y:(List.zipWith aw.cells ht D.2)[(i).toNat]? =some (aw.cells d da):=dB hd v
 refine rS (IA ((i).toNat) U (show iq _ (rd D.1.1 ht.length 7 (List.zipWith aw.cells ht D.2)).holds from (cT 16 U (bT A E bZ))) sE dc om om)<|rS (mK (((i).toNat)*7) U (show iq _ (rd D.1.1 ht.length 7 (List.zipWith aw.cells ht D.2)).holds from (cT 16 U (bT A E bZ))) (Nat.mul_pos om dc) fB U)<|rS (gh ((i).toNat) 0 (vB d.Out) U cm (show iq _ (rd D.1.1 ht.length 7 (List.zipWith aw.cells ht D.2)).holds from (cT 16 U (bT A E bZ))) y U dc U)<|rP 1 [] I ?_
 refine RK AM<|cE U (fun C=>?_) (fun C=>?_)
 ·refine WS fun _ V=>rS (SX (bj (xs:=[]) (cs:=(aa.cells (aa.mk 0 0))) U U (bk gv U)) U U)<|OU U cv U<|rP 1 [] I ?_
  refine RK V<|ar<|lf hQ [0] (mc 6 U I) U ?_
  first|(have e:=oQ (h:=h) (i:=i) he; have B:df r h i=dA:=if_neg (fun q=>by rw [e] at q; exact he q); rw [e,B]; rfl)|(have e:=oE (h:=h) (i:=i) he om; have B:df r h i=dA:=if_neg (fun q=>by rw [e] at q; cases q); rw [e,B]; rfl)|(have e:=mU he om A hd C; have B:df r h i=dA:=if_neg (fun q=>by rw [e] at q; cases q); rw [e,B]; rfl)|(have e:=qv he om A hd C; rw [e.1,e.2,H]; done)
 refine cj<|aH<|KK P<|WS fun _ W=>bg 1 U<|rS (SX (bO U U) U U)<|rP 3 [] (mc 2 U I) ?_
 obtain ⟨tr,AN⟩:=aM (cQ r) ((h).toNat) om
 obtain ⟨tra,G⟩:=aM zU ((h).toNat) om
 have b:(List.zipWith DA (cQ r) zU)[(h).toNat]? =some (DA tr tra):=dB AN G
 refine rS (IA ((h).toNat) U (al (n:=(cQ r).length) 3 U (mI (by rw [F]; exact J))) N7 dc om om) ?_
 have L:=zh A AN
 have AH:tr.length=r.aI.length:=by rw [L,List.length_map]; exact AA
 refine rS (gh ((h).toNat) 0 (vS tra.1 tr.length tra.2) U cm (al (n:=(cQ r).length) 3 U (mI (by rw [F]; exact J))) b U dc U) ?_
 refine rP 1 [] I ?_
 obtain ⟨x,hx⟩:=aM tr ((i).toNat) om
 have AC:=bQ aa.cells hx
 refine rS (IA ((i).toNat) U (show iq _ (rd tra.1 tr.length 2 (tr.map aa.cells)).holds from (fun w hw=>(dR 4 U sr) w hw _ (bT AN G (by simp [Mf])))) jL dc om om) ?_
 have H:=IL L hx hd
 refine rS (ov ((i).toNat) 0 (aa.cells x) U cm (show iq _ (rd tra.1 tr.length 2 (tr.map aa.cells)).holds from (fun w hw=>(dR 4 U sr) w hw _ (bT AN G (by simp [Mf])))) AC U dc U U)<|OU U cv U<|rP 1 [] I ?_
 refine RK W<|ar<|lf hQ [0] (mc 6 U I) U ?_
 first|(have e:=oQ (h:=h) (i:=i) he; have B:df r h i=dA:=if_neg (fun q=>by rw [e] at q; exact he q); rw [e,B]; rfl)|(have e:=oE (h:=h) (i:=i) he om; have B:df r h i=dA:=if_neg (fun q=>by rw [e] at q; cases q); rw [e,B]; rfl)|(have e:=mU he om A hd C; have B:df r h i=dA:=if_neg (fun q=>by rw [e] at q; cases q); rw [e,B]; rfl)|(have e:=qv he om A hd C; rw [e.1,e.2,H]; done)
end
section
theorem TN.sub {E:fh} {ops:Array Oper} {Q:c_} {D:List Deferred} {C' C1 C:List av} {tb rem:List Nat}: ∀ {n:Nat} {L L':List (Nat×Value)},dy L L'→TN E ops D C' C1 (fun L C=>KJ E (Q .normal) D L C) tb n rem L' C→TN E ops D C' C1 (fun L C=>KJ E (Q .normal) D L C) tb n rem L C:=by
 intro n
 cases n with
 |zero=>intro L L' hs h; exact jA hs (fun _ h=>h) h
 |succ n=>intro L L' hs h i hi o ho K hK; exact Pc hs (fun _ h=>h) (h i hi o ho K hK)
theorem Mp {E:fh} {ops:Array Oper} {Q:c_} {D:List Deferred} {C' C1 C:List av} {bs:List Bool} {os:List Oper} {L:List (Nat×Value)} {tb rem:List Nat} {n:Nat} {t:Nat} {b:Bool} (h:L.lookup t=some (.bool b))
 (h1:b=true→pU E ops D C' C1 (fun L'=>TN E ops D C' C1 (fun L C=>KJ E (Q .normal) D L C) tb n rem L' C) bs os ((t,.bool true)::L)) (h2:b=false→pU E ops D C' C1 (fun L'=>TN E ops D C' C1 (fun L C=>KJ E (Q .normal) D L C) tb n rem L' C) bs os ((t,.bool false)::L)):
 pU E ops D C' C1 (fun L'=>TN E ops D C' C1 (fun L C=>KJ E (Q .normal) D L C) tb n rem L' C) bs os L:=by
 have A: ∀ v:Bool,b=v→dy L ((t,.bool v)::L):=fun v hv=>dy.cons (hv▸h) (fun _ _ h=>h)
 cases b
 ·exact pU.mono (fun _ _=>TN.sub) (A _ U) (h2 U)
 ·exact pU.mono (fun _ _=>TN.sub) (A _ U) (h1 U)
theorem L5 {E:fh} {ops:Array Oper} {Q:c_} {D:List Deferred} {L:List (Nat×Value)} {C1 C2 C:List av} {t n:Nat} {b:Bool} {bs:List Bool} {os:List Oper} {tb rem:List Nat} (h:L.lookup t=some (.bool b)) (h2:b=false→pU E ops D C2 C1 (fun L2=>TN E ops D C2 C1 (fun L C=>KJ E (Q .normal) D L C) tb n rem L2 C) bs os ((t,.bool false)::L)) (h1:b=true→pU E ops D C2 C1 (fun L2=>TN E ops D C2 C1 (fun L C=>KJ E (Q .normal) D L C) tb n rem L2 C) bs os ((t,.bool true)::L)):pU E ops D C2 C1 (fun L2=>TN E ops D C2 C1 (fun L C=>KJ E (Q .normal) D L C) tb n rem L2 C) bs os L:=Mp h h1 h2
end
section
open Go.RowKit
section
variable {r:cd} {h i:Int} {t:aa} {k:Nat}
end
/-- there is a table -/
theorem Am {r:cd} (he:bY r=0): ∃ G,hZ (aD (aG r)) ((aG r).map (·.1)) G∧BB G:=by
 have key: ∀ (L:List Int),Ek (fun u=>(aD (aG r) u).Lo) L→ ∀ i,i≤L.length→ ∃ G last,ml (aD (aG r)) (L.take i) G last:=fun L B i=>by
  induction i with
  |zero=>intro _; exact ⟨[],-1,Fl⟩
  |succ i ih=>
   intro hi
   obtain ⟨G,last,hG⟩:=ih om
   have hx:L[i]? =some (L[i]'om):=ff _
   have C:=gO (i:=L[i]'om) (nm he)
   by_cases hl:last<(aD (aG r) (L[i]'om)).Lo
   ·obtain ⟨g,hg⟩: ∃ g,(G++[[]])[(G++[([]:List Int)]).length-1]? =some g:=⟨_,ff sm⟩
    exact ⟨_,_,pb om hx hg hG hl⟩
   ·have hp:=Ff C.1 hG hl
    obtain ⟨g,hg⟩: ∃ g,G[G.length-1]? =some g:=⟨_,ff om⟩
    exact ⟨_,_,oj om (fun u _=>(gO (i:=u) (nm he)).2.1) B hx hg hG hl⟩
 obtain ⟨G,last,hG⟩:=key (eD (fun u=>(aD (aG r) u).Lo) ((aG r).map (·.1))) uJ _ (Nat.le_refl _)
 have A:=uY hG.ok
 rw [List.take_length] at A
 exact ⟨_,qc A.1 qs,A.2⟩
theorem vh {r:cd}:(bH r).length≤1000000∧ ∀ l∈bH r,l.length≤1000000:=by
 by_cases he:bY r=0
 ·have E:(aG r).length≤5:=nx he
  have A: ∃ G,hZ (aD (aG r)) ((aG r).map (·.1)) G∧BB G:=by
   refine Classical.byContradiction fun hn=>?_
   exact hn (Am he)
  obtain ⟨G,hG,hA⟩:=A
  rw [← sV he hG hA]
  have C:=hG.perm.length_eq
  rw [List.length_map] at C
  have B: ∀ G:List (List Int),(∀ g∈G,g≠[])→G.length≤G.flatten.length:=fun G=>by
   induction G with
   |nil=>intro _; simp
   |cons g G ih=>
    intro hG
    have B:=ih fun y hy=>hG y (cW _ hy)
    have D:=List.length_pos_iff.2 (hG g bZ)
    simp only [List.flatten_cons,List.length_cons,List.length_append]; omega
  refine ⟨by have:=B G hG.some_; omega,fun l hl=>?_⟩
  have D:l.length≤G.flatten.length:=(List.sublist_flatten_of_mem hl).length_le
  omega
 ·rw [Be he]; simp
theorem Bw {r:cd} {h i:Int} {t:aa}:(cx r h i t).length≤r.aI.length:=by
 unfold cx
 split
 ·refine Nat.le_trans (List.length_filter_le _ _) ?_
  rw [gp,List.length_map]
  exact uy
 ·simp
end
section
open Go.RowKit
/-- a row is taken that was made before; an operation -/
inductive fH where
 |take (i:Nat)
 |op (j:Nat)
def fH.ix:fH→Nat
 | .take i=>i
 | .op j=>j
def Bg (dO:Nat→Nat):List fH→List Nat
 |[]=>[]
 | .take i::s=>dO i::Bg dO s
 | .op _::s=>Bg dO s
theorem sL {dO:Nat→Nat} {i:Nat}: ∀ {s:List fH},fH.take i∈s→dO i∈Bg dO s
 | .take k::s,h=>by
  rcases List.mem_cons.1 h with e|h
  ·cases e; exact bZ ..
  ·exact cW _ (sL h)
 | .op k::s,h=>by
  rcases List.mem_cons.1 h with e|h
  ·cases e
  ·exact sL (s:=s) h
def rB (m:Array Nat) (dO:Nat→Nat) (x y:fH):Bool:=x.ix != y.ix&&(match y with | .op j=>ir m x.ix j| .take i=>match x with | .take k=>dO k != dO i| .op _=>true)
def TF (m:Array Nat) (dO:Nat→Nat):List fH→Bool
 |[]=>true
 |x::s=>s.all (rB m dO x)&&TF m dO s
theorem FQ {m:Array Nat} {dO:Nat→Nat}: ∀ {s:List fH},TF m dO s=true→s.Pairwise fun x y=>rB m dO x y=true
 |[],_=>List.Pairwise.nil
 |x::s,h=>by
  simp only [TF,cR] at h
  exact List.Pairwise.cons (fun y hy=>List.all_eq_true.1 h.1 y hy) (FQ h.2)
/-- what is known of the slots B is known in L -/
def Bh (B L:List (Nat×Value)):Prop:= ∀ t v,B.lookup t=some v→L.lookup t=some v
theorem vE {B L:List (Nat×Value)} (h:B.map (fun p=>L.lookup p.1)=B.map (fun p=>some p.2)):Bh B L:=by
 induction B with
 |nil=>intro t v h; simp at h
 |cons p B ih=>
  obtain ⟨k,u⟩:=p
  simp only [List.map_cons,List.cons.injEq] at h
  intro t v hl
  by_cases e:t=k
  ·subst e
   simp only [List.lookup,beq_self_eq_true,Option.some.injEq] at hl
   rw [h.1,hl]
  ·have:(t==k)=false:=by simpa using e
   simp only [List.lookup,this] at hl
   exact ih h.2 t v hl
theorem nG {L Y:List (Nat×Value)} {t:Nat}:(L++Y).lookup t=match L.lookup t with |some v=>some v|none=>Y.lookup t:=by
 induction L with
 |nil=>rfl
 |cons p L ih=>
  obtain ⟨k,u⟩:=p
  by_cases e:t==k
  ·simp [List.lookup,e]
  ·have:(t==k)=false:=by simpa using e
   simp only [List.cons_append,List.lookup,this,ih]
theorem Bh.app {B L Y:List (Nat×Value)} (h:Bh B L):Bh B (L++Y):=fun t v ht=>by rw [nG,h t v ht]
theorem PA {B L:List (Nat×Value)} (h:Bh B L) {x:Operand} {v:Value} (hv:ev B x=some v):ev L x=some v:=by
 cases x<;>simp only [ev] at hv ⊢ <;>first|exact h _ _ hv|exact hv
theorem E1 {B L:List (Nat×Value)} (h:Bh B L): ∀ {xs:List Operand} {vs:List Value},evs B xs=some vs→evs L xs=some vs
 |[],vs,hv=>hv
 |x::xs,vs,hv=>by
  simp only [evs] at hv ⊢
  cases e1:ev B x with
  |none=>rw [e1] at hv; simp at hv
  |some v=>
   cases e2:evs B xs with
   |none=>rw [e1,e2] at hv; simp at hv
   |some us=>
    rw [e1,e2] at hv
    rw [PA h e1,E1 h e2]; exact hv
section
variable (E:fh) (ops:Array Oper) (D:List Deferred) (C':List av) (K0:Act→World→Prop) (B:List (Nat×Value)) (dO:Nat→Nat) (VO:Nat→Nat→Value) (AO:Nat→Nat→av)
def CH:List fH→List (Nat×Value)→List av→Prop
 |[],L,C=>KJ E K0 D L C
 | .take i::s,L,C=> ∀ b,CH s ((dO i,VO i b)::L) (AO i b::C)
 | .op j::s,L,C=> ∀ o,ops[j]? =some o→ ∀ (Y:List (Nat×Value)) (X:List av) (K:Act→World→Prop),(∀ L' C'',(∀ w,St E.S E.w0 C'' w→St E.S E.w0 C' w)→((Bg dO s).all fun d=>(L'.lookup d).isNone)=true→B.map (fun p=>L'.lookup p.1)=B.map (fun p=>some p.2)→CH s L' C''→KJ E K D (L'++Y) (C''++X))→RJ E ops (NQ K) [o] D (L++Y) (C++X)
/-- a row that is made at any time -/
def Q4 (i:Nat):Prop:= ∀ o,ops[i]? =some o→ ∀ (L:List (Nat×Value)) (C:List av) (K:Act→World→Prop),Bh B L→(∀ b,KJ E K D ((dO i,VO i b)::L) (AO i b::C))→RJ E ops (NQ K) [o] D L C
end
section
variable {E:fh} {ops:Array Oper} {D:List Deferred} {C' C1:List av} {K0:Act→World→Prop} {B:List (Nat×Value)} {dO:Nat→Nat} {VO:Nat→Nat→Value} {AO:Nat→Nat→av}
theorem EV {Q:c_} {rest:List Oper} {L L2:List (Nat×Value)} {C C2:List av} (hL: ∀ a,Fr E.n D L a→Fr E.n D L2 a) (hC: ∀ w,St E.S E.w0 C w→St E.S E.w0 C2 w) (h:RJ E ops Q rest D L2 C2):RJ E ops Q rest D L C:=fun a w hf hs=>h a w (hL a hf) (hC w hs)
theorem Af {K:Act→World→Prop} {L L2:List (Nat×Value)} {C C2:List av} (hL: ∀ a,Fr E.n D L a→Fr E.n D L2 a) (hC: ∀ w,St E.S E.w0 C w→St E.S E.w0 C2 w) (h:KJ E K D L2 C2):KJ E K D L C:=fun a w hf hs=>h a w (hL a hf) (hC w hs)
theorem BC {n:Nat} {L L2:List (Nat×Value)} (h: ∀ t v,L2.lookup t=some v→L.lookup t=some v) (a:Act) (hf:Fr n D L a):Fr n D L2 a:=⟨hf.defers,hf.size,fun t v ht=>hf.at_ t v (h t v ht)⟩
theorem EM: ∀ (T0 s':List fH) (dn:List (Nat×Nat)) (L Y:List (Nat×Value)) (C:List av),(∀ x∈T0,∃ i b,x= .take i∧(i,b)∈dn)→(T0++s').Pairwise (fun x y=>rB (pS ops) dO x y=true)→(dn.map (·.1)).Nodup→(∀ p∈dn,fH.take p.1∈T0++s')→(∀ p∈dn,Y.lookup (dO p.1)=some (VO p.1 p.2))→(∀ i,fH.take i∈T0++s'→L.lookup (dO i)=none)→
 CH E ops D C' K0 B dO VO AO (T0++s') L C→ ∃ (dn':List (Nat×Nat)) (L':List (Nat×Value)) (C2:List av),CH E ops D C' K0 B dO VO AO s' L' C2∧(dn'.map (·.1)).Nodup∧(∀ p,p∈dn'↔p∈dn∧fH.take p.1∈s')∧(∀ t v,(L'++Y).lookup t=some v→(L++Y).lookup t=some v)∧(∀ i,fH.take i∈s'→L'.lookup (dO i)=none)∧(∀ w,St E.S E.w0 (C++dn.map fun p=>AO p.1 p.2) w→St E.S E.w0 (C2++dn'.map fun p=>AO p.1 p.2) w)
 |[],s',dn,L,Y,C,_,_,hn,hm,_,hl,h=>⟨dn,L,C,h,hn,fun p=>⟨fun q=>⟨q,hm p q⟩,fun q=>q.1⟩,fun t v q=>q,hl,fun w q=>q⟩
 |x::T0,s',dn,L,Y,C,ht,hp,hn,hm,hy,hl,h=>by
  obtain ⟨i,b,rfl,hb⟩:=ht x (bZ ..)
  obtain ⟨J,P⟩:=List.pairwise_cons.1 hp
  have AB: ∀ y∈T0++s',i≠y.ix:=fun y hy e=>by
   have:=J y hy
   simp only [rB,cR,bne_iff_ne,fH.ix] at this
   exact this.1 e
  have N: ∀ k,fH.take k∈T0++s'→dO k≠dO i:=fun k hk e=>by
   have:=J _ hk
   simp only [rB,cR,bne_iff_ne] at this
   exact this.2 e.symm
  have K:dn.Perm ((i,b)::dn.erase (i,b)):=List.perm_cons_erase hb
  have H:((dn.erase (i,b)).map (·.1)).Nodup∧i ∉ (dn.erase (i,b)).map (·.1):=by
   have:=(K.map (·.1)).nodup_iff.1 hn
   exact ⟨(List.nodup_cons.1 this).2,(List.nodup_cons.1 this).1⟩
  have A: ∀ p∈dn.erase (i,b),p∈dn∧p.1≠i:=fun p hp=>⟨List.mem_of_mem_erase hp,fun e=>by have q:=List.mem_map_of_mem (f:=fun p:Nat×Nat=>p.1) hp; simp only [e] at q; exact H.2 q⟩
  have O:L.lookup (dO i)=none:=hl i (bZ ..)
  obtain ⟨dn',L',C2,R,T,AA,V,W,X⟩:=EM T0 s' (dn.erase (i,b)) ((dO i,VO i b)::L) Y (AO i b::C) (fun x hx=>by
   obtain ⟨k,c,rfl,hk⟩:=ht x (cW _ hx)
   refine ⟨k,c,U,?_⟩
   have F:k≠i:=fun e=>AB _ (List.mem_append_left _ hx) e.symm
   exact (List.mem_erase_of_ne (fun e=>F (congrArg Prod.fst e))).2 hk) P H.1 (fun p hp=>by
   obtain ⟨M,G⟩:=A p hp
   rcases List.mem_cons.1 (hm p M) with e|e
   ·injection e with e; exact absurd e G
   ·exact e) (fun p hp=>hy p (A p hp).1) (fun k hk=>by
   have:(dO k==dO i)=false:=by simpa using N k hk
   simp only [List.lookup,this]
   exact hl k (cW _ hk)) (h b)
  refine ⟨dn',L',C2,R,T,fun p=>?_,fun t v hv=>?_,W,fun w hw=>X w ?_⟩
  ·rw [AA]
   constructor
   ·rintro ⟨M,G⟩; exact ⟨(A p M).1,G⟩
   ·rintro ⟨M,G⟩
    have F:p.1≠i:=fun e=>AB _ (List.mem_append_right _ G) e.symm
    exact ⟨(List.mem_erase_of_ne (fun e=>F (congrArg Prod.fst e))).2 M,G⟩
  ·have:=V t v hv
   rw [nG] at this ⊢
   by_cases e:t=dO i
   ·subst e
    simp only [List.lookup,beq_self_eq_true] at this
    rw [O]; simp only
    rw [hy _ hb]; exact this
   ·have Q:(t==dO i)=false:=by simpa using e
    simp only [List.lookup,Q] at this
    exact this
  ·refine hw.perm ?_
   show (C++dn.map fun p=>AO p.1 p.2).Perm (AO i b::(C++(dn.erase (i,b)).map fun p=>AO p.1 p.2))
   refine ((K.map fun p:Nat×Nat=>AO p.1 p.2).append_left C).trans ?_
   exact List.perm_middle
theorem B0: ∀ (s:List fH) (j:Nat),fH.op j∈s→ ∃ T0 k s',s=T0++fH.op k::s'∧ ∀ x∈T0,∃ i,x=fH.take i
 | .take i::s,j,h=>by
  rcases List.mem_cons.1 h with e|h
  ·cases e
  ·obtain ⟨T0,k,s',rfl,A⟩:=B0 s j h
   exact ⟨.take i::T0,k,s',U,fun x hx=>by
    rcases List.mem_cons.1 hx with rfl|hx
    ·exact ⟨i,U⟩
    ·exact A x hx⟩
 | .op k::s,j,_=>⟨[],k,s,rfl,fun x hx=>by cases hx⟩
def kb (s:List fH) (dn:List (Nat×Nat)):List Nat:=(s.map fH.ix).filter fun i=> !(dn.map (·.1)).contains i
theorem q6 {s:List fH} {dn:List (Nat×Nat)} {i:Nat}:i∈kb s dn↔(∃ x∈s,x.ix=i)∧ ∀ p∈dn,p.1≠i:=by
 unfold kb
 rw [List.mem_filter,sZ]
 refine and_congr Iff.rfl ?_
 rw [Bool.not_eq_true',← Bool.not_eq_true,List.contains_iff_mem,sZ]
 constructor
 ·intro h p hp e; exact h ⟨p,hp,e⟩
 ·rintro h ⟨p,hp,e⟩; exact h p hp e
theorem p5 (hal: ∀ i,Q4 E ops D B dO VO AO i∨True): ∀ (n:Nat) (s:List fH) (dn:List (Nat×Nat)) (L Y:List (Nat×Value)) (C:List av),(∀ i,fH.take i∈s→Q4 E ops D B dO VO AO i)→s.Pairwise (fun x y=>rB (pS ops) dO x y=true)→(kb s dn).length=n→(dn.map (·.1)).Nodup→(∀ p∈dn,fH.take p.1∈s)→(∀ p∈dn,Y.lookup (dO p.1)=some (VO p.1 p.2))→(∀ i,fH.take i∈s→L.lookup (dO i)=none)→Bh B L→
 (∀ w,St E.S E.w0 C w→St E.S E.w0 C' w)→CH E ops D C' K0 B dO VO AO s L C→TN E ops D C' C1 (fun L C=>KJ E K0 D L C) [] n (kb s dn) (L++Y) (C++dn.map fun p=>AO p.1 p.2)
 |0,s,dn,L,Y,C,_,hp,hlen,hn,hm,hy,hl,hB,hC,h=>by
  have hr:kb s dn=[]:=jz hlen
  have Q: ∀ x∈s,∃ i b,x=fH.take i∧(i,b)∈dn:=fun x hx=>by
   have hx':x.ix ∉ kb s dn:=by rw [hr]; exact List.not_mem_nil
   rw [q6] at hx'
   have: ∃ p∈dn,p.1=x.ix:=by
    apply Classical.byContradiction
    intro q
    exact hx' ⟨⟨x,hx,U⟩,fun p hp e=>q ⟨p,hp,e⟩⟩
   obtain ⟨p,T,AF⟩:=this
   have ht:=hm p T
   rcases List.mem_iff_getElem.1 hx with ⟨a,ha,ea⟩
   rcases List.mem_iff_getElem.1 ht with ⟨c,hc,ec⟩
   have d:a=c:=by
    rcases Nat.lt_trichotomy a c with q|q|q
    ·have:=List.pairwise_iff_getElem.1 hp a c ha hc q
     simp only [rB,cR,bne_iff_ne,ea,ec] at this
     exact absurd AF.symm this.1
    ·exact q
    ·have:=List.pairwise_iff_getElem.1 hp c a hc ha q
     simp only [rB,cR,bne_iff_ne,ea,ec] at this
     exact absurd AF this.1
   subst d
   exact ⟨p.1,p.2,by rw [← ea,ec],T⟩
  obtain ⟨dn',L',C2,V,J,O,W,h5,X⟩:=EM s [] dn L Y C Q (by simpa using hp) hn (by simpa using hm) hy (by simpa using hl) (by simpa using h)
  show KJ E K0 D _ _
  have hd:dn'=[]:=List.eq_nil_iff_forall_not_mem.2 fun p hp=>by have:=((O p).1 hp).2; cases this
  subst hd
  refine Af (L2:=L') (C2:=C2) (fun a hf=>BC (fun t v ht=>W t v (by rw [nG,ht])) a hf) (fun w hw=>by have:=X w hw; simpa using this) V
 |n+1,s,dn,L,Y,C,hal',hp,hlen,hn,hm,hy,hl,hB,hC,h=>by
  intro i hi o ho K hK
  obtain ⟨G,m⟩:=List.mem_filter.1 hi
  obtain ⟨⟨x,hx,rfl⟩,H⟩:=q6.1 G
  have A: ∀ k∈kb s dn,ir (pS ops) k x.ix=false:=fun k hk=>by
   have:=List.all_eq_true.1 m k hk
   simpa using this
  cases x with
  |take i=>
   simp only [fH.ix] at H A ho hK G ⊢
   refine hal' i hx o ho _ _ K hB.app fun b=>?_
   have l:=hl i hx
   have AG:(kb s dn).filter (· != i)=kb s ((i,b)::dn):=by
    unfold kb
    rw [List.filter_filter]
    apply List.filter_congr
    intro k _
    simp only [List.map_cons,List.contains_cons,Bool.not_or]
    rfl
   have N:(kb s dn).Nodup:=by
    unfold kb
    refine List.Nodup.sublist List.filter_sublist<|List.pairwise_map.2 (hp.imp fun {a c} q=>?_)
    simp only [rB,cR,bne_iff_ne] at q
    exact q.1
   have M: ∀ k,fH.take k∈s→k≠i→dO k≠dO i:=fun k hk AA e=>by
    rcases List.mem_iff_getElem.1 hx with ⟨a,ha,ea⟩
    rcases List.mem_iff_getElem.1 hk with ⟨c,hc,ec⟩
    rcases Nat.lt_trichotomy a c with q|q|q
    ·have:=List.pairwise_iff_getElem.1 hp a c ha hc q
     simp only [rB,cR,bne_iff_ne,ea,ec] at this
     exact this.2 e.symm
    ·subst q; rw [ea] at ec; cases ec; exact AA rfl
    ·have:=List.pairwise_iff_getElem.1 hp c a hc ha q
     simp only [rB,cR,bne_iff_ne,ea,ec] at this
     exact this.2 e
   refine Af (L2:=L++((dO i,VO i b)::Y)) (C2:=C++((i,b)::dn).map fun p=>AO p.1 p.2) (fun a hf=>BC (fun t v ht=>?_) a hf) (fun w hw=>hw.perm (List.perm_middle).symm) (hK _ _ (fun w hw=>hC w (hw.take (List.sublist_append_left _ _))) (fun q=>by cases q) ?_)
   ·rw [nG] at ht
    by_cases e:t=dO i
    ·subst e
     rw [l] at ht
     simp only [List.lookup,beq_self_eq_true] at ht ⊢
     exact ht
    ·have e2:(t==dO i)=false:=by simpa using e
     simp only [List.lookup,e2] at ht ⊢
     rw [nG]; exact ht
   ·rw [AG]
    refine p5 hal n s ((i,b)::dn) L ((dO i,VO i b)::Y) C hal' hp ?_ (List.nodup_cons.2 ⟨fun q=>?_,hn⟩) (fun p hp'=>?_) (fun p hp'=>?_) hl hB hC h
    ·rw [← AG,← List.Nodup.erase_eq_filter N,List.length_erase_of_mem G,hlen]; rfl
    ·obtain ⟨p,hp',e⟩:=List.mem_map.1 q
     exact H p hp' e
    ·rcases List.mem_cons.1 hp' with rfl|hp'
     ·exact hx
     ·exact hm p hp'
    ·rcases List.mem_cons.1 hp' with rfl|hp'
     ·simp [List.lookup]
     ·have:(dO p.1==dO i)=false:=by simpa using M p.1 (hm p hp') (H p hp')
      simp only [List.lookup,this]
      exact hy p hp'
  |op j=>
   simp only [fH.ix] at H A ho hK G ⊢
   obtain ⟨T0,k,s',rfl,hT⟩:=B0 s j hx
   obtain ⟨q1,q2,q3⟩:=List.pairwise_append.1 hp
   obtain ⟨q4,q5⟩:=List.pairwise_cons.1 q2
   have R: ∀ k',fH.op k'∈T0++fH.op k::s'→k'∈kb (T0++fH.op k::s') dn:=fun k' hk'=>by
    refine q6.2 ⟨⟨_,hk',U⟩,fun p hp' e=>?_⟩
    have ht:=hm p hp'
    rcases List.mem_iff_getElem.1 hk' with ⟨a,ha,ea⟩
    rcases List.mem_iff_getElem.1 ht with ⟨c,hc,ec⟩
    rcases Nat.lt_trichotomy a c with q|q|q
    ·have:=List.pairwise_iff_getElem.1 hp a c ha hc q
     simp only [rB,cR,bne_iff_ne,ea,ec,fH.ix] at this
     exact this.1 e.symm
    ·subst q; rw [ea] at ec; cases ec
    ·have:=List.pairwise_iff_getElem.1 hp c a hc ha q
     simp only [rB,cR,bne_iff_ne,ea,ec,fH.ix] at this
     exact this.1 e
   have AB:k=j:=by
    apply Classical.byContradiction
    intro AC
    have hj':fH.op j∈s':=by
     rcases List.mem_append.1 hx with q|q
     ·obtain ⟨i,e⟩:=hT _ q; cases e
     ·rcases List.mem_cons.1 q with e|q
      ·injection e with e; exact absurd e.symm AC
      ·exact q
    have:=q4 _ hj'
    simp only [rB,cR,fH.ix] at this
    have J:=A k (R k sm)
    rw [this.2] at J; cases J
   subst AB
   have F: ∀ x∈T0,∃ i b,x=fH.take i∧(i,b)∈dn:=fun x hx'=>by
    obtain ⟨i,rfl⟩:=hT x hx'
    apply Classical.byContradiction
    intro q
    have r:i∈kb (T0++fH.op k::s') dn:=q6.2 ⟨⟨_,List.mem_append_left _ hx',rfl⟩,fun p hp' e=>q ⟨i,p.2,rfl,by rw [← e]; exact hp'⟩⟩
    have:=q3 _ hx' _ (bZ ..)
    simp only [rB,cR,fH.ix] at this
    have J:=A i r
    rw [this.2] at J; cases J
   obtain ⟨dn',L',C2,V,J,O,W,h5,X⟩:=EM T0 (fH.op k::s') dn L Y C F hp hn hm hy hl h
   refine EV (fun a hf=>BC W a hf) X (V o ho Y (dn'.map fun p=>AO p.1 p.2) K fun L3 C3 P AD Z g=>?_)
   have AG:(kb (T0++fH.op k::s') dn).filter (· != k)=kb s' dn':=by
    unfold kb
    rw [List.map_append,List.filter_append,List.map_cons,List.filter_append]
    have e1:(List.map fH.ix T0).filter (fun i=> !(dn.map (·.1)).contains i)=[]:=by
     apply List.filter_eq_nil_iff.2
     intro z hz
     obtain ⟨x,hx',rfl⟩:=List.mem_map.1 hz
     obtain ⟨i,b,rfl,hb⟩:=F x hx'
     simp only [fH.ix,Bool.not_eq_true',Bool.not_eq_false,List.contains_iff_mem]
     exact List.mem_map_of_mem (f:=(·.1)) hb
    rw [e1]
    simp only [List.filter_nil,List.nil_append]
    have u:k ∉ dn.map (·.1):=fun q=>by
     obtain ⟨p,hp',e⟩:=List.mem_map.1 q
     exact H p hp' e
    rw [List.filter_cons_of_pos (by simpa [fH.ix] using u),List.filter_cons_of_neg (by simp [fH.ix]),List.filter_filter]
    apply List.filter_congr
    intro z hz
    obtain ⟨y,hy',rfl⟩:=List.mem_map.1 hz
    have AE:y.ix≠k:=fun e=>by
     have:=q4 y hy'
     simp only [rB,cR,bne_iff_ne,fH.ix] at this
     exact this.1 e.symm
    rw [Bool.eq_iff_iff]
    simp only [cR,bne_iff_ne,Bool.not_eq_true',← Bool.not_eq_true,List.contains_iff_mem]
    constructor
    ·rintro ⟨_,hq⟩ hc
     obtain ⟨p,hp',e⟩:=List.mem_map.1 hc
     exact hq (by rw [← e]; exact List.mem_map_of_mem (f:=(·.1)) ((O p).1 hp').1)
    ·intro hq
     refine ⟨AE,fun hc=>?_⟩
     obtain ⟨p,hp',e⟩:=List.mem_map.1 hc
     apply hq
     rw [← e]
     refine List.mem_map_of_mem (f:=(·.1)) ((O p).2 ⟨hp',?_⟩)
     have ht:=hm p hp'
     rcases List.mem_append.1 ht with ht|ht
     ·exfalso
      have:=q3 _ ht _ (cW _ hy')
      simp only [rB,cR,bne_iff_ne,fH.ix] at this
      exact this.1 e
     ·exact ht
   have N:(kb (T0++fH.op k::s') dn).Nodup:=by
    unfold kb
    refine List.Nodup.sublist List.filter_sublist<|List.pairwise_map.2 (hp.imp fun {a c} q=>?_)
    simp only [rB,cR,bne_iff_ne] at q
    exact q.1
   refine hK _ _ (fun w hw=>P w (hw.take (List.sublist_append_left _ _))) (fun q=>by cases q) ?_
   rw [AG]
   have hdn': ∀ p∈dn',fH.take p.1∈s':=fun p hp'=>by
    rcases List.mem_cons.1 ((O p).1 hp').2 with e|e
    ·cases e
    ·exact e
   refine p5 hal n s' dn' L3 Y C3 (fun i hi=>hal' i (by simp [hi])) q5 ?_ J hdn' (fun p hp'=>hy p ((O p).1 hp').1) (fun i hi=>?_) (vE Z) P g
   ·rw [← AG,← List.Nodup.erase_eq_filter N,List.length_erase_of_mem G,hlen]; rfl
   ·have:=List.all_eq_true.1 AD _ (sL hi)
    simpa using this
/-- the rows, at any time; the others, one after the other -/
theorem Na {tb rem:List Nat} {L:List (Nat×Value)} {C:List av} (s:List fH) (B:List (Nat×Value)) (dO:Nat→Nat) (VO:Nat→Nat→Value) (AO:Nat→Nat→av) {n:Nat} (htb:tb=[]) (hr:s.map fH.ix=rem) (hn:rem.length=n) (hp:TF (pS ops) dO s=true) (hl:((Bg dO s).all fun d=>(L.lookup d).isNone)=true) (hB:B.map (fun p=>L.lookup p.1)=B.map (fun p=>some p.2)) (hC: ∀ w,St E.S E.w0 C w→St E.S E.w0 C' w)
 (hal: ∀ i,fH.take i∈s→Q4 E ops D B dO VO AO i) (h:CH E ops D C' K0 B dO VO AO s L C):TN E ops D C' C1 (fun L C=>KJ E K0 D L C) tb n rem L C:=by
 subst htb hr
 have e:kb s []=s.map fH.ix:=by unfold kb; simp
 have:=p5 (C1:=C1) (fun i=> .inr trivial) n s [] L [] C hal (FQ hp) (by rw [e]; exact hn) List.nodup_nil (fun p hp=>by cases hp) (fun p hp=>by cases hp) (fun i hi=>by
  have:=List.all_eq_true.1 hl _ (sL hi)
  simpa using this) (vE hB) hC h
 simpa [e] using this
theorem Po {p:Nat→Prop}: ∀ i,fH.take i∈([]:List fH)→p i:=fun i h=>by cases h
theorem xQ {p:Nat→Prop} {j:Nat} {s:List fH} (h: ∀ i,fH.take i∈s→p i): ∀ i,fH.take i∈fH.op j::s→p i:=fun i hi=>by
 rcases List.mem_cons.1 hi with e|hi
 ·cases e
 ·exact h i hi
theorem vz {p:Nat→Prop} {j:Nat} {s:List fH} (hj:p j) (h: ∀ i,fH.take i∈s→p i): ∀ i,fH.take i∈fH.take j::s→p i:=fun i hi=>by
 rcases List.mem_cons.1 hi with e|hi
 ·cases e; exact hj
 ·exact h i hi
end
section
variable {E:fh} {ops:Array Oper} {D:List Deferred} {B:List (Nat×Value)} {dO:Nat→Nat} {VO:Nat→Nat→Value} {AO:Nat→Nat→av}
variable {d:Nat} {ty:TypeId} {ps:String} {af:Array Edge}
theorem IY {i t e sz:Nat} (ho:ops[i]? =some ⟨some d,.buildSlice t 0 #[],ty,ps,af,none⟩) (ht:tE E.P t=some (e,sz)) (hd:Nat.blt d E.n=true) (h1:dO i=d) (h2: ∀ b,VO i b= .slice (some ⟨b,0,none⟩) 0 0) (h3: ∀ b,AO i b=b_ b e []):Q4 E ops D B dO VO AO i:=fun o ho' L C K hB hk=>by
 rw [ho] at ho'; cases ho'
 exact sO U ht hd fun b=>aF (by have:=hk b; rw [h1,h2,h3] at this; exact this)
theorem OI {i t e sz n:Nat} {xs:List Operand} {vs:List Value} {cs zs:List Value} (ho:ops[i]? =some ⟨some d,.buildSlice t n ((xs.zipIdx.map fun p=>(p.2,p.1)).toArray),ty,ps,af,none⟩) (ht:tE E.P t=some (e,sz)) (hz:tZ E.P e=some zs) (hx:evs B xs=some vs) (hn:xs.length=n) (hp:Nat.blt 0 (n*sz)=true) (hb:Nat.ble (n*sz) 16777216=true) (hv: ∀ v∈vs,v.cells.size=sz)
 (hc:(vs.map (·.cells.toList)).flatten=cs) (hd:Nat.blt d E.n=true) (h1:dO i=d) (h2: ∀ b,VO i b= .slice (some ⟨b,0,none⟩) n n) (h3: ∀ b,AO i b=b_ b e cs):Q4 E ops D B dO VO AO i:=fun o ho' L C K hB hk=>by
 rw [ho] at ho'; cases ho'
 exact cZ U ht hz (E1 hB hx) hn hp hb hv hc hd fun b=>aF (by have:=hk b; rw [h1,h2,h3] at this; exact this)
end
section
variable {E:fh} {ops:Array Oper} {D:List Deferred} {C':List av} {K0:Act→World→Prop} {B:List (Nat×Value)} {dO:Nat→Nat} {VO:Nat→Nat→Value} {AO:Nat→Nat→av}
theorem wb {j:Nat} {s:List fH} {L:List (Nat×Value)} {C:List av} {o:Oper} (ho:ops[j]? =some o)
 (h: ∀ (Y:List (Nat×Value)) (X:List av) (K:Act→World→Prop),(∀ L' C'',(∀ w,St E.S E.w0 C'' w→St E.S E.w0 C' w)→((Bg dO s).all fun d=>(L'.lookup d).isNone)=true→B.map (fun p=>L'.lookup p.1)=B.map (fun p=>some p.2)→CH E ops D C' K0 B dO VO AO s L' C''→KJ E K D (L'++Y) (C''++X))→RJ E ops (NQ K) [o] D (L++Y) (C++X)):CH E ops D C' K0 B dO VO AO (.op j::s) L C:=fun o' ho'=>by
 rw [ho] at ho'; cases ho'
 exact h
theorem rV {s:List fH} {L Y:List (Nat×Value)} {C X:List av} {K:Act→World→Prop} (hT: ∀ L' C'',(∀ w,St E.S E.w0 C'' w→St E.S E.w0 C' w)→((Bg dO s).all fun d=>(L'.lookup d).isNone)=true→B.map (fun p=>L'.lookup p.1)=B.map (fun p=>some p.2)→CH E ops D C' K0 B dO VO AO s L' C''→KJ E K D (L'++Y) (C''++X)) (nL nC:Nat)
 (hL:L.take nL++Y=L) (hC:C.take nC++X=C) (h1: ∀ w,St E.S E.w0 (C.take nC) w→St E.S E.w0 C' w) (h2:((Bg dO s).all fun d=>((L.take nL).lookup d).isNone)=true) (h3:B.map (fun p=>(L.take nL).lookup p.1)=B.map (fun p=>some p.2)) (h:CH E ops D C' K0 B dO VO AO s (L.take nL) (C.take nC)):RJ E ops (NQ K) [] D L C:=by
 have:=hT _ _ h1 h2 h3 h
 rw [hL,hC] at this
 exact aF this
theorem RB {c:Code} {Q:c_} {L L':List (Nat×Value)} {C:List av} (h:L'.map (fun p=>L.lookup p.1)=L'.map (fun p=>some p.2)) (k:WJ E c Q D L' C):WJ E c Q D L C:=fun a w hf hs=>k a w (BC (vE h) a hf) hs
theorem wm: ∀ {C:List av} {i:Nat} {A:av},C[i]? =some A→C.Perm (A::C.eraseIdx i)
 |[],i,A,h=>by simp at h
 |x::C,0,A,h=>by
  simp at h; subst h
  exact List.Perm.refl _
 |x::C,i+1,A,h=>((wm (C:=C) (i:=i) (by simpa using h)).cons x).trans (List.Perm.swap _ _ _)
theorem St.front {S:BS} {w0 w:World} {C:List av} {A:av} (i:Nat) (hi:C[i]? =some A) (h:St S w0 C w):St S w0 (A::C.eraseIdx i) w:=h.perm (wm hi)
theorem FK {K:Act→World→Prop} {L:List (Nat×Value)} {C:List av} {A:av} (i:Nat) (hi:C[i]? =some A) (h:KJ E K D L (A::C.eraseIdx i)):KJ E K D L C:=fun a w hf hs=>h a w hf (hs.front i hi)
theorem qN {Q:c_} {rest:List Oper} {L:List (Nat×Value)} {C:List av} {A:av} (i:Nat) (hi:C[i]? =some A) (h:RJ E ops Q rest D L (A::C.eraseIdx i)):RJ E ops Q rest D L C:=fun a w hf hs=>h a w hf (hs.front i hi)
end
end
section
open Go.RowKit
section
variable {E:fh} {ops:Array Oper} {D:List Deferred} {C' C1:List av} {tb:List Nat}
theorem w8 {V:Type} {F:List (Nat×Value)→List av→Prop} (P:V→Prop) (fL:V→List (Nat×Value)) (fC:V→List av) (n:Nat) (rest:List Nat) {m:Nat} {rem:List Nat} {L:List (Nat×Value)} {C:List av} (h1:(∀ v,P v→TN E ops D C' C1 F tb n rest (fL v) (fC v))→TN E ops D C' C1 F tb m rem L C) (h2: ∀ v,P v→TN E ops D C' C1 F tb n rest (fL v) (fC v)):TN E ops D C' C1 F tb m rem L C:=h1 h2
theorem PL {K0:Act→World→Prop} {n:Nat} {rem:List Nat} {L L2:List (Nat×Value)} {C C2:List av} (hL: ∀ a,Fr E.n D L a→Fr E.n D L2 a) (hC: ∀ w,St E.S E.w0 C w→St E.S E.w0 C2 w) (h:TN E ops D C' C1 (fun L C=>KJ E K0 D L C) tb n rem L2 C2):TN E ops D C' C1 (fun L C=>KJ E K0 D L C) tb n rem L C:=by
 cases n with
 |zero=>exact Af hL hC h
 |succ n=>exact fun i hi o ho K hK=>EV hL hC (h i hi o ho K hK)
theorem jK {V:Type} {P:V→Prop} {fL:V→List (Nat×Value)} {fC:V→List av} {K0:Act→World→Prop} {n:Nat} {rem:List Nat} {L:List (Nat×Value)} {C:List av} (hJ: ∀ v,P v→TN E ops D C' C1 (fun L C=>KJ E K0 D L C) tb n rem (fL v) (fC v)) (v:V) (hp:P v) (ix:List Nat) (hL:(fL v).map (fun p=>L.lookup p.1)=(fL v).map (fun p=>some p.2)) (hn:decide ix.Nodup=true) (hC:oY C ix=some (fC v)):TN E ops D C' C1 (fun L C=>KJ E K0 D L C) tb n rem L C:=
 PL (fun a hf=>BC (vE hL) a hf) (fun w hs=>St.j_ _ hn (jv hC) hs) (hJ v hp)
end
end
section
open Go.RowKit
theorem oD (n lo hi:Int):
 d_ Tryz.prog 106 [(vI n),(vI lo),(vI hi)] [] (vB (decide (lo≤n∧n≤hi))):=by
 refine bE kr Tryz.func106 U U fun D Q hQ hN=>?_
 try dsimp only
 refine WS fun _ B=>bg 1 U<|RK B<|WS fun _ A=>rP 4 [] I ?_
 refine cw (t:=10) U (aQ fun C=>?_) (aP fun C=>?_)
 ·refine rP 5 [] I ?_
  refine RK A<|ar<|Q1 hQ U U U ?_
  exact cB (decide_eq_decide.2 om)
 refine rP 5 [] I ?_
 refine RK A<|ar<|Q1 hQ U U U ?_
 exact cB (cr om).symm
theorem FG (r:cG) (sgA:OA) (sgC:Nat):
 d_ Tryz.prog 136 [(vA (eK.cells (mo r sgA sgC)))] [(rd sgA r.aj.length 2 (r.aj.map aO.cells))] (vB (decide (l9 r))):=by
 refine bE kr Tryz.func136 U U fun F Q hQ hN=>?_
 try dsimp only
 refine WS fun _ B=>fU U fun E=>bg 1 U<|RK B<|WS fun _ A=>rP 4 [] (mc 0 U I) ?_
 refine cf (t:=6) U (aP fun C=>?_) (aQ fun C=>?_)
 ·refine rP 11 [] I ?_
  refine RK A<|ar<|Q1 hQ U U U ?_
  simp only [l9]
  exact cB (cr om).symm
 refine rP 5 [] (mc 0 U I) ?_
 refine cf (t:=11) U (aP fun D=>?_) (aQ fun D=>?_)
 ·refine rP 6 [] I ?_
  refine RK A<|ar<|Q1 hQ U U U ?_
  simp only [l9]
  exact cB (cr om).symm
 refine rP 6 [] (mc 0 U I) ?_
 refine RK A<|ar<|Q1 hQ U U U ?_
 simp only [l9]
 exact cB (decide_eq_decide.2 om)
theorem N3 (s:aa):
 d_ Tryz.prog 137 [(vA (aa.cells s))] [] (vB (decide (iI s))):=by
 refine bE kr Tryz.func137 U U fun F Q hQ hN=>?_
 try dsimp only
 refine WS fun _ B=>fU U fun E=>bg 1 U<|RK B<|WS fun _ A=>rP 4 [] (mc 0 U I) ?_
 refine cf (t:=6) U (aP fun C=>?_) (aQ fun C=>?_)
 ·refine rP 12 [] I ?_
  refine RK A<|ar<|Q1 hQ U U U ?_
  simp only [iI]
  exact cB (cr om).symm
 refine rP 7 [] (mc 0 U I) ?_
 refine cf (t:=13) U (aP fun D=>?_) (aQ fun D=>?_)
 ·refine rP 5 [] I ?_
  refine RK A<|ar<|Q1 hQ U U U ?_
  simp only [iI]
  exact cB (cr om).symm
 refine rP 5 [] (mc 0 U I) ?_
 refine RK A<|ar<|Q1 hQ U U U ?_
 simp only [iI]
 exact cB (decide_eq_decide.2 om)
theorem nQ (la:List Int) (laA:OA) (laC:Nat) (lb:List Int) (lbA:OA) (lbC:Nat) (h1:la.length≤1000000) (h2:lb.length≤1000000):
 d_ Tryz.prog 18 [(vS laA la.length laC),(vS lbA lb.length lbC)] [(rd laA la.length 1 (la.map iC)),(rd lbA lb.length 1 (lb.map iC))] (vB (decide (la=lb))):=by
 refine bE kr Tryz.func18 U U fun V Q hQ hN=>?_
 try dsimp only
 refine WS fun _ J=>bg 1 U<|RK J<|ak fun _ K=>WS fun _ L=>rP 5 [] I ?_
 refine RK L<|cE U (br fun hl=>?_) (bq fun hl=>?_)
 ·refine WS fun _ M=>rP 1 [] I ?_
  refine RK M<|ar<|Q1 hQ U U U ?_
  exact cB (cr (fun e=>by subst e; omega)).symm
 refine WK K<|ak fun _ N=>WS fun _ O=>rP 1 [] I ?_
 refine RK O<|ax ?_
 have A:(0≤la.length)∧(la.take 0=lb.take 0):=by simp
 refine bR (ι:={z:Nat // (z≤la.length)∧(la.take z=lb.take z)}) [0,1] [0,1] U U (fun z=>[(5,(vI (z.1:Int)))]) (fun z=>[]) (fun _=>rfl) (fun _=>rfl) (fun z=>la.length-z.1) ⟨0,A⟩ (aU U) (aL [0,1]) ?_
 clear A
 rintro ⟨i,⟨S,B⟩⟩ J7 AB
 try dsimp only
 refine ak fun _ P=>WS fun _ R=>rP 4 [] I ?_
 refine RK R<|bS U (aP fun H=>?_) (aQ fun H=>?_)
 ·refine bB<|ae<|ae<|aA<|KK N<|WS fun _ F=>rP 1 [] I ?_
  refine RK F<|ar<|Q1 hQ U U U ?_
  exact cB (fP (mX om B om)).symm
 refine WK P<|ak fun _ C=>ax<|ak fun _ D=>dh cu 9 kr<|dP 2 [] I ?_
 obtain ⟨x,hx⟩:=aM la i om
 have T:=bQ iC hx
 refine dS (IA i U (aB 0 U) cJ dc om om)<|dS (gh i 0 (vI x) U cm (aB 0 U) T U dc U)<|dP 2 [] I ?_
 obtain ⟨y,hy⟩:=aM lb i om
 have AA:=bQ iC hy
 refine dS (IA i U (aB 1 U) cJ dc om om)<|dS (gh i 0 (vI y) U cm (aB 1 U) AA U dc U)<|dP 1 [] I ?_
 refine cK<|RK D<|cE U (br fun h=>?_) (bq fun h=>?_)
 ·refine WS fun _ E=>rP 1 [] I ?_
  refine RK E<|ar<|Q1 hQ U U U ?_
  exact cB (cr (mY hx hy h)).symm
 refine cj<|aH<|KK C<|an<|rP 3 [] I ?_
 refine aF ?_
 have G:(vI (((i+1):Nat):Int))=(vI ((i:Int)+1)):=by exact cI om
 refine aT (AB ⟨(i+1),⟨om,ui B hx hy h⟩⟩ _ _ _ U os (dy.cons U<|dy.cons U<|bo U G<|dy.nil _) (aL [0,1]))
end
section
open Go.RowKit
theorem J_ (m:g3) (gm g1:Nat):
 DD Tryz.prog 64 [] [(vP g1)] [(hO iV gm (bM dW m)),(b_ g1 58 [(Value.map (some gm))])] ([]:List Int) (fun ys x ys'=> ∃ n zs,(ys++[n]++zs).Perm (m.map (·.1))∧x=[vI n]∧ys'=ys++[n]) (fun ys=>ys.Perm (m.map (·.1))):=by
 refine sW kr Tryz.func64 U U fun l J Z A0 S Q hY M L hQ hN=>?_
 try dsimp only
 refine WS fun _ O=>rP 1 [] (mr 2 U I) ?_
 refine iG (kV:=iV) (m:=bM dW m) 1 U U nJ U ⟨U,fun h=>h⟩ (by exact j1 1 U) U fun V=>?_
 try dsimp only
 refine RK O<|ax ?_
 have G:(oc m m ([]:List Int))∧(∀ p∈m,p∈m)∧(J ([]:List Int) A0)∧(Fo A0 S A0):=by exact ⟨uM,fun p hp=>hp,M,L⟩
 refine bR (ι:={z:g3×(List Int)×av // (oc m z.1 z.2.1)∧(∀ p∈z.1,p∈m)∧(J z.2.1 z.2.2)∧(Fo A0 S z.2.2)}) [0,1,5] [2,3] U U (fun z=>[]) (fun z=>[(x9 iV V gm (bM dW m) (bM dW z.1.1) none),z.1.2.2]) (fun _=>rfl) (fun _=>rfl) (fun z=>z.1.1.length) ⟨(m,([]:List Int),A0),G⟩ (dy.nil _) (aL [2,3,0,1]) ?_
 clear G
 rintro ⟨⟨left,ys,A⟩,⟨B,H,C,D⟩⟩ J3 N
 try dsimp only at B H C D
 try dsimp only
 refine WS fun _ AB=>g6 (dQ oG).inj (f:=dW) 2 U U U U (fun T=>?_) (fun x y hm hn=>?_)
 ·refine rP 1 [] I ?_
  refine RK AB<|ak fun _ AA=>aX U<|bB<|ae<|ae<|aA ?_
  refine hN _ _ _ (gU (vs:=[]) trivial fun w hs=>Kz 3 U (by rw [T] at B; exact wx B) C D hs)
 try dsimp only
 refine bg 1 U<|RK AB<|ak fun _ P=>aR U<|WK P<|ax<|WS fun _ R=>rS (SX (g7 2 U U U) U U)<|bg 2 U<|RK R<|WS fun _ K=>rP 2 [] I ?_
 refine ko (k:=ys) (k':=(ys++[(x)])) 3 (by first|exact hsz|exact Nat.le_refl _) hY C D U U U (by exact ⟨x,_,nW hn hm B,U,U⟩) U U (fun B9 F E=>?_) (fun B9 F E=>?_)
 rotate_left 1
 ·refine rP 1 [] I ?_
  refine RK K<|aR U<|ar ?_
  refine hQ _ _ _ (gU (vs:=[]) trivial fun w hs=>rn 3 U F E hs)
 refine rP 1 [] I ?_
 refine RK K<|aX U<|cj<|aH<|f_ 2 U eJ U ?_
 refine aT (N ⟨((cp left x),(ys++[(x)]),B9),⟨nW hn hm B,eQ H,F,E⟩⟩ _ _ _ U (dU hm) (aU U) (aL [0,1,2,3]))
theorem F5 (gm:Nat):
 lq Tryz.prog 42 [(Value.map (some gm))] [] (fun (x:Nat)=>(Value.func (.func 64) [].toArray [(vP x)].toArray)) (fun (x:Nat)=>True) (fun (x:Nat)=>[(b_ x 58 [(Value.map (some gm))])]):=by
 refine dv kr Tryz.func42 U U fun D Q hQ hN=>?_
 try dsimp only
 refine WS fun _ A=>uA U U fun C=>bg 1 U<|RK A<|WS fun _ B=>rS (FU U)<|rP 1 [] I ?_
 refine RK B<|ar<|LX hQ C [0] [] I U U U U ?_
 trivial
end
section
open Go.RowKit
theorem Gm (m:g3) (gm g1:Nat) (hlen:m.length≤12):
 lq Tryz.prog 85 [(vS none 0 0),(Value.func (.func 64) [].toArray [(vP g1)].toArray)] [(hO iV gm (bM dW m)),(b_ g1 58 [(Value.map (some gm))])] (fun (x:(List Int)×(OA)×Nat)=>(vS x.2.1 x.1.length x.2.2)) (fun (x:(List Int)×(OA)×Nat)=>x.1.Perm (m.map (·.1))) (fun (x:(List Int)×(OA)×Nat)=>[(own x.2.1 x.2.2 3 1 (x.1.map iC))]):=by
 refine dv kr Tryz.func85 U U fun X Q hQ hN=>?_
 try dsimp only
 refine WS fun _ AB=>uA U U fun N=>bg 1 U<|RK AB<|ak fun _ J=>WS fun _ K=>rP 1 [] I ?_
 refine RK K<|ax<|kg 1 U (by exact fun _ h=>h)<|kg 3 U (by exact fun _ h=>h)<|fY 3 1 ?_
 refine m0 (L0:=[(2,(vP N))]) (F:=[(hO iV gm (bM dW m)).ro,(b_ g1 58 [(Value.map (some gm))]).ro]) (fun k (y:(OA)×Nat)=>(∃ zs,(k++zs).Perm (m.map (·.1)))) (fun k y=>[(own y.1 y.2 3 1 (k.map iC)),(b_ N 29 [(vS y.1 k.length y.2)]),(hO iV gm (bM dW m)).ro]) (fun _ (_:Unit)=>False) (fun _ _=>[]) [0,3,4] [2,1] (none,0) rfl rfl (J_ m gm g1) rfl rfl rfl (by exact ⟨_,List.Perm.refl _⟩) (by simp only [List.forall_mem_cons,List.not_mem_nil,false_imp_iff,implies_true,and_true]; exact ⟨⟨_,sm,(dC (bV _))⟩,⟨_,sm,(dC (bV _))⟩⟩) (by rintro k x AA ⟨n,zs,_,rfl,_⟩; rfl) rfl (aU rfl) ?_ ?_ (fun _ _ _ h=>h.elim) (fun _ _ h=>h.elim)
 rotate_left 1
 ·rintro V k ⟨a,c⟩ E A
  have B:=A
  try dsimp only at B
  try dsimp only
  refine aH<|KK J<|WS fun _ C=>rP 2 [] (mc 4 U I) ?_
  refine RK C<|ar<|hQ _ _ _ (oe 0 U U<|gU (vs:=[(vS a k.length c)]) ⟨U,trivial⟩ fun w hs=>KM (k,a,c) [3] ?_ ?_ U U U hs)
  ·rfl
  ·first|exact E|exact hys
 rintro k x AA ⟨a,c⟩ l ra rb S Y K5 Qr6 T hx G L D O P
 obtain ⟨n,zs,hn,rfl,rfl⟩:=hx; have M:=hn.length_eq; simp only [List.length_append,List.length_map,List.length_singleton] at M
 have B:=G
 try dsimp only at B
 try dsimp only
 refine an<|rP 1 [] I ?_
 refine aF<|aT (L _ _ ?_)
 refine ax<|an<|rP 2 [] (mc 2 U I) ?_
 refine cZ (xs:=[.tmp 9]) (cs:=[(vI n)]) U cJ jd U U U U (by simp [Value.cells]) U U fun W=>?_
 refine de (es2:=(List.map iC (k++[n]))) (m':=(k++[n]).length) 2 U U U pT U U sm (a_ (es:=List.map iC [n]) 0 U U (by simp [bK]) U) (j6 _) os (by simp only [maxLen]; omega) sm sm U fun R H=>?_
 try dsimp only
 refine TO U AJ U U<|aF<|aH ?_
 exact D (R,H) _ _ (by exact ⟨_,hn⟩) (aL [1,2,3,4])
end
section
open Go.RowKit
theorem DC (m:g3) (gm g1:Nat) (hlen:m.length≤12):
 lq Tryz.prog 63 [(Value.func (.func 64) [].toArray [(vP g1)].toArray)] [(hO iV gm (bM dW m)),(b_ g1 58 [(Value.map (some gm))])] (fun (x:(List Int)×(OA)×Nat)=>(vS x.2.1 x.1.length x.2.2)) (fun (x:(List Int)×(OA)×Nat)=>x.1.Perm (m.map (·.1))) (fun (x:(List Int)×(OA)×Nat)=>[(own x.2.1 x.2.2 3 1 (x.1.map iC))]):=by
 refine dv kr Tryz.func63 U U fun AA Q hQ hN=>?_
 try dsimp only
 refine WS fun _ A=>bg 1 U<|RK A<|WS fun _ B=>rP 1 [] I ?_
 refine cX (Gm m gm g1 hlen) (bh [0,1]) U fun H C=>?_
 obtain ⟨E,F,G⟩:=H
 try dsimp only
 have D:=C
 refine rP 1 [] I ?_
 refine RK B<|ar<|LX hQ (E,F,G) [0] [] I U U U U ?_
 first|exact hfin|exact D
theorem yG (m:g3) (gm g1:Nat) (hlen:m.length≤12):
 lq Tryz.prog 41 [(Value.func (.func 64) [].toArray [(vP g1)].toArray)] [(hO iV gm (bM dW m)),(b_ g1 58 [(Value.map (some gm))])] (fun (x:(OA)×Nat)=>(vS x.1 m.length x.2)) (fun (x:(OA)×Nat)=>True) (fun (x:(OA)×Nat)=>[(own x.1 x.2 3 1 ((dk (m.map (·.1))).map iC))]):=by
 refine dv kr Tryz.func41 U U fun M Q hQ hN=>?_
 try dsimp only
 refine WS fun _ E=>bg 1 U<|RK E<|WS fun _ F=>rP 1 [] I ?_
 refine cX (DC m gm g1 hlen) (bh [0,1]) U fun L H=>?_
 obtain ⟨AA,J,K⟩:=L
 try dsimp only
 have D:=H
 refine bg 1 U<|RK F<|WS fun _ G=>rP 1 [] I ?_
 have B:=D.length_eq
 simp only [List.length_map] at B
 refine iN 0 U U U U (zE AA J K sd) U j8 U (fun ms C=>?_)
 try dsimp only
 refine RK G<|WS fun _ A=>?_
 obtain rfl:=qg (C.1.trans D) C.2
 skip
 refine rP 2 [] I ?_
 refine RK A<|ar ?_
 refine LX hQ (J,K) [0] [] I U U U ?_ ?_
 ·first|rfl|(rw [B]; rfl)
 ·trivial
end
end Go.Proofs.YtdllkkdchkhimaaGreatDoor
