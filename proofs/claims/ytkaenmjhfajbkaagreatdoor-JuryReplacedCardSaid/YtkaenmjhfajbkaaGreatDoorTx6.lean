/-
 The statement juryReplaced_said, part 6 of 9: V4, V3, V5, V6, V8, Wh2, Rc2, Rc3, Rc4, Rs1, S2, Rs2, Rs3, Rs4, Rt2, Rs5, Rt3, B11, WLe, Ends5, Can, Sim, Told, Clear, Ways.
 Conditions: none.
-/
import Derived.Test.YtkaenmjhfajbkaaGreatDoorTx1
import Derived.Test.YtkaenmjhfajbkaaGreatDoorTx2
import Derived.Test.YtkaenmjhfajbkaaGreatDoorTx3
import Derived.Test.YtkaenmjhfajbkaaGreatDoorTx4
import Derived.Test.YtkaenmjhfajbkaaGreatDoorTx5
namespace Go.Proofs.YtkaenmjhfajbkaaGreatDoor
set_option maxRecDepth 100000
set_option maxHeartbeats 4000000
set_option linter.unusedVariables false
section
open Go.RowKit
theorem Gw (ln:cm) (ri:cL) (e:List Int) (tms:List TM) (e_A:OA) (e_C:Nat) (tb:List Nat) (t_A:OA) (t_C:Nat) (fs:List FM) (bs:List FM) (fb:List Nat) (f_A:OA) (f_C:Nat) (bb:List Nat) (b_A:OA) (b_C gw:Nat) (b g1 g2:Nat) (mf:FM) (mb:FM) (hb:b<e.length) (hw:GN (cZ ln ri e tms)) (htb:tb.length=tms.length) (hfw:wg (cZ ln ri e tms) fs) (hfb:fb.length=fs.length) (hbw:tO (cZ ln ri e tms) bs) (hbb:bb.length=bs.length) (hsg:ri.aa.n≤1000) (hm1:fs[b]? =some mf) (hm2:bs[b+1]? =some mb):
 Mg Tryz.prog 186 [] [(vP g1),(vP g2)] [(rd e_A e.length 1 (e.map iC)),(rd t_A tms.length 1 (List.zipWith gF tms tb)),(dE (bg pS tms tb)),(rd f_A fs.length 1 (List.zipWith gF fs fb)),(dE (bg m_ fs fb)),(rd b_A bs.length 1 (List.zipWith gF bs bb)),(dE (bg m_ bs bb)),(cz gw 276 (cd.cells (cd.mk ln ri (bE.mk e_A e.length e_C) (bE.mk t_A tms.length t_C) (bE.mk f_A fs.length f_C) (bE.mk b_A bs.length b_C)))),(cz g1 228 [(vP gw)]),(cz g2 3 [(vI (b:Int))])] ([]:List (Int×ai)) (fun ys x ys'=> ∃ q,q∈qy (cZ ln ri e tms) b mf mb∧x=Ot q∧ys'=ys++[q]) (fun ys=> ∀ q∈qy (cZ ln ri e tms) b mf mb,q∈ys):=by
 have LD:e.length≤6:=hw.n
 have LE:tms.length=e.length:=hw.times
 have Kl:fs.length=e.length+1:=hfw.len
 have J9:bs.length=e.length+1:=hbw.len
 refine FZ kr Tryz.func186 U U fun l J Z A0 w0 Q hY Fd FS hQ hN=>?_
 try dsimp only
 refine WS fun _ Fn=>wM U U fun b2=>RK Fn<|WS fun _ GE=>rP 2 [0,1] (mr 10 U (mr 11 U mn)) ?_
 refine cX (vU gw b) (aL) U fun y4 LT=>?_
 obtain ⟨Di,Dj⟩:=y4
 try dsimp only
 refine RK GE<|aH<|jl 4 U (by exact fun _ h=>h)<|jl 6 U (by exact fun _ h=>h)<|jl 8 U (by exact fun _ h=>h)<|jl 14 U (by exact fun _ h=>h) ?_
 refine ub (L0:=[(0,(Value.func (.yield l) #[] #[])),(1,(vP g1)),(2,(vP g2)),(3,(vP b2))]) (F:=[(rd e_A e.length 1 (e.map iC)).ro,(rd t_A tms.length 1 (List.zipWith gF tms tb)).ro,(dE (bg pS tms tb)).ro,(cz gw 276 (cd.cells (cd.mk ln ri (bE.mk e_A e.length e_C) (bE.mk t_A tms.length t_C) (bE.mk f_A fs.length f_C) (bE.mk b_A bs.length b_C)))).ro,(cz Di 228 [(vP gw)]),(cz Dj 3 [(vI (b:Int))])]) (fun k (y:(List (Int×ai))×aA)=>(l4 (cZ ln ri e tms) b mf mb k y.1)∧(J y.1 y.2)∧(Fo A0 w0 y.2)) (fun k y=>[(cz b2 278 [(Value.func (.yield l) #[] #[])]),y.2,(rd e_A e.length 1 (e.map iC)).ro,(rd t_A tms.length 1 (List.zipWith gF tms tb)).ro,(dE (bg pS tms tb)).ro,(rd f_A fs.length 1 (List.zipWith gF fs fb)).ro,(dE (bg m_ fs fb)).ro,(rd b_A bs.length 1 (List.zipWith gF bs bb)).ro,(dE (bg m_ bs bb)).ro,(cz gw 276 (cd.cells (cd.mk ln ri (bE.mk e_A e.length e_C) (bE.mk t_A tms.length t_C) (bE.mk f_A fs.length f_C) (bE.mk b_A bs.length b_C)))).ro,(cz g1 228 [(vP gw)]).ro,(cz g2 3 [(vI (b:Int))]).ro]) (fun c (z:aA)=>(c= .ret∧(Z z)∧(Fo A0 w0 z))) (fun _ z=>[(cz b2 278 [(Value.func (.yield l) #[] #[])]),z,(rd e_A e.length 1 (e.map iC)).ro,(rd t_A tms.length 1 (List.zipWith gF tms tb)).ro,(dE (bg pS tms tb)).ro,(rd f_A fs.length 1 (List.zipWith gF fs fb)).ro,(dE (bg m_ fs fb)).ro,(rd b_A bs.length 1 (List.zipWith gF bs bb)).ro,(dE (bg m_ bs bb)).ro,(cz gw 276 (cd.cells (cd.mk ln ri (bE.mk e_A e.length e_C) (bE.mk t_A tms.length t_C) (bE.mk f_A fs.length f_C) (bE.mk b_A bs.length b_C)))).ro,(cz g1 228 [(vP gw)]).ro,(cz g2 3 [(vI (b:Int))]).ro]) [6,7,8,9,10,11,12,13,14,15,16,17] [3,2,1,0,4,5] (([]:List (Int×ai)),A0) rfl rfl (tI ln ri e tms e_A e_C tb t_A t_C f_A fs.length f_C b_A bs.length b_C gw b Di Dj I I) rfl rfl rfl (by exact ⟨l4.nil,Fd,FS⟩) (by simp only [List.forall_mem_cons,List.not_mem_nil,false_imp_iff,implies_true,and_true]; exact ⟨⟨_,aM (i:=0) rfl,(dI (cb _))⟩,⟨_,aM (i:=1) rfl,(dI (cb _))⟩,⟨_,aM (i:=2) rfl,(dI (cb _))⟩,⟨_,aM (i:=3) rfl,(dI (cb _))⟩,⟨_,aM (i:=4) rfl,(cb _)⟩,⟨_,aM (i:=5) rfl,(cb _)⟩⟩) (by rintro k x k2 ⟨o,_,rfl,_⟩; rfl) rfl (bD rfl) ?_ ?_ ?_ ?_
 rotate_left 1
 ·rintro Li k ⟨ys,A⟩ Cx AO
  obtain ⟨X,Y,a⟩:=AO
  try dsimp only at X Y a
  try dsimp only
  refine aP ?_
  refine hN _ _ _ (rj 0 U U<|j0 (vs:=[]) trivial fun w hs=>PG 8 U (by exact l4.fin X Cx) Y a hs)
 ·rintro Lk id A C2
  simp at C2
 ·rintro L2 A C3
  obtain ⟨hc,IO,IR⟩:=C3
  try dsimp only
  refine hQ _ _ _ (rj 0 U U<|j0 (vs:=[]) trivial fun w hs=>F0 8 U IO IR hs)
 rintro k x k2 ⟨ys,A⟩ lr ra rb S w1 K8 Qr9 Id hx AK GT Ci J4 Do
 obtain ⟨o,ho,rfl,rfl⟩:=hx
 obtain ⟨X,Y,a⟩:=AK
 try dsimp only at X Y a
 try dsimp only
 refine WS fun _ A5=>rP 1 [] mn ?_
 refine RK A5<|aw<|AL U dU fun J5=>eN U cT U<|aK<|jB (fun _ _ h=>h) (aR [1,0,2,3,4,5,6,7,8,9,10,11,12,13])<|bu (GT _ _ ?_)
 refine aH<|aq fun _ A6=>cW cg 7 kr<|kv 1 [] (mr 12 U mn) U<|dS (SX (cw U U) U U)<|dP 3 [0,1] (mr 11 U (mr 13 U mn)) ?_
 obtain ⟨ga,s⟩:=aC fb b I
 have C0:(List.zipWith gF fs fb)[b]? =some (gF mf ga):=cv hm1 s
 refine dS (IA b U (ay 7 U) oL dc I I)<|dS (gD b 0 (Value.map (some ga)) U bU (ay 7 U) C0 U dc U)<|cx<|qa (kV:=eH) (m:=cU iV mf) 8 U U pK U ⟨⟨(ku eH ga (cU iV mf)),(a_ hm1 s (by simp [m_])),U⟩,fun h=>h⟩ (show fY _ (ku eH ga (cU iV mf)).holds from bX 8 U (a_ hm1 s (by simp [m_]))) U fun I0=>?_
 try dsimp only
 refine RK A6<|aH ?_
 have C:(∀ p∈mf,p∈mf)∧(nW (cZ ln ri e tms) b mf mb o mf ys)∧(l4 (cZ ln ri e tms) b mf mb k ys)∧(J ys A)∧(Fo A0 w0 A):=by exact ⟨fun p hp=>hp,nW.start,X,Y,a⟩
 refine bS (ι:={z:FM×(List (Int×ai))×aA // (∀ p∈z.1,p∈mf)∧(nW (cZ ln ri e tms) b mf mb o z.1 z.2.1)∧(l4 (cZ ln ri e tms) b mf mb k z.2.1)∧(J z.2.1 z.2.2)∧(Fo A0 w0 z.2.2)}) [0,1,2,3,4,5,23] [1,2,3,5,6,7,8,9,10,11,12,13,14] U U (fun z=>[]) (fun z=>[(Dh eH I0 ga (cU iV mf) (cU iV z.1.1) none),z.1.2.2]) (fun _=>rfl) (fun _=>rfl) (fun z=>z.1.1.length) ⟨(mf,ys,A),C⟩ (dp.nil _) (aR [1,2,3,5,6,7,8,9,10,11,12,13,14,0,4]) ?_
 clear C
 rintro ⟨⟨left,ys,A⟩,⟨K,M,N,O,P⟩⟩ J15 A4
 try dsimp only at K M N O P
 try dsimp only
 refine WS fun _ j=>oR ph.inj (f:=iV) 13 U U U U (fun Eq=>?_) (fun t v hm hn=>?_)
 ·refine rP 1 [] mn ?_
  refine RK j<|aq fun _ J2=>cq U<|bQ<|ag<|ag<|aI<|aP ?_
  exact Ci (ys,A) _ _ (by exact ⟨l4.next N M Eq,O,P⟩) (aR [0,2,14,3,4,5,6,7,8,9,10,11,12])
 try dsimp only
 refine bI 1 U<|RK j<|aq fun _ A7=>aN U<|WK A7<|aH<|WS fun _ A8=>rS (SX (oE 13 U U U) U U)<|bI 2 U<|AL U uI fun J6=>eN U sZ U<|bI 1 U<|RK A8<|aq fun _ A9=>cW cg 8 kr<|kv 1 [] (mr 12 U mn) U<|dS (SX (cw U U) U U)<|dP 4 [0,1] (mr 11 U (mr 13 U mn)) ?_
 obtain ⟨gb,AC⟩:=aC bb (b+1) I
 have C1:(List.zipWith gF bs bb)[(b+1)]? =some (gF mb gb):=cv hm2 AC
 refine dS (IA (b+1) U (ay 9 U) oL dc I I)<|dS (gD (b+1) 0 (Value.map (some gb)) U bU (ay 9 U) C1 U dc U)<|cx<|qa (kV:=eH) (m:=cU iV mb) 10 U U pK U ⟨⟨(ku eH gb (cU iV mb)),(a_ hm2 AC (by simp [m_])),U⟩,fun h=>h⟩ (show fY _ (ku eH gb (cU iV mb)).holds from bX 10 U (a_ hm2 AC (by simp [m_]))) U fun Je=>?_
 try dsimp only
 refine RK A9<|aH ?_
 have C:(∀ p∈mb,p∈mb)∧(nX (cZ ln ri e tms) b mb o (t,v) mb ys)∧(nW (cZ ln ri e tms) b mf mb o left ys)∧(l4 (cZ ln ri e tms) b mf mb k ys)∧(J ys A)∧(Fo A0 w0 A):=by exact ⟨fun p hp=>hp,nX.start,M,N,O,P⟩
 refine bS (ι:={z:FM×(List (Int×ai))×aA // (∀ p∈z.1,p∈mb)∧(nX (cZ ln ri e tms) b mb o (t,v) z.1 z.2.1)∧(nW (cZ ln ri e tms) b mf mb o left z.2.1)∧(l4 (cZ ln ri e tms) b mf mb k z.2.1)∧(J z.2.1 z.2.2)∧(Fo A0 w0 z.2.2)}) [0,1,2,3,4,5,6,7,23,37] [1,2,3,4,5,6,7,8,9,10,11,12,13,14,15] U U (fun z=>[]) (fun z=>[(Dh eH Je gb (cU iV mb) (cU iV z.1.1) none),z.1.2.2]) (fun _=>rfl) (fun _=>rfl) (fun z=>z.1.1.length) ⟨(mb,ys,A),C⟩ (dp.nil _) (aR [1,2,3,4,5,6,7,8,9,10,11,12,13,14,15,0,16]) ?_
 clear C
 rintro ⟨⟨l2,T,A2⟩,⟨B,D,E,G,H,AB⟩⟩ J23 V
 try dsimp only at B D E G H AB
 try dsimp only
 refine WS fun _ r=>oR ph.inj (f:=iV) 15 U U U U (fun FQ=>?_) (fun u z L A1=>?_)
 ·refine rP 1 [] mn ?_
  refine RK r<|aq fun _ J3=>cq U<|bQ<|ag<|ag<|aI<|aP<|re 14 U o6 U ?_
  refine bu (A4 ⟨((fz left t),T,A2),⟨mW K,nW.next hn hm E D FQ,G,H,AB⟩⟩ _ _ _ U (mY hm) (bD U) (aR [1,2,3,4,5,6,7,8,9,10,11,12,13,14,16]))
 try dsimp only
 refine bI 1 U<|RK r<|aq fun _ B3=>aN U<|WK B3<|aH<|WS fun _ B9=>rS (SX (oE 15 U U U) U U)<|bI 2 U<|AL U uI fun J7=>eN U sZ U<|rP 1 [] mn ?_
 refine RK B9<|aq fun _ CC=>dH cg [17,18] [] [] [0,1,2,3,4,5,6,7,8,9,10,11,12,13,14,15,16,17] [] U U U U U<|eS U (MV U)<|eS U (VK 13 U bU U)<|eS U (SX (cw U U) U U)<|eS U (FA 10 U eU U)<|eS U (IE (vS e_A e.length e_C) 12 U bU U U)<|eS U (VK 14 U bU U) ?_
 obtain ⟨y,hy⟩:=aC e b I
 have If:=bO iC hy
 refine eS U (IA b U (ay 5 U) dy dc I I)<|eS U (gD b 0 (vI y) U bU (ay 5 U) If U dc U) ?_
 have Kw:=hw.least y (aM hy)
 have H1:=KQ hw _ _ (hfw.mem hm1 (K _ hm))
 have Go:=Kd hw (hbw.mem hm2 (B _ L))
 have K0:=vG o.1
 have K4:=hw.opt ho
 dsimp only at H1 Go
 refine eS U (BI U (oP ⟨I,I⟩))<|eS U (FA 0 U eU U)<|eS U (L1 (vI o.2.Lo) 3 U bU U U)<|eS U (MX U)<|eS U (MV U)<|eS U (FA 1 U eU U)<|eS U (L1 (vI o.2.Hi) 3 U bU U U)<|eS U (MN U)<|eS U (SX (bp (xs:=[(0,.tmp 54),(1,.tmp 58)]) (cs:=(ai.cells (ai.mk (max (v+y) o.2.Lo) (min z o.2.Hi)))) U U (bq gM U)) U U)<|eo U<|cp U fun T30 Ck=>AL U dU fun J8=>aK (Ck _ _ (aR [1,2,3,4,5,6,7,8,9,10,11,12,13,14,15,16,17,18]) ?_)
 refine cp U fun T32 Cp=>eN U cT U<|aK (Cp _ _ (aR [1,2,3,4,5,6,7,8,9,10,11,12,13,14,15,16,17,18]) ?_)
 refine fK U<|KK CC<|aq fun _ R=>cW cg 19 kr<|dP 6 [] (mc 0 U mn) ?_
 refine hP (t:=65) U (aU fun d=>?_) (aT fun d=>?_)
 ·refine kR 3 U<|kR 10 U<|cx<|rP 3 [] mn ?_
  refine RK R<|cq U<|cj<|aP<|re 17 U o6 U ?_
  refine bu (V ⟨((fz l2 u),T,A2),⟨mW B,nX.skip A1 L D (by exact GQ hy d),E,G,H,AB⟩⟩ _ _ _ U (mY L) (bD U) (aR [2,3,4,5,6,7,8,9,10,11,12,13,14,15,16,17,18]))
 refine dP 3 [0,1,2] (mr 14 U (mc 2 U (mc 1 U mn))) ?_
 have LA:(0≤(dL t u).right∧(dL t u).right≤1000)∧0≤(dL t u).fB∧(dL t u).fB≤1000:=by simp only [dL]; omega
 have K5:(0≤(dL (dL t u) (gl o.1)).right∧(dL (dL t u) (gl o.1)).right≤1000)∧0≤(dL (dL t u) (gl o.1)).fB∧(dL (dL t u) (gl o.1)).fB≤1000:=by simp only [dL]; omega
 refine dS (CL (wK t u I I) (aL) U)<|kR 1 U<|dS (CL (KM o.1) (aL) U)<|dS (CL (wK (dL t u) (gl o.1) asm I) (aL) U)<|dS (CL (Ox ln ri e tms e_A e_C tb t_A t_C fs bs fb f_A f_C bb b_A b_C gw (dL (dL t u) (gl o.1)) asm hsg) (bo [6,7,8,9,10,11,12,13]) U)<|dP 2 [] mn ?_
 refine hP (t:=75) U (fun g=>?_) (fun g=>?_)
 ·refine kR 3 U<|cx<|rP 3 [] mn ?_
  refine RK R<|cq U<|cj<|aP<|re 17 U o6 U ?_
  refine bu (V ⟨((fz l2 u),T,A2),⟨mW B,nX.skip A1 L D (by exact Hh g),E,G,H,AB⟩⟩ _ _ _ U (mY L) (bD U) (aR [2,3,4,5,6,7,8,9,10,11,12,13,14,15,16,17,18]))
 refine dP 3 [0,1] (mc 5 U (mc 0 U mn)) ?_
 refine cx<|yj (k:=T) (k':=(T++[(o.1,(ai.mk (max (v+y) o.2.Lo) (min z o.2.Hi)))])) 18 (by first|exact Id|exact Nat.le_refl _) hY H AB U U U (by exact ⟨(o.1,_),ju.2 ⟨o,ho,(t,v),K _ hm,(u,z),B _ L,(BW hy d g)⟩,U,U⟩) U U (fun B34 W AA=>?_) (fun B34 W AA=>?_)
 rotate_left 1
 ·refine rP 2 [] mn ?_
  refine RK R<|aN U<|ar ?_
  exact Do B34 _ _ (by exact ⟨U,W,AA⟩) (aR [3,5,18,6,7,8,9,10,11,12,13,14,15])
 refine rP 2 [] mn ?_
 refine RK R<|cq U<|cj<|aP<|re 17 U o6 U ?_
 refine bu (V ⟨((fz l2 u),(T++[(o.1,(ai.mk (max (v+y) o.2.Lo) (min z o.2.Hi)))]),B34),⟨mW B,nX.U1 A1 L D (BW hy d g),E.app,G.app,W,AA⟩⟩ _ _ _ U (mY L) (bD U) (aR [2,3,4,5,6,7,8,9,10,11,12,13,14,15,16,17,18]))
end
section
open Go.RowKit
theorem vt (ln:cm) (ri:cL) (e:List Int) (tms:List TM) (e_A:OA) (e_C:Nat) (tb:List Nat) (t_A:OA) (t_C:Nat) (fs:List FM) (bs:List FM) (fb:List Nat) (f_A:OA) (f_C:Nat) (bb:List Nat) (b_A:OA) (b_C gw:Nat) (hw:GN (cZ ln ri e tms)) (hsg:ri.aa.n≤1000) (hn:ln.ab.n=e.length) (hfw:wg (cZ ln ri e tms) fs) (hfb:fb.length=fs.length):
 nG Tryz.prog 150 [(vP gw)] [(rd e_A e.length 1 (e.map iC)),(rd t_A tms.length 1 (List.zipWith gF tms tb)),(dE (bg pS tms tb)),(rd f_A fs.length 1 (List.zipWith gF fs fb)),(dE (bg m_ fs fb)),(rd b_A bs.length 1 (List.zipWith gF bs bb)),(dE (bg m_ bs bb)),(cz gw 276 (cd.cells (cd.mk ln ri (bE.mk e_A e.length e_C) (bE.mk t_A tms.length t_C) (bE.mk f_A fs.length f_C) (bE.mk b_A bs.length b_C))))] (fun (x:(OA)×Nat)=>(vS x.1 ((l3 (cZ ln ri e tms)).length) x.2)) (fun (x:(OA)×Nat)=>True) (fun (x:(OA)×Nat)=>[(own x.1 x.2 3 1 ((l3 (cZ ln ri e tms)).map iC))]):=by
 have y:e.length≤6:=hw.n
 have u:fs.length=e.length+1:=hfw.len
 refine eO kr Tryz.func150 U U fun w0 Q hQ hN=>?_
 try dsimp only
 refine WS fun _ X=>bI 1 U<|RK X<|WS fun _ Y=>bI 1 U<|RK Y<|aq fun _ Z=>WS fun _ b=>bI 1 U<|rS (SX (cw U U) U U)<|rP 6 [] (mr 7 U mn) ?_
 refine RK b<|aH<|eX 3 1 ?_
 have A:(0≤e.length+1):=by exact Nat.zero_le _
 refine bS (ι:={z:Nat×(OA)×Nat // (z.1≤e.length+1)}) [0,12] [1,2,3,4,5,6,7,8] U U (fun z=>[(3,(vS z.1.2.1 ((k9 (cZ ln ri e tms) z.1.1).length) z.1.2.2)),(13,(vI (z.1.1:Int)))]) (fun z=>[(own z.1.2.1 z.1.2.2 3 1 ((k9 (cZ ln ri e tms) z.1.1).map iC))]) (fun _=>rfl) (fun _=>rfl) (fun z=>e.length+1-z.1.1) ⟨(0,none,0),A⟩ (bD U) (aR [1,2,3,4,5,6,7,8,0]) ?_
 clear A
 rintro ⟨⟨n,a,c⟩,G⟩ J5 AB
 try dsimp only at G
 try dsimp only
 refine WS fun _ d=>rP 1 [] mn ?_
 refine RK d<|aq fun _ g=>bR U (aU fun s=>?_) (aT fun s=>?_)
 ·refine bQ<|ag<|ag<|aI<|KK Z<|WS fun _ P=>?_
  rw [show k9 (cZ ln ri e tms) n=l3 (cZ ln ri e tms) by (obtain rfl:n=e.length+1:=by omega); rfl]
  refine rP 2 [] mn ?_
  refine RK P<|ar<|LX hQ (a,c) [8] [] mn U U U U ?_
  trivial
 refine WK g<|aq fun _ R=>aH<|WS fun _ J=>bI 2 U<|RK J<|WS fun _ K=>bI 1 U<|rS (SX (cw U U) U U)<|rP 3 [] (mr 7 U mn) ?_
 obtain ⟨m,B⟩:=aC fs n I
 obtain ⟨ma,hm0a⟩:=aC fb n I
 have hm0m:(List.zipWith gF fs fb)[n]? =some (gF m ma):=cv B hm0a
 refine rS (IA n U (ay 3 U) oL dc I I)<|rS (gD n 0 (Value.map (some ma)) U bU (ay 3 U) hm0m U dc U)<|qa (kV:=eH) (m:=cU iV m) 4 U U pK U ⟨⟨(ku eH ma (cU iV m)),(a_ B hm0a (by simp [m_])),U⟩,fun h=>h⟩ (show fY _ (ku eH ma (cU iV m)).holds from bX 4 U (a_ B hm0a (by simp [m_]))) U fun l=>?_
 try dsimp only
 refine RK K<|aH ?_
 have A:(∀ p∈m,p∈m)∧(∀ p∈m,p∈m∨m0 (cZ ln ri e tms) p.1=false):=by exact ⟨fun p hp=>hp,fun p hp=> .inl hp⟩
 refine bS (ι:={z:FM // (∀ p∈z,p∈m)∧(∀ p∈m,p∈z∨m0 (cZ ln ri e tms) p.1=false)}) [0,3,4,12,13,23] [1,2,3,4,5,6,7,8,9] U U (fun z=>[]) (fun z=>[(Dh eH l ma (cU iV m) (cU iV z.1) none)]) (fun _=>rfl) (fun _=>rfl) (fun z=>z.1.length) ⟨m,A⟩ (dp.nil _) (aR [1,2,3,4,5,6,7,8,9,0]) ?_
 clear A
 rintro ⟨left,⟨C,D⟩⟩ J13 H
 try dsimp only
 refine WS fun _ F=>oR ph.inj (f:=iV) 9 U U U U (fun W=>?_) (fun t v hm i=>?_)
 ·refine bI 1 U<|RK F<|aq fun _ o=>cq U<|bQ<|ag<|ag<|aI<|aP<|KK R<|aw<|rP 2 [] mn ?_
  refine aK ?_
  rw [← GA (w:=(cZ ln ri e tms)) (k:=n) ((Bl (hfw.min _ _ B) (hfw.keys _ _ B)).symm.trans (Ip D W))]
  have S:(vI (((n+1):Nat):Int))=(vI ((n:Int)+1)):=by exact cI I
  refine bu (AB ⟨((n+1),a,c),(by first|omega|(simp only []; omega))⟩ _ _ _ U os (cP 3<|bw U S<|dp.nil _) (aR [0,1,2,3,4,5,6,7,8]))
 try dsimp only
 refine bI 1 U<|RK F<|aq fun _ L=>aN U<|WK L<|aH<|WS fun _ M=>rS (SX (oE 9 U U U) U U)<|bI 1 U<|AL U uI fun q=>eN U sZ U<|RK M<|WS fun _ N=>rP 2 [] (mc 0 U mn) ?_
 have j:=KQ hw _ _ (hfw.mem B (C _ hm))
 dsimp only at j
 refine rS (CL (Ox ln ri e tms e_A e_C tb t_A t_C fs bs fb f_A f_C bb b_A b_C gw t I hsg) (bo [1,2,3,4,5,6,7,8]) U)<|RK N<|bR U (fun E=>?_) (fun E=>?_)
 ·refine cj<|aP<|re 10 U o6 U ?_
  refine bu (H ⟨(fz left t),⟨mW C,Ke i hm D (by first|exact E|simpa using E)⟩⟩ _ _ _ U (mY hm) (bD U) (aR [1,2,3,4,5,6,7,8,9,10]))
 refine WS fun _ O=>rP 2 [] mn ?_
 refine ew (xs:=[.tmp 32]) (cs:=[(vI (n:Int))]) U dy j7 U U U U (by simp [Value.cells]) U U fun r=>?_
 have hy:lM (cZ ln ri e tms) (qx (cZ ln ri e tms) n)=true:=(Bl (hfw.min _ _ B) (hfw.keys _ _ B)).symm.trans (M6 (C _ hm) E)
 refine ed (es2:=(List.map iC (k9 (cZ ln ri e tms) (n+1)))) (m':=(k9 (cZ ln ri e tms) (n+1)).length) 10 U U U te U U sm (bx (es:=List.map iC [(n:Int)]) 0 U U (by simp [bP]) U) (lU _) (by have:=tN (w:=(cZ ln ri e tms)) (k:=n); first|omega|(simp; omega)) (by have:=tN (w:=(cZ ln ri e tms)) (k:=n); simp only [maxLen]; omega) (by rw [Eb hy]; simp) sm U fun AA V=>?_
 try dsimp only
 refine bI 1 U<|RK O<|bQ<|fG U<|ag<|aI<|aP<|KK R<|aw<|rP 2 [] mn ?_
 refine aK ?_
 have T:(vI (((n+1):Nat):Int))=(vI ((n:Int)+1)):=by exact cI I
 refine bu (AB ⟨((n+1),AA,V),(by first|omega|(simp only []; omega))⟩ _ _ _ U os (cP 3<|bw U T<|dp.nil _) (aR [2,3,4,5,6,7,8,9,10]))
end
section
open Go.RowKit
theorem B6 (ln:cm) (ri:cL) (e:List Int) (tms:List TM) (e_A:OA) (e_C:Nat) (tb:List Nat) (t_A:OA) (t_C gw:Nat) (hw:GN (cZ ln ri e tms)) (hn:ln.ab.n=e.length) (htb:tb.length=tms.length):
 LU Tryz.prog 185 [(vP gw)] [(rd e_A e.length 1 (e.map iC)),(rd t_A tms.length 1 (List.zipWith gF tms tb)),(dE (bg pS tms tb))] (cz gw 276 (cd.cells (cd.mk ln ri (bE.mk e_A e.length e_C) (bE.mk t_A tms.length t_C) (bE.mk none 0 0) (bE.mk none 0 0)))) (fun (x:(List FM)×(List Nat)×(OA)×Nat×(List FM)×(List Nat)×(OA)×Nat)=>(vT [])) (fun (x:(List FM)×(List Nat)×(OA)×Nat×(List FM)×(List Nat)×(OA)×Nat)=>wg (cZ ln ri e tms) x.1∧tO (cZ ln ri e tms) x.2.2.2.2.1∧x.2.1.length=x.1.length∧x.2.2.2.2.2.1.length=x.2.2.2.2.1.length) (fun (x:(List FM)×(List Nat)×(OA)×Nat×(List FM)×(List Nat)×(OA)×Nat)=>(bM [(cz gw 276 (cd.cells (cd.mk ln ri (bE.mk e_A e.length e_C) (bE.mk t_A tms.length t_C) (bE.mk x.2.2.1 x.1.length x.2.2.2.1) (bE.mk x.2.2.2.2.2.2.1 x.2.2.2.2.1.length x.2.2.2.2.2.2.2)))),(own x.2.2.1 x.2.2.2.1 279 1 (List.zipWith gF x.1 x.2.1)),(bM (bg m_ x.1 x.2.1)),(own x.2.2.2.2.2.2.1 x.2.2.2.2.2.2.2 279 1 (List.zipWith gF x.2.2.2.2.1 x.2.2.2.2.2.1)),(bM (bg m_ x.2.2.2.2.1 x.2.2.2.2.2.1))])):=by
 have Wj:e.length≤6:=hw.n
 have Wk:tms.length=e.length:=hw.times
 refine vv kr Tryz.func185 U U fun w0 Q hQ hN=>?_
 try dsimp only
 refine WS fun _ Do=>wM U U fun W=>RK Do<|WS fun _ FQ=>eV 1 [] (mc 0 U mn) U<|rS (SX (cw U U) U U)<|rP 5 [] (mc 1 U mn) ?_
 refine RK FQ ?_
 refine nq (ι:={z:(OA)×(OA) // True}) [0,1,2] [0,2,3,4] U U (fun z=>[]) (fun z=>[(own z.1.1 (ln.ab.n+1) 279 1 (List.map oC (List.replicate (ln.ab.n+1) (none:Option Nat)))),(own z.1.2 (ln.ab.n+1) 279 1 (List.map oC (List.replicate (ln.ab.n+1) (none:Option Nat)))),(cz gw 276 (cd.cells (cd.mk ln ri (bE.mk e_A e.length e_C) (bE.mk t_A tms.length t_C) (bE.mk z.1.1 (ln.ab.n+1) (ln.ab.n+1)) (bE.mk z.1.2 (ln.ab.n+1) (ln.ab.n+1)))))]) (fun _=>rfl) (fun _=>rfl) ?_ fun K4 FS=>?_
 ·rintro ⟨⟨fA,bA⟩,_⟩
  try dsimp only
  refine BF 6 U U fun wz Sz hz=>?_
  have Wg:(List.replicate (ln.ab.n+1) (none:Option Nat)).length=(ln.ab.n+1):=List.length_replicate
  try dsimp only
  refine nq (ι:={z:Nat // True}) [0,1,2] [0,1,2,3,4,6] U U (fun z=>[]) (fun z=>[(bM (bg m_ [[((aQ.mk 0 0),ri.Start)]] [z.1])),(own fA (ln.ab.n+1) 279 1 (List.map oC (dF [z.1] (ln.ab.n+1))))]) (fun _=>rfl) (fun _=>rfl) ?_ fun K5 V_=>?_
  ·rintro ⟨ga,_⟩
   try dsimp only
   refine aq fun _ Fd=>WS fun _ Fn=>rP 2 [] mn ?_
   refine RK Fn<|aH<|nN ?_
   have C:(0≤ln.ab.n)∧(([[((aQ.mk 0 0),ri.Start)]]).length=0+1)∧(([ga]).length=0+1)∧(qz (cZ ln ri e tms) ([[((aQ.mk 0 0),ri.Start)]])):=by exact ⟨Nat.zero_le _,rfl,rfl,qz.first⟩
   refine wR (ι:={z:Nat×(List FM)×(List Nat)×(List Nat) // (z.1≤ln.ab.n)∧(z.2.1.length=z.1+1)∧(z.2.2.1.length=z.1+1)∧(qz (cZ ln ri e tms) z.2.1)}) (fun z=>z.1.2.2.2.map jU) (fun z=>[(0,(vP gw)),(1,(vP W)),(2,(vI (ln.ab.n:Int))),(52,(vI (ln.ab.n:Int))),(53,(vI (z.1.1:Int)))]) (fun z=>[(bM (z.1.2.2.2.map mq)),(cz gw 276 (cd.cells (cd.mk ln ri (bE.mk e_A e.length e_C) (bE.mk t_A tms.length t_C) (bE.mk fA (ln.ab.n+1) (ln.ab.n+1)) (bE.mk bA (ln.ab.n+1) (ln.ab.n+1))))).ro,(cz W 228 [(vP gw)]),(rd e_A e.length 1 (e.map iC)).ro,(rd t_A tms.length 1 (List.zipWith gF tms tb)).ro,(dE (bg pS tms tb)).ro,(own bA (ln.ab.n+1) 279 1 (List.map oC (List.replicate (ln.ab.n+1) (none:Option Nat)))),(bM (bg m_ z.1.2.1 z.1.2.2.1)),(own fA (ln.ab.n+1) 279 1 (List.map oC (dF z.1.2.2.1 (ln.ab.n+1))))]) (fun z=>ln.ab.n-z.1.1) ⟨(0,[[((aQ.mk 0 0),ri.Start)]],[ga],([]:List Nat)),C⟩ U (bD U) (aR [0,1,2,3,4,5,6,7,8]) ?_
   clear C
   rintro ⟨⟨b,fs,fb,V3⟩,⟨J3,A5,J4,M⟩⟩ J8 V9
   try dsimp only at J3 A5 J4 M
   try dsimp only
   have Wh:(dF fb (ln.ab.n+1)).length=(ln.ab.n+1):=nE I
   refine WS fun _ GE=>rP 1 [] mn ?_
   refine RK GE<|aq fun _ AK=>ck U (aT fun V6=>?_) (aU fun V6=>?_)
   ·refine WK AK<|aq fun _ Li=>aH<|WS fun _ Lk=>rP 1 [] mn ?_
    refine AL U j7 fun s=>L8 U FT U U<|RK Lk<|aq fun _ L2=>dH cg [6,8] [6] [0] [0,1,2,3,4,5,6,7,8] [0,1,2,3,4,5,6,7,8,9] U U U U U<|eS U (DA 3 U bU U)<|eS U (SX (cw U U) U U)<|eS U (FA 12 U eU U)<|eS U (IE (vS fA (ln.ab.n+1) (ln.ab.n+1)) 2 U bU U U)<|eS U (DA 0 U bU U)<|eS U (BI U (oP ⟨I,I⟩)) ?_
    obtain ⟨WN,Vi⟩:=aC (dF fb (ln.ab.n+1)) (b+1) I
    have hx17m:(List.map oC (dF fb (ln.ab.n+1)))[(b+1)]? =some (oC WN):=by rw [gn,Vi]; rfl
    refine fS U (IA (b+1) U (aB (n:=(ln.ab.n+1)) 9 U sq) oL dc I I) ?_
    refine eo U<|iP U fun T18 R3=>mJ (kV:=eH) U U fun B=>?_
    try dsimp only
    refine aK (R3 _ _ (aR [1,2,3,4,5,6,7,8,9]) (aR [1,2,3,4,5,6,7,8,9,10]) ?_)
    refine cp U fun T20 R4=>?_
    have To:((dF fb (ln.ab.n+1)).set (b+1) (some B))=(dF (fb++[B]) (ln.ab.n+1)):=by exact r_ I I
    refine gu (k:=(b+1)) (o:=0) (vs:=[(Value.map (some B))]) (es':=(List.map oC (dF (fb++[B]) (ln.ab.n+1)))) (C':=[_,_,_,_,_,_,_,_,_,_,(own fA (ln.ab.n+1) 279 1 (List.map oC (dF (fb++[B]) (ln.ab.n+1))))]) 10 U U U JG U U U U hx17m U dc (by exact (List.map_set (f:=oC) (l:=(dF fb (ln.ab.n+1))) (i:=(b+1)) (a:=(some B))).symm.trans (congrArg _ To)) U<|aK (R4 _ _ (aR [1,2,3,4,5,6,7,8,9]) ?_)
    refine fK U<|KK L2<|aq fun _ L3=>?_
    have WD:(dF (fb++[B]) (ln.ab.n+1)).length=(ln.ab.n+1):=nE (by simp; omega)
    obtain ⟨mb,N⟩:=aC fs b I
    obtain ⟨ga,Z⟩:=aC fb b I
    refine zI 9 N Z U U U ?_
    try dsimp only
    refine cW cg 7 kr<|kv 1 [] (mc 6 U mn) U<|dS (SX (cw U U) U U)<|dP 3 [0,1] (mr 5 U (mc 3 U mn)) ?_
    have UV:(List.map oC (dF (fb++[B]) (ln.ab.n+1)))[b]? =some (oC (some ga)):=qD (mQ (Lx Z))
    refine dS (IA b U (aB (n:=(ln.ab.n+1)) 11 U sq) oL dc I I) ?_
    refine dS (gD b 0 (Value.map (some ga)) U bU (aB (n:=(dF (fb++[B]) (ln.ab.n+1)).length) 11 U sm) UV U dc U)<|cx<|zD 0 U U pK U U fun CC=>?_
    try dsimp only
    refine RK L3<|aH ?_
    have C:(∀ p∈mb,p∈mb)∧(yD (cZ ln ri e tms) b ([]:FM))∧(km (cZ ln ri e tms) b mb ([]:FM) mb):=by exact ⟨fun p hp=>hp,yD.start,km.start⟩
    refine wR (ι:={z:FM×FM×(List Nat) // (∀ p∈z.1,p∈mb)∧(yD (cZ ln ri e tms) b z.2.1)∧(km (cZ ln ri e tms) b mb z.2.1 z.1)}) (fun z=>z.1.2.2.map jU) (fun z=>[(0,(vP gw)),(1,(vP W)),(2,(vI (ln.ab.n:Int))),(3,(vP s)),(52,(vI (ln.ab.n:Int))),(53,(vI (b:Int))),(71,(vP CC))]) (fun z=>[(AJ eH CC ga (cU iV mb) (cU iV z.1.1) none),(bM (gN m_ fs fb b)),(ku eH B (cU iV z.1.2.1)),(cz s 3 [(vI (b:Int))]),(bM (z.1.2.2.map mq)),(cz gw 276 (cd.cells (cd.mk ln ri (bE.mk e_A e.length e_C) (bE.mk t_A tms.length t_C) (bE.mk fA (ln.ab.n+1) (ln.ab.n+1)) (bE.mk bA (ln.ab.n+1) (ln.ab.n+1))))).ro,(cz W 228 [(vP gw)]),(rd e_A e.length 1 (e.map iC)).ro,(rd t_A tms.length 1 (List.zipWith gF tms tb)).ro,(dE (bg pS tms tb)).ro,(own bA (ln.ab.n+1) 279 1 (List.map oC (List.replicate (ln.ab.n+1) (none:Option Nat)))),(own fA (ln.ab.n+1) 279 1 (List.map oC (dF (fb++[B]) (ln.ab.n+1))))]) (fun z=>z.1.1.length) ⟨(mb,([]:FM),V3),C⟩ U (bD U) (aR [0,1,2,3,4,5,6,7,8,9,10,11]) ?_
    clear C
    rintro ⟨⟨left,m,A6⟩,⟨c,d,g⟩⟩ J26 LT
    try dsimp only at c d g
    try dsimp only
    refine WS fun _ Cp=>xX ph.inj (f:=iV) 0 U U U U (fun V8=>?_) (fun t v hm J5=>?_)
    ·refine bI 1 U<|RK Cp<|aq fun _ WX=>cq U<|bQ<|ag<|ag<|aI<|aP<|KK Li<|aw<|rP 2 [] mn ?_
     refine aK<|Ik (C':=[(ku eH ga (cU iV mb)),(bM (gN m_ fs fb b)),(ku eH B (cU iV m)),(cz s 3 [(vI (b:Int))]),(bM (A6.map mq)),(cz gw 276 (cd.cells (cd.mk ln ri (bE.mk e_A e.length e_C) (bE.mk t_A tms.length t_C) (bE.mk fA (ln.ab.n+1) (ln.ab.n+1)) (bE.mk bA (ln.ab.n+1) (ln.ab.n+1))))).ro,(cz W 228 [(vP gw)]),(rd e_A e.length 1 (e.map iC)).ro,(rd t_A tms.length 1 (List.zipWith gF tms tb)).ro,(dE (bg pS tms tb)).ro,(own bA (ln.ab.n+1) 279 1 (List.map oC (List.replicate (ln.ab.n+1) (none:Option Nat)))),(own fA (ln.ab.n+1) 279 1 (List.map oC (dF (fb++[B]) (ln.ab.n+1))))]) 0 U H3 U<|LH 1 0 N Z U U U ?_
     try dsimp only
     refine zS (X':=bg m_ (fs++[m]) (fb++[B])) 0 1 U U (za I U) ?_
     try dsimp only
     have T0:(vI (((b+1):Nat):Int))=(vI ((b:Int)+1)):=by exact cI I
     refine bu (V9 ⟨((b+1),(fs++[m]),(fb++[B]),A6),⟨I,by simp; omega,by simp; omega,M.add A5 N d g V8⟩⟩ _ _ _ U os (cP 4<|bw U T0<|dp.nil _) (aR [2,3,4,5,6,7,8,0,9]))
    try dsimp only
    refine bI 1 U<|RK Cp<|aq fun _ MI=>aN U<|WK MI<|aH<|WS fun _ MQ=>rS (SX (yd 0 U U U) U U)<|bI 2 U<|AL U uI fun J9=>AL U j7 fun Kl=>qN U sZ U<|L8 U FT U U<|RK MQ<|WS fun _ M2=>rP 2 [0,1] (mc 8 U (mc 5 U mn)) ?_
    refine cX (vU gw b) (aL) U fun WR Wa=>?_
    obtain ⟨C2,Di⟩:=WR
    try dsimp only
    refine RK M2<|aH<|jl 11 U (by exact fun _ h=>h)<|jl 13 U (by exact fun _ h=>h)<|jl 15 U (by exact fun _ h=>h)<|jl 12 U (by exact fun _ h=>h) ?_
    refine ub (L0:=[(0,(vP gw)),(1,(vP W)),(2,(vI (ln.ab.n:Int))),(3,(vP s)),(4,(vP J9)),(5,(vP Kl)),(52,(vI (ln.ab.n:Int))),(53,(vI (b:Int))),(71,(vP CC))]) (F:=[(rd e_A e.length 1 (e.map iC)).ro,(rd t_A tms.length 1 (List.zipWith gF tms tb)).ro,(dE (bg pS tms tb)).ro,(cz gw 276 (cd.cells (cd.mk ln ri (bE.mk e_A e.length e_C) (bE.mk t_A tms.length t_C) (bE.mk fA (ln.ab.n+1) (ln.ab.n+1)) (bE.mk bA (ln.ab.n+1) (ln.ab.n+1))))).ro,(cz C2 228 [(vP gw)]),(cz Di 3 [(vI (b:Int))])]) (fun k (y:FM)=>(oe (cZ ln ri e tms) b mb left y (t,v) k)) (fun k y=>[(cz Kl 3 [(vI v)]),(cz J9 281 (aQ.cells t)),(AJ eH CC ga (cU iV mb) (cU iV (fz left t)) (some (t,(vI v)))),(bM (gN m_ fs fb b)),(ku eH B (cU iV y)),(cz s 3 [(vI (b:Int))]),(bM (A6.map mq)),(cz gw 276 (cd.cells (cd.mk ln ri (bE.mk e_A e.length e_C) (bE.mk t_A tms.length t_C) (bE.mk fA (ln.ab.n+1) (ln.ab.n+1)) (bE.mk bA (ln.ab.n+1) (ln.ab.n+1))))).ro,(cz W 228 [(vP gw)]),(rd e_A e.length 1 (e.map iC)).ro,(rd t_A tms.length 1 (List.zipWith gF tms tb)).ro,(dE (bg pS tms tb)).ro,(own bA (ln.ab.n+1) 279 1 (List.map oC (List.replicate (ln.ab.n+1) (none:Option Nat)))),(own fA (ln.ab.n+1) 279 1 (List.map oC (dF (fb++[B]) (ln.ab.n+1))))]) (fun _ (_:Unit)=>False) (fun _ _=>[]) [6,7,8,9,10,11,12,13,14,15,16,17,18,19] [3,2,1,0,4,5] m rfl rfl (tI ln ri e tms e_A e_C tb t_A t_C fA (ln.ab.n+1) (ln.ab.n+1) bA (ln.ab.n+1) (ln.ab.n+1) gw b C2 Di I I) rfl rfl rfl (by exact oe.start d g) (by simp only [List.forall_mem_cons,List.not_mem_nil,false_imp_iff,implies_true,and_true]; exact ⟨⟨_,aM (i:=0) rfl,(dI (cb _))⟩,⟨_,aM (i:=1) rfl,(dI (cb _))⟩,⟨_,aM (i:=2) rfl,(dI (cb _))⟩,⟨_,aM (i:=3) rfl,(dI (cb _))⟩,⟨_,aM (i:=4) rfl,(cb _)⟩,⟨_,aM (i:=5) rfl,(cb _)⟩⟩) (by rintro k x k2 ⟨o,_,rfl,_⟩; rfl) rfl (bD rfl) ?_ ?_ (fun _ _ _ h=>h.elim) (fun _ _ h=>h.elim)
    rotate_left 1
    ·rintro WM k O A4 If
     have D:=If
     try dsimp only
     refine aP<|aP<|Lj (X:=A6.map mq) 13 0 U U ?_
     try dsimp only
     refine re 9 U Bh U ?_
     refine bu (LT ⟨((fz left t),O,(WM::A6)),⟨mW c,D.on,D.next J5 hm A4⟩⟩ _ _ _ U (mY hm) (bD U) (aR [9,10,11,12,0,4,14,1,2,3,18,19]))
    rintro k x k2 O l ra rb S w1 K39 Qr40 WH hx Id NE H WP WU
    obtain ⟨o,ho,rfl,rfl⟩:=hx
    have D:=Id
    try dsimp only
    refine WS fun _ Ne=>rP 1 [] mn ?_
    refine RK Ne<|aw<|AL U dU fun Wc=>eN U cT U<|aK<|jB (fun _ _ h=>h) (aR [1,0,2,3,4,5,6,7,8,9,10,11,12,13,14,15])<|bu (NE _ _ ?_)
    refine aH<|aq fun _ Op=>dH cg [16,18] [] [] [0,1,2,3,4,5,6,7,8,9,10,11,12,13,14,15] [] U U U U U<|eS U (DA 2 U bU U)<|eS U (DA 10 U bU U)<|eS U (SX (cw U U) U U)<|eS U (FA 10 U eU U)<|eS U (IE (vS e_A e.length e_C) 9 U bU U U)<|eS U (DA 7 U bU U) ?_
    obtain ⟨y,hy⟩:=aC e b I
    have J6:=bO iC hy
    refine eS U (IA b U (ay 11 U) dy dc I I)<|eS U (gD b 0 (vI y) U bU (ay 11 U) J6 U dc U) ?_
    have WC:=hw.least y (aM hy)
    have hp:=M.mem N (c _ hm)
    have WB:=KQ hw _ _ hp
    have WF:=vG o.1
    have WG:=hw.opt ho
    have Wi:=hw.now
    dsimp only at WB
    refine eS U (BI U (oP ⟨I,I⟩))<|eS U (FA 0 U eU U)<|eS U (L1 (vI o.2.Lo) 1 U bU U U)<|eS U (MX U)<|eS U (LW 3 U bU U U)<|eS U (MV U)<|eS U (CL (KM o.1) (aL) U)<|eS U (CL (wK t (gl o.1) I I) (aL) U)<|eS U (AG U)<|eo U<|cp U fun T45 R5=>AL U uI fun Wd=>aK (R5 _ _ (aR [1,2,3,4,5,6,7,8,9,10,11,12,13,14,15,16]) ?_)
    refine cp U fun T47 R6=>eN U sZ U<|aK (R6 _ _ (aR [1,2,3,4,5,6,7,8,9,10,11,12,13,14,15,16]) ?_)
    refine fK U<|KK Op<|aq fun _ Or=>cW cg 15 kr<|kv 1 [] (mc 11 U mn) U<|dS (SX (cw U U) U U)<|dP 4 [0,1] (mr 10 U (mc 8 U mn)) ?_
    have U1:(List.map oC (dF (fb++[B]) (ln.ab.n+1)))[(b+1)]? =some (oC (some B)):=qD (mQ (AA I))
    refine dS (IA (b+1) U (aB (n:=(ln.ab.n+1)) 16 U sq) oL dc I I) ?_
    refine dS (gD (b+1) 0 (Value.map (some B)) U bU (aB (n:=(dF (fb++[B]) (ln.ab.n+1)).length) 16 U sm) U1 U dc U)<|kv 1 [] (mc 0 U mn) U<|dS (SX (tH (kV:=eH) (x:=(dL t (gl o.1))) (l:=O) (f:=iV) (z:=0) U U U pK ph VH (by exact ay 7 U)) U U)<|kR 5 U<|cx<|RK Or<|aq fun _ AO=>cW cg 19 kr<|kv 4 [0,1] (mc 2 U (mc 11 U mn)) U<|dS (SX (cw U U) U U)<|kv 3 [] (mr 10 U mn) U<|dS (MN U)<|dP 2 [] mn ?_
    refine hP (t:=121) U (aU fun P=>?_) (aT fun P=>?_)
    ·refine dP 8 [] mn ?_
     refine cx<|RK AO<|cq U<|cj<|aP ?_
     exact H O _ _ (by exact D.skip (Lv hy P)) (aR [1,3,4,5,6,7,8,9,10,11,12,13,14,15,16])
    refine dP 3 [] mn ?_
    refine gP (t:=124) U (fun R=>?_) (fun R=>?_)
    ·rw [Bool.not_eq_true'] at R
     refine kR 5 U<|cx<|RK AO<|aN U<|cW cg 10 kr<|kv 1 [] (mc 11 U mn) U<|dS (SX (cw U U) U U)<|dP 4 [0,1] (mr 10 U (mc 8 U mn)) ?_
     have VC:(List.map oC (dF (fb++[B]) (ln.ab.n+1)))[(b+1)]? =some (oC (some B)):=qD (mQ (AA I))
     refine dS (IA (b+1) U (aB (n:=(ln.ab.n+1)) 16 U sq) oL dc I I) ?_
     refine dS (gD (b+1) 0 (Value.map (some B)) U bU (aB (n:=(dF (fb++[B]) (ln.ab.n+1)).length) 16 U sm) VC U dc U)<|dP 2 [] (mc 0 U mn) ?_
     refine cx<|iY (kV:=eH) (x:=(dL t (gl o.1))) (C':=[_,_,_,_,_,_,_,(ku eH B (cU iV (eB O (dL t (gl o.1)) (max (v+y) o.2.Lo)))),_,_,_,_,_,_,_,_,_]) 7 U U U U pK ph U (gR _ _ _ _).symm U<|aK<|aP ?_
     exact H (eB O (dL t (gl o.1)) (max (v+y) o.2.Lo)) _ _ (by exact D.set hp ho (Az hy P) (.inl (by simpa using R))) (aR [1,3,4,5,6,7,8,9,10,11,12,13,14,15,16])
    rw [Bool.not_eq_false'] at R
    refine dP 5 [] mn ?_
    refine cx<|RK AO<|bR U (aU fun u=>?_) (aT fun u=>?_)
    ·refine cj<|aP ?_
     exact H O _ _ (by exact D.pI (Az hy P) (by simpa using R) u) (aR [1,3,4,5,6,7,8,9,10,11,12,13,14,15,16])
    refine cW cg 10 kr<|kv 1 [] (mc 11 U mn) U<|dS (SX (cw U U) U U)<|dP 4 [0,1] (mr 10 U (mc 8 U mn)) ?_
    have VO:(List.map oC (dF (fb++[B]) (ln.ab.n+1)))[(b+1)]? =some (oC (some B)):=qD (mQ (AA I))
    refine dS (IA (b+1) U (aB (n:=(ln.ab.n+1)) 16 U sq) oL dc I I) ?_
    refine dS (gD (b+1) 0 (Value.map (some B)) U bU (aB (n:=(dF (fb++[B]) (ln.ab.n+1)).length) 16 U sm) VO U dc U)<|dP 2 [] (mc 0 U mn) ?_
    refine cx<|iY (kV:=eH) (x:=(dL t (gl o.1))) (C':=[_,_,_,_,_,_,_,(ku eH B (cU iV (eB O (dL t (gl o.1)) (max (v+y) o.2.Lo)))),_,_,_,_,_,_,_,_,_]) 7 U U U U pK ph U (gR _ _ _ _).symm U<|aK<|aP ?_
    exact H (eB O (dL t (gl o.1)) (max (v+y) o.2.Lo)) _ _ (by exact D.set hp ho (Az hy P) (.inr u)) (aR [1,3,4,5,6,7,8,9,10,11,12,13,14,15,16])
   refine bQ<|ag<|ag<|aI<|KK Fd<|WS fun _ A0=>rP 1 [] mn ?_
   refine AL U j7 fun V4=>L8 U FT U U<|RK A0<|aH ?_
   rw [Hm]
   refine nN ?_
   have C:(0≤ln.ab.n+1)∧(([]:List FM).length=0)∧(([]:List Nat).length=0)∧(iw (cZ ln ri e tms) (ln.ab.n+1-0) ([]:List FM)):=by exact ⟨Nat.zero_le _,rfl,rfl,iw.none_⟩
   refine wR (ι:={z:Nat×(List FM)×(List Nat)×Nat×(List Nat) // (z.1≤ln.ab.n+1)∧(z.2.1.length=z.1)∧(z.2.2.1.length=z.1)∧(iw (cZ ln ri e tms) (ln.ab.n+1-z.1) z.2.1)}) (fun z=>z.1.2.2.2.2.map jU) (fun z=>[(0,(vP gw)),(1,(vP W)),(2,(vI (ln.ab.n:Int))),(12,(Value.pointer (some ⟨z.1.2.2.2.1,0,none⟩)))]) (fun z=>[(bM (bg m_ z.1.2.1 z.1.2.2.1)),(cz z.1.2.2.2.1 3 [(vI ((ln.ab.n:Int)-(z.1.1:Int)))]),(bM (z.1.2.2.2.2.map mq)),(cz gw 276 (cd.cells (cd.mk ln ri (bE.mk e_A e.length e_C) (bE.mk t_A tms.length t_C) (bE.mk fA (ln.ab.n+1) (ln.ab.n+1)) (bE.mk bA (ln.ab.n+1) (ln.ab.n+1))))).ro,(cz W 228 [(vP gw)]),(rd e_A e.length 1 (e.map iC)).ro,(rd t_A tms.length 1 (List.zipWith gF tms tb)).ro,(dE (bg pS tms tb)).ro,(own bA (ln.ab.n+1) 279 1 (List.map oC (iv z.1.2.2.1 (ln.ab.n+1)))),(bM (bg m_ fs fb)),(own fA (ln.ab.n+1) 279 1 (List.map oC (dF fb (ln.ab.n+1))))]) (fun z=>ln.ab.n+1-z.1.1) ⟨(0,([]:List FM),([]:List Nat),V4,V3),C⟩ U (bD U) (aR [0,1,2,3,4,5,6,7,8,9,10]) ?_
   clear C
   rintro ⟨⟨j,bs,bb,gq,q⟩,⟨A9,B3,B9,E⟩⟩ J57 Ck
   try dsimp only at A9 B3 B9 E
   try dsimp only
   refine aq fun _ A1=>WS fun _ A2=>rP 2 [] (mc 1 U mn) ?_
   refine RK A2<|bR U (aU fun LA=>?_) (aT fun LA=>?_)
   ·refine bQ<|ag<|ag<|aI ?_
    rw [show (List.map oC (dF fb (ln.ab.n+1)))=(List.zipWith gF fs fb) from by rw [zn I]; exact (Ap I).symm]
    rw [show (List.map oC (iv bb (ln.ab.n+1)))=(List.zipWith gF bs bb) from by rw [Hs I]; exact (Ap I).symm]
    refine z8 (C1:=[(own fA (ln.ab.n+1) 279 1 (List.zipWith gF fs fb)),(bM (bg m_ fs fb)),(own bA (ln.ab.n+1) 279 1 (List.zipWith gF bs bb)),(bM (bg m_ bs bb)),(bM (q.map mq))]) hz [10,9,8,0,2] U U (by simp only [il,List.all_nil,EU,M_,Bool.and_true]; rfl) ?_
    rw [show (cz gw 276 (cd.cells (cd.mk ln ri (bE.mk e_A e.length e_C) (bE.mk t_A tms.length t_C) (bE.mk fA (ln.ab.n+1) (ln.ab.n+1)) (bE.mk bA (ln.ab.n+1) (ln.ab.n+1)))))=(cz gw 276 (cd.cells (cd.mk ln ri (bE.mk e_A e.length e_C) (bE.mk t_A tms.length t_C) (bE.mk fA fs.length (ln.ab.n+1)) (bE.mk bA bs.length (ln.ab.n+1))))) from by rw [show fs.length=(ln.ab.n+1) from by omega,show bs.length=(ln.ab.n+1) from by omega]]
    refine QN [(cz gw 276 (cd.cells (cd.mk ln ri (bE.mk e_A e.length e_C) (bE.mk t_A tms.length t_C) (bE.mk fA fs.length (ln.ab.n+1)) (bE.mk bA bs.length (ln.ab.n+1))))),(own fA (ln.ab.n+1) 279 1 (List.zipWith gF fs fb)),(bM (bg m_ fs fb)),(own bA (ln.ab.n+1) 279 1 (List.zipWith gF bs bb)),(bM (bg m_ bs bb))] [(bM (q.map mq))] ?_
    refine hN _ _ _ (JH 1 U U<|j0 (vs:=[]) trivial fun w hs=>SG (fs,fb,fA,(ln.ab.n+1),bs,bb,bA,(ln.ab.n+1)) 0 ?_ ?_ U (by show List.all _ _=true; simp only [il,List.all_nil,EU,Bool.and_true]; rfl) hs)
    ·clear hs w hQ hN A2 A1 A0 AK GE Fn Fd FQ Do; rfl
    ·clear hs w hQ hN A2 A1 A0 AK GE Fn Fd FQ Do; exact ⟨M.ok (by show fs.length=e.length+1; omega),iw.ok (by have:=E; rwa [show ln.ab.n+1-j=0 by omega] at this) (by show bs.length=e.length+1; omega),dso,dso⟩
   refine WK A1<|aq fun _ Cx=>aH<|aq fun _ Os=>?_
   obtain ⟨b,Wf⟩: ∃ b:Nat,b+j=ln.ab.n:=⟨ln.ab.n-j,I⟩
   rw [show (ln.ab.n:Int)-(j:Int)=(b:Int) from by omega]
   have WZ:(iv bb (ln.ab.n+1)).length=(ln.ab.n+1):=yW I
   refine dH cg [5,12,13,15] [11] [0,1,2] [0,1,2,3,4,5,6,7,9,10] [0,1,2,3,4,5,6,7,8,9,10] U U U U U<|eS U (DA 4 U bU U)<|eS U (SX (cw U U) U U)<|eS U (FA 13 U eU U)<|eS U (IE (vS bA (ln.ab.n+1) (ln.ab.n+1)) 3 U bU U U)<|eS U (DA 1 U bU U)<|eS U (SX (bp (xs:=[]) (cs:=(aQ.cells (aQ.mk 0 0))) U U (bq Cu U)) U U)<|eS U (DA 4 U bU U)<|eS U (SX (cw U U) U U)<|eS U (FA 7 U eU U)<|eS U (FA 8 U eU U)<|eS U (IE (vI ri.gj) 3 U bU U U) ?_
   obtain ⟨WO,Vn⟩:=aC (iv bb (ln.ab.n+1)) b I
   have hx63m:(List.map oC (iv bb (ln.ab.n+1)))[b]? =some (oC WO):=by rw [gn,Vn]; rfl
   refine fS U (IA b U (aB (n:=(ln.ab.n+1)) 8 U sq) oL dc I I) ?_
   refine eo U<|iP U fun T64 R7=>mJ (kV:=eH) U U fun A=>?_
   try dsimp only
   refine aK (R7 _ _ (aR [1,2,3,4,5,6,7,8,10,11]) (aR [1,2,3,4,5,6,7,8,9,10,11]) ?_)
   refine iP U fun T66 R8=>?_
   have T4:(eB ([]:List (aQ×Int)) (aQ.mk 0 0) ri.gj)=[((aQ.mk 0 0),ri.gj)]:=by rfl
   refine zT (kV:=eH) (x:=(aQ.mk 0 0)) (C':=[(ku eH A (cU iV ([((aQ.mk 0 0),ri.gj)]))),_,_,_,_,_,_,_,_,_,_,_]) 0 U U U U pK ph U ((gR _ _ _ _).symm.trans (congrArg _ T4)) U<|aK (R8 _ _ (aR [1,2,3,4,5,6,7,8,10,11]) (aR [1,2,3,4,5,6,7,8,9,10,11]) ?_)
   refine iP U fun T68 R9=>rS (MV U)<|aK (R9 _ _ (aR [1,2,3,4,5,6,7,8,10,11]) (aR [1,2,3,4,5,6,7,8,9,10,11]) ?_)
   refine cp U fun T69 ST=>?_
   have T6:((iv bb (ln.ab.n+1)).set b (some A))=(iv (A::bb) (ln.ab.n+1)):=by exact HA I
   refine gu (k:=b) (o:=0) (vs:=[(Value.map (some A))]) (es':=(List.map oC (iv (A::bb) (ln.ab.n+1)))) (C':=[_,_,_,_,_,_,_,_,_,(own bA (ln.ab.n+1) 279 1 (List.map oC (iv (A::bb) (ln.ab.n+1)))),_,_]) 9 U U U JG U U U U hx63m U dc (by exact (List.map_set (f:=oC) (l:=(iv bb (ln.ab.n+1))) (i:=b) (a:=(some A))).symm.trans (congrArg _ T6)) U<|aK (ST _ _ (aR [1,2,3,4,5,6,7,8,10,11]) ?_)
   refine fK U<|KK Os<|aq fun _ O8=>WS fun _ PP=>rP 3 [] (mc 2 U mn) ?_
   refine RK PP<|ck U (aT fun LD=>?_) (aU fun LD=>?_)
   ·refine bQ<|ag<|aI<|KK Cx<|aq fun _ Pi=>WS fun _ Pl=>eV 1 [] (mc 2 U mn) U<|RK Pl<|aw<|AL U j7 fun V5=>L8 U FT U U<|RK Pi<|aw<|rP 2 [] (mc 0 U mn) ?_
    refine L8 U FT U U<|aK ?_
    rw [show (b:Int)-1=(ln.ab.n:Int)-(((j+1):Nat):Int) from by omega]
    refine zU (ms:=bs) (m:=[((aQ.mk 0 0),ri.gj)]) (a:=A) 2 1 U U U ?_
    try dsimp only
    refine bu (Ck ⟨((j+1),([((aQ.mk 0 0),ri.gj)]::bs),(A::bb),V5,q),⟨I,by simp; omega,by simp; omega,by exact iw.end_ (b:=b) E I I (by show e.length≤b; omega)⟩⟩ _ _ _ U os (bD U) (aR [0,1,3,4,5,6,7,8,9,10,11]))
   refine WK O8<|aq fun _ Pn=>?_
   have WE:(iv (A::bb) (ln.ab.n+1)).length=(ln.ab.n+1):=yW (by simp; omega)
   obtain ⟨mb,N⟩:=aC bs 0 I
   obtain ⟨ga,Z⟩:=aC bb 0 I
   refine zI 1 N Z U U U ?_
   try dsimp only
   refine cW cg 8 kr<|kv 1 [] (mc 6 U mn) U<|dS (SX (cw U U) U U)<|dP 4 [0,1] (mr 5 U (mc 3 U mn)) ?_
   have VT:(List.map oC (iv (A::bb) (ln.ab.n+1)))[(b+1)]? =some (oC (some ga)):=qD (uG (i:=1) (by simpa using Z) (by simp; omega))
   refine dS (IA (b+1) U (aB (n:=(ln.ab.n+1)) 10 U sq) oL dc I I) ?_
   refine dS (gD (b+1) 0 (Value.map (some ga)) U bU (aB (n:=(iv (A::bb) (ln.ab.n+1)).length) 10 U sm) VT U dc U)<|cx<|zD 0 U U pK U U fun Ci=>?_
   try dsimp only
   refine RK Pn<|aH ?_
   have C:(∀ p∈mb,p∈mb)∧(wy (cZ ln ri e tms) b ([((aQ.mk 0 0),ri.gj)]))∧(jQ (cZ ln ri e tms) b mb ([((aQ.mk 0 0),ri.gj)]) mb):=by exact ⟨fun p hp=>hp,wy.start (by show b<e.length; omega),jQ.start⟩
   refine wR (ι:={z:FM×FM×(List Nat) // (∀ p∈z.1,p∈mb)∧(wy (cZ ln ri e tms) b z.2.1)∧(jQ (cZ ln ri e tms) b mb z.2.1 z.1)}) (fun z=>z.1.2.2.map jU) (fun z=>[(0,(vP gw)),(1,(vP W)),(2,(vI (ln.ab.n:Int))),(12,(vP gq)),(171,(vP Ci))]) (fun z=>[(AJ eH Ci ga (cU iV mb) (cU iV z.1.1) none),(bM (gN m_ bs bb 0)),(ku eH A (cU iV z.1.2.1)),(cz gq 3 [(vI (b:Int))]),(bM (z.1.2.2.map mq)),(cz gw 276 (cd.cells (cd.mk ln ri (bE.mk e_A e.length e_C) (bE.mk t_A tms.length t_C) (bE.mk fA (ln.ab.n+1) (ln.ab.n+1)) (bE.mk bA (ln.ab.n+1) (ln.ab.n+1))))).ro,(cz W 228 [(vP gw)]),(rd e_A e.length 1 (e.map iC)).ro,(rd t_A tms.length 1 (List.zipWith gF tms tb)).ro,(dE (bg pS tms tb)).ro,(own bA (ln.ab.n+1) 279 1 (List.map oC (iv (A::bb) (ln.ab.n+1)))),(bM (bg m_ fs fb)),(own fA (ln.ab.n+1) 279 1 (List.map oC (dF fb (ln.ab.n+1))))]) (fun z=>z.1.1.length) ⟨(mb,[((aQ.mk 0 0),ri.gj)],q),C⟩ U (bD U) (aR [0,1,2,3,4,5,6,7,8,9,10,11,12]) ?_
   clear C
   rintro ⟨⟨left,m,V⟩,⟨J,K,L⟩⟩ J80 La
   try dsimp only at J K L
   try dsimp only
   refine WS fun _ C0=>xX ph.inj (f:=iV) 0 U U U U (fun LE=>?_) (fun t v hm J5=>?_)
   ·refine bI 1 U<|RK C0<|aq fun _ WY=>cq U<|bQ<|ag<|ag<|aI<|aP<|KK Cx<|aq fun _ Ps=>WS fun _ QS=>eV 1 [] (mc 3 U mn) U<|RK QS<|aw<|AL U j7 fun Kw=>L8 U FT U U<|RK Ps<|aw<|rP 2 [] (mc 0 U mn) ?_
    refine L8 U FT U U<|aK<|Ik (C':=[(cz Kw 3 [(vI ((b:Int)-1))]),(ku eH ga (cU iV mb)),(bM (gN m_ bs bb 0)),(ku eH A (cU iV m)),(cz gq 3 [(vI (b:Int))]),(bM (V.map mq)),(cz gw 276 (cd.cells (cd.mk ln ri (bE.mk e_A e.length e_C) (bE.mk t_A tms.length t_C) (bE.mk fA (ln.ab.n+1) (ln.ab.n+1)) (bE.mk bA (ln.ab.n+1) (ln.ab.n+1))))).ro,(cz W 228 [(vP gw)]),(rd e_A e.length 1 (e.map iC)).ro,(rd t_A tms.length 1 (List.zipWith gF tms tb)).ro,(dE (bg pS tms tb)).ro,(own bA (ln.ab.n+1) 279 1 (List.map oC (iv (A::bb) (ln.ab.n+1)))),(bM (bg m_ fs fb)),(own fA (ln.ab.n+1) 279 1 (List.map oC (dF fb (ln.ab.n+1))))]) 1 U H3 U<|LH 2 1 N Z U U U ?_
    try dsimp only
    rw [show (b:Int)-1=(ln.ab.n:Int)-(((j+1):Nat):Int) from by omega]
    refine zU (ms:=bs) (m:=m) (a:=A) 0 2 U U U ?_
    try dsimp only
    refine bu (Ck ⟨((j+1),(m::bs),(A::bb),Kw,V),⟨I,by simp; omega,by simp; omega,by exact iw.more (b:=b) E I I (by show b<e.length; omega) N K L LE⟩⟩ _ _ _ U os (bD U) (aR [0,1,3,4,5,6,7,8,9,10,11]))
   try dsimp only
   refine bI 1 U<|RK C0<|aq fun _ Qh=>aN U<|WK Qh<|aH<|WS fun _ Qr=>rS (SX (yd 0 U U U) U U)<|bI 2 U<|AL U uI fun K0=>AL U j7 fun K8=>qN U sZ U<|L8 U FT U U<|RK Qr<|WS fun _ Qx=>rP 2 [0,1] (mc 8 U (mc 5 U mn)) ?_
   refine cX (vU gw b) (aL) U fun WT Wb=>?_
   obtain ⟨C3,Dj⟩:=WT
   try dsimp only
   refine RK Qx<|aH<|jl 11 U (by exact fun _ h=>h)<|jl 13 U (by exact fun _ h=>h)<|jl 15 U (by exact fun _ h=>h)<|jl 12 U (by exact fun _ h=>h) ?_
   refine ub (L0:=[(0,(vP gw)),(1,(vP W)),(2,(vI (ln.ab.n:Int))),(12,(vP gq)),(13,(vP K0)),(14,(vP K8)),(171,(vP Ci))]) (F:=[(rd e_A e.length 1 (e.map iC)).ro,(rd t_A tms.length 1 (List.zipWith gF tms tb)).ro,(dE (bg pS tms tb)).ro,(cz gw 276 (cd.cells (cd.mk ln ri (bE.mk e_A e.length e_C) (bE.mk t_A tms.length t_C) (bE.mk fA (ln.ab.n+1) (ln.ab.n+1)) (bE.mk bA (ln.ab.n+1) (ln.ab.n+1))))).ro,(cz C3 228 [(vP gw)]),(cz Dj 3 [(vI (b:Int))])]) (fun k (y:FM)=>(nJ (cZ ln ri e tms) b mb left y (t,v) k)) (fun k y=>[(cz K8 3 [(vI v)]),(cz K0 281 (aQ.cells t)),(AJ eH Ci ga (cU iV mb) (cU iV (fz left t)) (some (t,(vI v)))),(bM (gN m_ bs bb 0)),(ku eH A (cU iV y)),(cz gq 3 [(vI (b:Int))]),(bM (V.map mq)),(cz gw 276 (cd.cells (cd.mk ln ri (bE.mk e_A e.length e_C) (bE.mk t_A tms.length t_C) (bE.mk fA (ln.ab.n+1) (ln.ab.n+1)) (bE.mk bA (ln.ab.n+1) (ln.ab.n+1))))).ro,(cz W 228 [(vP gw)]),(rd e_A e.length 1 (e.map iC)).ro,(rd t_A tms.length 1 (List.zipWith gF tms tb)).ro,(dE (bg pS tms tb)).ro,(own bA (ln.ab.n+1) 279 1 (List.map oC (iv (A::bb) (ln.ab.n+1)))),(bM (bg m_ fs fb)),(own fA (ln.ab.n+1) 279 1 (List.map oC (dF fb (ln.ab.n+1))))]) (fun _ (_:Unit)=>False) (fun _ _=>[]) [6,7,8,9,10,11,12,13,14,15,16,17,18,19,20] [3,2,1,0,4,5] m rfl rfl (tI ln ri e tms e_A e_C tb t_A t_C fA (ln.ab.n+1) (ln.ab.n+1) bA (ln.ab.n+1) (ln.ab.n+1) gw b C3 Dj I I) rfl rfl rfl (by exact nJ.start K L) (by simp only [List.forall_mem_cons,List.not_mem_nil,false_imp_iff,implies_true,and_true]; exact ⟨⟨_,aM (i:=0) rfl,(dI (cb _))⟩,⟨_,aM (i:=1) rfl,(dI (cb _))⟩,⟨_,aM (i:=2) rfl,(dI (cb _))⟩,⟨_,aM (i:=3) rfl,(dI (cb _))⟩,⟨_,aM (i:=4) rfl,(cb _)⟩,⟨_,aM (i:=5) rfl,(cb _)⟩⟩) (by rintro k x k2 ⟨o,_,rfl,_⟩; rfl) rfl (bD rfl) ?_ ?_ (fun _ _ _ h=>h.elim) (fun _ _ h=>h.elim)
   rotate_left 1
   ·rintro Vw k O A4 A8
    have D:=A8
    try dsimp only
    refine aP<|aP<|Lj (X:=V.map mq) 13 0 U U ?_
    try dsimp only
    refine re 9 U Bh U ?_
    refine bu (La ⟨((fz left t),O,(Vw::V)),⟨mW J,D.on,D.next J5 hm A4⟩⟩ _ _ _ U (mY hm) (bD U) (aR [9,10,11,12,0,4,14,1,2,3,18,19,20]))
   rintro k x k2 O l ra rb S w1 K95 Qr96 WH hx In Q0 AD WQ WV
   obtain ⟨o,ho,rfl,rfl⟩:=hx
   have D:=In
   try dsimp only
   refine WS fun _ R0=>rP 1 [] mn ?_
   refine RK R0<|aw<|AL U dU fun We=>eN U cT U<|aK<|jB (fun _ _ h=>h) (aR [1,0,2,3,4,5,6,7,8,9,10,11,12,13,14,15,16])<|bu (Q0 _ _ ?_)
   refine aH<|aq fun _ EQ=>dH cg [16,18] [] [] [0,1,2,3,4,5,6,7,8,9,10,11,12,13,14,15,16] [] U U U U U<|eS U (DA 2 U bU U)<|eS U (FA 1 U eU U)<|eS U (L1 (vI o.2.Hi) 1 U bU U U) ?_
   have hp:=E.UN (b:=b) I N (J _ hm)
   have WA:=Kd hw hp
   have WF:=vG o.1
   have WG:=hw.opt ho
   dsimp only at WA
   refine eS U (MN U)<|eS U (DA 10 U bU U)<|eS U (SX (cw U U) U U)<|eS U (FA 10 U eU U)<|eS U (IE (vS e_A e.length e_C) 9 U bU U U)<|eS U (DA 7 U bU U) ?_
   obtain ⟨y,hy⟩:=aC e b I
   have J6:=bO iC hy
   refine eS U (IA b U (ay 11 U) dy dc I I)<|eS U (gD b 0 (vI y) U bU (ay 11 U) J6 U dc U) ?_
   have WC:=hw.least y (aM hy)
   refine eS U (BI U (xj ⟨I,I⟩))<|eS U (LW 3 U bU U U)<|eS U (MV U)<|eS U (CL (KM o.1) (aL) U)<|eS U (CL (wK t (gl o.1) I I) (aL) U)<|eS U (AG U)<|eo U<|cp U fun T101 GT=>AL U uI fun WW=>aK (GT _ _ (aR [1,2,3,4,5,6,7,8,9,10,11,12,13,14,15,16,17]) ?_)
   refine cp U fun T103 Go=>eN U sZ U<|aK (Go _ _ (aR [1,2,3,4,5,6,7,8,9,10,11,12,13,14,15,16,17]) ?_)
   refine fK U<|KK EQ<|aq fun _ Eq=>cW cg 14 kr<|kv 1 [] (mc 11 U mn) U<|dS (SX (cw U U) U U)<|dP 3 [0,1] (mr 10 U (mc 8 U mn)) ?_
   have I0:(List.map oC (iv (A::bb) (ln.ab.n+1)))[b]? =some (oC (some A)):=qD (uG (i:=0) rfl (by simp; omega))
   refine dS (IA b U (aB (n:=(ln.ab.n+1)) 15 U sq) oL dc I I) ?_
   refine dS (gD b 0 (Value.map (some A)) U bU (aB (n:=(iv (A::bb) (ln.ab.n+1)).length) 15 U sm) I0 U dc U)<|kv 1 [] (mc 0 U mn) U<|dS (SX (tH (kV:=eH) (x:=(dL t (gl o.1))) (l:=O) (f:=iV) (z:=0) U U U pK ph VH (by exact ay 7 U)) U U)<|kR 5 U<|cx<|RK Eq<|WS fun _ Y=>eV 3 [0,1] (mc 3 U (mc 2 U mn)) U<|rS (MN U)<|rP 4 [] (mc 2 U mn) ?_
   refine cG (t:=217) U (aU fun T=>?_) (aT fun T=>?_)
   ·refine rP 8 [] mn ?_
    refine RK Y<|cq U<|cj<|aP ?_
    exact AD O _ _ (by exact D.skip (NZ T)) (aR [1,3,4,5,6,7,8,9,10,11,12,13,14,15,16,17])
   refine rP 3 [] mn ?_
   refine bT (t:=220) U (fun AB=>?_) (fun AB=>?_)
   ·rw [Bool.not_eq_true'] at AB
    refine bI 5 U<|RK Y<|aN U<|cW cg 9 kr<|kv 1 [] (mc 11 U mn) U<|dS (SX (cw U U) U U)<|dP 3 [0,1] (mr 10 U (mc 8 U mn)) ?_
    have Je:(List.map oC (iv (A::bb) (ln.ab.n+1)))[b]? =some (oC (some A)):=qD (uG (i:=0) rfl (by simp; omega))
    refine dS (IA b U (aB (n:=(ln.ab.n+1)) 15 U sq) oL dc I I) ?_
    refine dS (gD b 0 (Value.map (some A)) U bU (aB (n:=(iv (A::bb) (ln.ab.n+1)).length) 15 U sm) Je U dc U)<|dP 2 [] (mc 0 U mn) ?_
    refine cx<|iY (kV:=eH) (x:=(dL t (gl o.1))) (C':=[_,_,_,_,_,_,_,(ku eH A (cU iV (eB O (dL t (gl o.1)) ((min v o.2.Hi)-y)))),_,_,_,_,_,_,_,_,_,_]) 7 U U U U pK ph U (gR _ _ _ _).symm U<|aK<|aP ?_
    exact AD (eB O (dL t (gl o.1)) ((min v o.2.Hi)-y)) _ _ (by exact D.set (by show b<e.length; omega) hp ho (Af hy T) (.inl (by simpa using AB))) (aR [1,3,4,5,6,7,8,9,10,11,12,13,14,15,16,17])
   rw [Bool.not_eq_false'] at AB
   refine rP 5 [] mn ?_
   refine RK Y<|bR U (aU fun AC=>?_) (aT fun AC=>?_)
   ·refine cj<|aP ?_
    exact AD O _ _ (by exact D.pI (Af hy T) (by simpa using AB) AC) (aR [1,3,4,5,6,7,8,9,10,11,12,13,14,15,16,17])
   refine cW cg 9 kr<|kv 1 [] (mc 11 U mn) U<|dS (SX (cw U U) U U)<|dP 3 [0,1] (mr 10 U (mc 8 U mn)) ?_
   have J2:(List.map oC (iv (A::bb) (ln.ab.n+1)))[b]? =some (oC (some A)):=qD (uG (i:=0) rfl (by simp; omega))
   refine dS (IA b U (aB (n:=(ln.ab.n+1)) 15 U sq) oL dc I I) ?_
   refine dS (gD b 0 (Value.map (some A)) U bU (aB (n:=(iv (A::bb) (ln.ab.n+1)).length) 15 U sm) J2 U dc U)<|dP 2 [] (mc 0 U mn) ?_
   refine cx<|iY (kV:=eH) (x:=(dL t (gl o.1))) (C':=[_,_,_,_,_,_,_,(ku eH A (cU iV (eB O (dL t (gl o.1)) ((min v o.2.Hi)-y)))),_,_,_,_,_,_,_,_,_,_]) 7 U U U U pK ph U (gR _ _ _ _).symm U<|aK<|aP ?_
   exact AD (eB O (dL t (gl o.1)) ((min v o.2.Hi)-y)) _ _ (by exact D.set (by show b<e.length; omega) hp ho (Af hy T) (.inr AC)) (aR [1,3,4,5,6,7,8,9,10,11,12,13,14,15,16,17])
  refine dH cg [4,11,12,14] [10] [0,1,2] [0,1,2,3,4,6] [0,1,2,3,4,5,6] U U U U U<|eS U (DA 1 U bU U)<|eS U (SX (cw U U) U U)<|eS U (FA 12 U eU U)<|eS U (IE (vS fA (ln.ab.n+1) (ln.ab.n+1)) 0 U bU U U)<|eS U (SX (bp (xs:=[]) (cs:=(aQ.cells (aQ.mk 0 0))) U U (bq Cu U)) U U)<|eS U (DA 1 U bU U)<|eS U (SX (cw U U) U U)<|eS U (FA 7 U eU U)<|eS U (FA 7 U eU U)<|eS U (IE (vI ri.Start) 0 U bU U U) ?_
  obtain ⟨x6,WI⟩:=aC (List.replicate (ln.ab.n+1) (none:Option Nat)) 0 I
  have hx7m:(List.map oC (List.replicate (ln.ab.n+1) (none:Option Nat)))[0]? =some (oC x6):=by rw [gn,WI]; rfl
  refine fS U (IA 0 U (aB (n:=(ln.ab.n+1)) 5 U sq) oL dc U I) ?_
  refine eo U<|iP U fun T8 IO=>mJ (kV:=eH) U U fun r=>?_
  try dsimp only
  refine aK (IO _ _ (aR [1,2,3,4,5,7]) (aR [1,2,3,4,5,6,7]) ?_)
  refine iP U fun T10 G=>?_
  have S1:(eB ([]:List (aQ×Int)) (aQ.mk 0 0) ri.Start)=[((aQ.mk 0 0),ri.Start)]:=by rfl
  refine zT (kV:=eH) (x:=(aQ.mk 0 0)) (C':=[(ku eH r (cU iV ([((aQ.mk 0 0),ri.Start)]))),_,_,_,_,_,_,_]) 0 U U U U pK ph U ((gR _ _ _ _).symm.trans (congrArg _ S1)) U<|aK (G _ _ (aR [1,2,3,4,5,7]) (aR [1,2,3,4,5,6,7]) ?_)
  refine iP U fun T12 R1=>rS (MV U)<|aK (R1 _ _ (aR [1,2,3,4,5,7]) (aR [1,2,3,4,5,6,7]) ?_)
  refine cp U fun T13 R2=>?_
  have S2:((List.replicate (ln.ab.n+1) (none:Option Nat)).set 0 (some r))=(dF [r] (ln.ab.n+1)):=by rw [vL]; exact r_ rfl sm
  refine gu (k:=0) (o:=0) (vs:=[(Value.map (some r))]) (es':=(List.map oC (dF [r] (ln.ab.n+1)))) (C':=[_,_,_,_,_,_,(own fA (ln.ab.n+1) 279 1 (List.map oC (dF [r] (ln.ab.n+1)))),_]) 6 U U U JG U U U U hx7m U dc (by exact (List.map_set (f:=oC) (l:=(List.replicate (ln.ab.n+1) (none:Option Nat))) (i:=0) (a:=(some r))).symm.trans (congrArg _ S2)) U<|aK (R2 _ _ (aR [1,2,3,4,5,7]) ?_)
  refine fK U<|Ey<|zS (X:=[]) (X':=bg m_ [[((aQ.mk 0 0),ri.Start)]] [r]) 0 1 U U U ?_
  try dsimp only
  refine bu (jB (bD U) (aR [1,2,3,4,5,7,0,6]) (V_ ⟨r,trivial⟩))
 refine k6 cg [0,1,2,3,5,6,8,9,11,12] [4,7,10,13] [false,false,false,false,false,false,false,false,false,false] [] [(cz W 228 [(vP gw)]),(rd e_A e.length 1 (e.map iC)).ro,(rd t_A tms.length 1 (List.zipWith gF tms tb)).ro,(dE (bg pS tms tb)).ro] [] kr (aR [0,2,3,4]) (aR [])<|eS U (DA 0 U bU U)<|eS U (DA 0 U bU U)<|eS U (MV U)<|eS U (BI U (oP ⟨I,I⟩))<|eS U (MV U)<|eS U (BI U (oP ⟨I,I⟩))<|eS U (SX (cw U U) U U)<|eS U (FA 12 U eU U)<|eS U (SX (cw U U) U U)<|eS U (FA 13 U eU U)<|eo U<|fp [4,7] kr (cK ?_<|cK ?_<|gV)
 rotate_left 1
 ·refine NO U U [4,10,13] fun T5 H1=>?_
  refine wa (n:=(ln.ab.n+1)) (es:=(List.map oC (List.replicate (ln.ab.n+1) (none:Option Nat)))) U U U CZ I I (by simp only [maxLen]; omega) (by rw [List.map_replicate]; rfl) U fun b6=>?_
  try dsimp only
  refine aK (H1 _ _ (aR [1,3,4,5]) ?_)
  refine N1 4<|NO U U [10,13] fun T7 A3=>?_
  refine wa (n:=(ln.ab.n+1)) (es:=(List.map oC (List.replicate (ln.ab.n+1) (none:Option Nat)))) U U U CZ I I (by simp only [maxLen]; omega) (by rw [List.map_replicate]; rfl) U fun b8=>?_
  try dsimp only
  refine aK (A3 _ _ (aR [2,4,5,6]) ?_)
  refine N1 10<|NO U U [13] fun T9 IR=>RS (cd.cells (cd.mk ln ri (bE.mk e_A e.length e_C) (bE.mk t_A tms.length t_C) (bE.mk (some ⟨b8,0,none⟩) (ln.ab.n+1) (ln.ab.n+1)) (bE.mk none 0 0))) U yZ U U<|aK (IR _ _ (aR [2,4,5,6]) ?_)
  refine N1 13<|NO U U [] fun T10 G=>RS (cd.cells (cd.mk ln ri (bE.mk e_A e.length e_C) (bE.mk t_A tms.length t_C) (bE.mk (some ⟨b8,0,none⟩) (ln.ab.n+1) (ln.ab.n+1)) (bE.mk (some ⟨b6,0,none⟩) (ln.ab.n+1) (ln.ab.n+1)))) U yZ U U<|aK (G _ _ (aR [2,4,5,6]) ?_)
  refine kG ?_
  refine bu (jB (bD U) (aR [2,4,5,6,0,1,3]) (FS ⟨((some ⟨b8,0,none⟩),(some ⟨b6,0,none⟩)),trivial⟩))
 refine NO U U [7,10,13] fun T5 H1=>?_
 refine wa (n:=(ln.ab.n+1)) (es:=(List.map oC (List.replicate (ln.ab.n+1) (none:Option Nat)))) U U U CZ I I (by simp only [maxLen]; omega) (by rw [List.map_replicate]; rfl) U fun b6=>?_
 try dsimp only
 refine aK (H1 _ _ (aR [1,3,4,5]) ?_)
 refine fp [7,10] kr (cK ?_<|cK ?_<|gV)
 rotate_left 1
 ·refine NO U U [7,13] fun T7 A3=>V2 (cd.cells (cd.mk ln ri (bE.mk e_A e.length e_C) (bE.mk t_A tms.length t_C) (bE.mk (some ⟨b6,0,none⟩) (ln.ab.n+1) (ln.ab.n+1)) (bE.mk none 0 0))) U yZ U U<|aK (A3 _ _ (aR [1,3,4,5]) ?_)
  refine N1 7<|NO U U [13] fun T8 IO=>?_
  refine wa (n:=(ln.ab.n+1)) (es:=(List.map oC (List.replicate (ln.ab.n+1) (none:Option Nat)))) U U U CZ I I (by simp only [maxLen]; omega) (by rw [List.map_replicate]; rfl) U fun r=>?_
  try dsimp only
  refine aK (IO _ _ (aR [2,4,5,6]) ?_)
  refine N1 13<|NO U U [] fun T10 G=>RS (cd.cells (cd.mk ln ri (bE.mk e_A e.length e_C) (bE.mk t_A tms.length t_C) (bE.mk (some ⟨b6,0,none⟩) (ln.ab.n+1) (ln.ab.n+1)) (bE.mk (some ⟨r,0,none⟩) (ln.ab.n+1) (ln.ab.n+1)))) U yZ U U<|aK (G _ _ (aR [2,4,5,6]) ?_)
  refine kG ?_
  refine bu (jB (bD U) (aR [2,4,5,6,1,0,3]) (FS ⟨((some ⟨b6,0,none⟩),(some ⟨r,0,none⟩)),trivial⟩))
 refine NO U U [10,13] fun T7 A3=>?_
 refine wa (n:=(ln.ab.n+1)) (es:=(List.map oC (List.replicate (ln.ab.n+1) (none:Option Nat)))) U U U CZ I I (by simp only [maxLen]; omega) (by rw [List.map_replicate]; rfl) U fun b8=>?_
 try dsimp only
 refine aK (A3 _ _ (aR [2,4,5,6]) ?_)
 refine N1 10<|NO U U [13] fun T9 IR=>RS (cd.cells (cd.mk ln ri (bE.mk e_A e.length e_C) (bE.mk t_A tms.length t_C) (bE.mk (some ⟨b6,0,none⟩) (ln.ab.n+1) (ln.ab.n+1)) (bE.mk none 0 0))) U yZ U U<|aK (IR _ _ (aR [2,4,5,6]) ?_)
 refine N1 13<|NO U U [] fun T10 G=>RS (cd.cells (cd.mk ln ri (bE.mk e_A e.length e_C) (bE.mk t_A tms.length t_C) (bE.mk (some ⟨b6,0,none⟩) (ln.ab.n+1) (ln.ab.n+1)) (bE.mk (some ⟨b8,0,none⟩) (ln.ab.n+1) (ln.ab.n+1)))) U yZ U U<|aK (G _ _ (aR [2,4,5,6]) ?_)
 refine kG ?_
 refine bu (jB (bD U) (aR [2,4,5,6,1,0,3]) (FS ⟨((some ⟨b6,0,none⟩),(some ⟨b8,0,none⟩)),trivial⟩))
end
section
open Go.RowKit
theorem D7 (l:bH) (kA:OA) (kC:Nat) (az:List RA) (cA:OA) (cC:Nat) (bA:OA) (bC g1:Nat) (bm:Int) (g2:Nat) (hin:ej l az):
 dB Tryz.prog 148 [(vP g1),(vP g2)] [(rd kA l.aO.length 9 (l.aO.map au.cells)),(rd cA l.aj.length 2 (List.zipWith ax.cells l.aj az)),(dE (bg ax.e_ l.aj az)),(rd bA l.ab.length 4 (l.ab.map bK.cells)),(cz g1 28 (cm.cells (jR l kA kC cA cC bA bC))),(cz g2 3 [(vI bm)])] (vI (ke l bm)):=by
 have K:=hin.rW
 have J:=hin.sG
 have H:=hin.ly
 have AA:=hin.se
 refine bJ kr Tryz.func148 U U fun L Q hQ hN=>?_
 try dsimp only
 refine WS fun _ B=>bI 1 U<|RK B<|aq fun _ C=>WS fun _ D=>rP 5 [0,1] (mr 4 U (mr 5 U mn)) ?_
 refine ew (xs:=[.tmp 7]) (cs:=[(vI bm)]) U dy j7 U U U U (by simp [Value.cells]) U U fun G=>?_
 refine rS (CL (dB.eq (ik 0 ((l.ab.length:Int)-1) ([bm]) (some ⟨G,0,none⟩) 1 (by (simp; done))) cy) (aD (bx 0 U U (by simp [bP]) U)<|aL) U) ?_
 refine rP 1 [] mn ?_
 refine RK D<|ck U (aX fun A=>?_) (aW fun A=>?_)
 ·refine WS fun _ E=>rP 1 [] mn ?_
  refine RK E<|ar<|Q1 hQ U U U ?_
  exact cI (if_neg I).symm
 refine WK C<|WS fun _ F=>rP 1 [] mn ?_
 refine RK F<|ar<|Q1 hQ U U U ?_
 exact cI (if_pos I).symm
theorem Np (l:bH) (kA:OA) (kC:Nat) (az:List RA) (cA:OA) (cC:Nat) (bA:OA) (bC:Nat) (r:c_) (sgA:OA) (sgC:Nat) (hin:ej l az) (hsl:r.aa.length≤1000000):
 nG Tryz.prog 147 [(vA (cm.cells (jR l kA kC cA cC bA bC))),(vA (cL.cells (iN r sgA sgC))),(vS none 0 0)] [(rd kA l.aO.length 9 (l.aO.map au.cells)),(rd cA l.aj.length 2 (List.zipWith ax.cells l.aj az)),(dE (bg ax.e_ l.aj az)),(rd bA l.ab.length 4 (l.ab.map bK.cells)),(rd sgA r.aa.length 2 (r.aa.map aF.cells))] (fun (x:Bool×Int×Nat×(OA)×Nat×(OA)×Nat×(List Nat)×(List FM)×(List Nat)×(OA)×Nat×(List FM)×(List Nat)×(OA)×Nat)=>bif x.1 then (vT [(Value.pointer (some ⟨x.2.2.1,0,none⟩)),(vI 0)]) else (vT [(Value.pointer none),(vI x.2.1)])) (fun (x:Bool×Int×Nat×(OA)×Nat×(OA)×Nat×(List Nat)×(List FM)×(List Nat)×(OA)×Nat×(List FM)×(List Nat)×(OA)×Nat)=>(x.1=true→(fu l r 0=0∧wg (dx l r) x.2.2.2.2.2.2.2.2.1∧tO (dx l r) x.2.2.2.2.2.2.2.2.2.2.2.2.1∧x.2.2.2.2.2.2.2.2.2.1.length=x.2.2.2.2.2.2.2.2.1.length∧x.2.2.2.2.2.2.2.2.2.2.2.2.2.1.length=x.2.2.2.2.2.2.2.2.2.2.2.2.1.length∧x.2.2.2.2.2.2.2.1.length=(cN l r.aa r.aa.length).length))∧(x.1=false→(x.2.1=fu l r 0∧ ¬ fu l r 0=0))) (fun (x:Bool×Int×Nat×(OA)×Nat×(OA)×Nat×(List Nat)×(List FM)×(List Nat)×(OA)×Nat×(List FM)×(List Nat)×(OA)×Nat)=>bif x.1 then [(cz x.2.2.1 276 (cd.cells (cd.mk (jR l kA kC cA cC bA bC) (iN r sgA sgC) (bE.mk x.2.2.2.1 ((cu l l.ab.length).length) x.2.2.2.2.1) (bE.mk x.2.2.2.2.2.1 ((cN l r.aa r.aa.length).length) x.2.2.2.2.2.2.1) (bE.mk x.2.2.2.2.2.2.2.2.2.2.1 x.2.2.2.2.2.2.2.2.1.length x.2.2.2.2.2.2.2.2.2.2.2.1) (bE.mk x.2.2.2.2.2.2.2.2.2.2.2.2.2.2.1 x.2.2.2.2.2.2.2.2.2.2.2.2.1.length x.2.2.2.2.2.2.2.2.2.2.2.2.2.2.2)))),(own x.2.2.2.1 x.2.2.2.2.1 3 1 ((cu l l.ab.length).map iC)),(own x.2.2.2.2.2.1 x.2.2.2.2.2.2.1 123 1 (List.zipWith gF (cN l r.aa r.aa.length) x.2.2.2.2.2.2.2.1)),(bM (bg pS (cN l r.aa r.aa.length) x.2.2.2.2.2.2.2.1)),(own x.2.2.2.2.2.2.2.2.2.2.1 x.2.2.2.2.2.2.2.2.2.2.2.1 279 1 (List.zipWith gF x.2.2.2.2.2.2.2.2.1 x.2.2.2.2.2.2.2.2.2.1)),(bM (bg m_ x.2.2.2.2.2.2.2.2.1 x.2.2.2.2.2.2.2.2.2.1)),(own x.2.2.2.2.2.2.2.2.2.2.2.2.2.2.1 x.2.2.2.2.2.2.2.2.2.2.2.2.2.2.2 279 1 (List.zipWith gF x.2.2.2.2.2.2.2.2.2.2.2.2.1 x.2.2.2.2.2.2.2.2.2.2.2.2.2.1)),(bM (bg m_ x.2.2.2.2.2.2.2.2.2.2.2.2.1 x.2.2.2.2.2.2.2.2.2.2.2.2.2.1))] else []):=by
 have T4:=hin.rW
 have To:=hin.sG
 have S1:=hin.ly
 have S2:=hin.se
 have T0:=hin.side
 refine eO kr Tryz.func147 U U fun w0 Q hQ hN=>?_
 try dsimp only
 refine WS fun _ Ne=>eJ U fun b2=>eJ U fun b3=>bI 2 U<|RK Ne<|aq fun _ Op=>WS fun _ Or=>eV 1 [] (mc 1 U mn) U<|rS (CL (wY l kA kC az cA cC bA bC hin) (bo [2,3,4,5]) U)<|bI 1 U<|RK Or<|WS fun _ Os=>rP 2 [] mn ?_
 refine RK Os<|ck U (aX fun d=>?_) (aW fun d=>?_)
 ·refine WS fun _ O8=>rP 3 [] mn ?_
  refine RK O8<|ar<|LX hQ (false,(eT l),0,none,0,none,0,[],[],[],none,0,[],[],none,0) [] [] mn U (by rfl) U U ?_
  exact qF<|QZ (mS (r:=r) (me:=0) d) d
 refine WK Op<|aq fun _ PP=>WS fun _ s=>?_
 have E:eT l=0:=d
 obtain ⟨LD,Z⟩:=eh E
 have Pl:=Z.head
 unfold eZ at Pl
 refine rP 2 [] (mc 0 U mn) ?_
 refine ew (xs:=[.tmp 24]) (cs:=[(vI r.Start)]) U dy j7 U U U U (by simp [Value.cells]) U U fun Li=>?_
 refine rS (CL (dB.eq (ik 0 86400000 ([r.Start]) (some ⟨Li,0,none⟩) 1 (by (simp; done))) cy) (aD (bx 0 U U (by simp [bP]) U)<|aL) U) ?_
 refine rP 2 [] mn ?_
 refine bT (t:=28) U (aX fun L2=>?_) (aW fun L2=>?_)
 ·refine bI 14 U<|RK s<|aN U<|WS fun _ A4=>rP 2 [] mn ?_
  refine RK A4<|ar<|LX hQ (false,51,0,none,0,none,0,[],[],[],none,0,[],[],none,0) [] [] mn U (by rfl) U U ?_
  exact qF<|sT (fR (me:=0) E (fun q:fQ l r=>by have q1:=q.time; have q2:=q.len; omega))
 refine rP 4 [] (mc 1 U mn) ?_
 refine ew (xs:=[.tmp 32]) (cs:=[(vI r.gj)]) U dy j7 U U U U (by simp [Value.cells]) U U fun Lk=>?_
 refine rS (CL (dB.eq (ik r.Start 86400000 ([r.gj]) (some ⟨Lk,0,none⟩) 1 (by (simp; done))) cy) (aD (bx 0 U U (by simp [bP]) U)<|aL) U) ?_
 refine rP 3 [] mn ?_
 refine bT (t:=37) U (aX fun MI=>?_) (aW fun MI=>?_)
 ·refine bI 5 U<|RK s<|aN U<|WS fun _ A5=>rP 2 [] mn ?_
  refine RK A5<|ar<|LX hQ (false,51,0,none,0,none,0,[],[],[],none,0,[],[],none,0) [] [] mn U (by rfl) U U ?_
  exact qF<|sT (fR (me:=0) E (fun q:fQ l r=>by have q1:=q.time; have q2:=q.len; omega))
 refine rP 5 [] (mc 2 U mn) ?_
 refine RK s<|ck U (aT fun MQ=>?_) (aU fun MQ=>?_)
 ·refine WS fun _ A6=>rP 2 [] mn ?_
  refine RK A6<|ar<|LX hQ (false,51,0,none,0,none,0,[],[],[],none,0,[],[],none,0) [] [] mn U (by rfl) U U ?_
  exact qF<|sT (fR (me:=0) E (fun q:fQ l r=>by have q1:=q.time; have q2:=q.len; omega))
 refine WK PP<|WS fun _ A7=>rS (SX (bp (xs:=[(0,.const (vI (-1)))]) (cs:=(aF.cells (aF.mk (-1) 0))) U U (bq Bi U)) U U)<|AL U zG fun AA=>eN U pj U<|RK A7<|aq fun _ A8=>dH cg [5,6,7,8] [] [] [0,1,2,3,4,5,6,7,8,9] [] U U U U U<|eS U (LW 4 U bU U U)<|eS U (LW 3 U bU U U)<|eS U (FA 3 U eU U)<|eS U (L1 (vS bA l.ab.length bC) 4 U bU U U)<|eS U (LN U Nj)<|eo U<|cp U fun T18 IO=>?_
 refine wa (n:=l.ab.length) (es:=(List.map oC (List.replicate l.ab.length (none:Option Nat)))) U U U OU I I (by simp only [maxLen]; omega) (by rw [List.map_replicate]; rfl) U fun B=>?_
 try dsimp only
 refine aK (IO _ _ (aR [1,2,3,4,5,6,7,8,9,10]) ?_)
 refine cp U fun T20 IR=>rS (SX (bp (xs:=[(0,.tmp 44),(1,.tmp 45),(3,.tmp 49)]) (cs:=(cd.cells (cd.mk (jR l kA kC cA cC bA bC) (iN r sgA sgC) (bE.mk none 0 0) (bE.mk (some ⟨B,0,none⟩) l.ab.length l.ab.length) (bE.mk none 0 0) (bE.mk none 0 0)))) U U (bq Ow U)) U U)<|aK (IR _ _ (aR [1,2,3,4,5,6,7,8,9,10]) ?_)
 refine cp U fun T21 Id=>eJ U fun J=>aK (Id _ _ (aR [2,3,4,5,6,7,8,9,10,11]) ?_)
 refine cp U fun T23 If=>rS (AG U)<|aK (If _ _ (aR [2,3,4,5,6,7,8,9,10,11]) ?_)
 refine fK U<|KK A8<|aq fun _ A9=>WS fun _ B3=>rP 4 [] (mc 6 U mn) ?_
 refine RK B3<|aH ?_
 rw [vL]
 refine eX 3 1<|nN ?_
 have D:(0≤l.ab.length)∧(([]:List Nat).length=0):=by exact ⟨Nat.zero_le _,rfl⟩
 refine bS (ι:={z:Nat×(OA)×Nat×(List Nat) // (z.1≤l.ab.length)∧(z.2.2.2.length=z.1)}) [2,3,4,6,7,9,10,54] [4,7,8,9,10,11,12,13] U U (fun z=>[(55,(vI (z.1.1:Int)))]) (fun z=>[(bM (bg pS (List.replicate z.1.1 ([]:TM)) z.1.2.2.2)),(own z.1.2.1 z.1.2.2.1 3 1 ((cu l z.1.1).map iC)),(cz J 276 (cd.cells (cd.mk (jR l kA kC cA cC bA bC) (iN r sgA sgC) (bE.mk z.1.2.1 ((cu l z.1.1).length) z.1.2.2.1) (bE.mk (some ⟨B,0,none⟩) l.ab.length l.ab.length) (bE.mk none 0 0) (bE.mk none 0 0)))),(own (some ⟨B,0,none⟩) l.ab.length 123 1 (List.map oC (dF z.1.2.2.2 l.ab.length)))]) (fun _=>rfl) (fun _=>rfl) (fun z=>l.ab.length-z.1.1) ⟨(0,none,0,([]:List Nat)),D⟩ (bD U) (aR [4,7,8,9,10,11,12,13,0,1,2,3]) ?_
 clear D
 rintro ⟨⟨b,a,c,fb⟩,⟨u,W⟩⟩ J26 A3
 try dsimp only at u W
 try dsimp only
 have Pn:(dF fb l.ab.length).length=l.ab.length:=nE I
 refine WS fun _ B9=>rP 1 [] mn ?_
 refine RK B9<|aq fun _ CC=>ck U (aT fun L3=>?_) (aU fun L3=>?_)
 ·refine WK CC<|aq fun _ Ci=>aH<|WS fun _ Ck=>rP 2 [] mn ?_
  refine RK Ck<|aq fun _ Cp=>dH cg [12,13,16] [4] [0] [0,1,2,3,4,5,6,7,8,11] [0,1,2,3,4,5,6,7,8,9,10,11] U U U U U<|eS U (MV U)<|eS U (MV U)<|eS U (SX (cw U U) U U)<|eS U (FA 10 U eU U)<|fS U (L1 (vS a ((cu l b).length) c) 10 U bU U U)<|eS U (LW 2 U bU U U)<|eS U (MV U)<|eS U (CL (Jd l kA kC az cA cC bA bC (b:Int) hin asm (by exact Z.vl) I) (bo [3,4,5,6]) U) ?_
  have T5:=Cy LD Z.vl b
  have T6:=Z.Ps b I
  simp only [Int.toNat_natCast]
  refine eS U (BI U (uT ⟨I,I⟩))<|eS U (FA 1 U eU U)<|eS U (L1 (vI l.h_) 2 U bU U U) ?_
  refine eS U (CL (JD (1000*(lH l (b:Int).toNat)) l.h_ I (by (simp; omega))) (aL) U) ?_
  refine eS U (SX (cw U U) U U)<|eS U (FA 10 U eU U)<|eo U<|iP U fun T33 In=>ew (xs:=[.tmp 69]) (cs:=[(vI (o1 (1000*(lH l (b:Int).toNat)) l.h_))]) U dy j7 U U U U (by simp [Value.cells]) U U fun R7=>aK (In _ _ (aR [1,2,3,4,5,6,7,8,9,12]) (aR [1,2,3,4,5,6,7,8,9,10,11,12]) ?_)
  refine cp U fun T35 I0=>?_
  refine ed (es2:=(List.map iC (cu l (b+1)))) (m':=(cu l (b+1)).length) 10 U U U te U U (by simp [dv]) (bx (es:=List.map iC [(o1 (1000*(lH l (b:Int).toNat)) l.h_)]) 0 U U (by simp [bP]) U) (lU _) (by have:=dv (l:=l) (n:=b); first|omega|(simp; omega)) (by simp only [maxLen,dv]; omega) (by rw [rD]; simp [eE]) (by simp [dv]) U fun AC AK=>?_
  try dsimp only
  refine aK (I0 _ _ (aR [1,2,3,4,5,6,7,8,9,12]) ?_)
  refine cp U fun T38 Je=>Ug (cd.cells (cd.mk (jR l kA kC cA cC bA bC) (iN r sgA sgC) (bE.mk AC ((cu l (b+1)).length) AK) (bE.mk (some ⟨B,0,none⟩) l.ab.length l.ab.length) (bE.mk none 0 0) (bE.mk none 0 0))) U G7 U U<|aK (Je _ _ (aR [1,2,3,4,5,6,7,8,9,12]) ?_)
  refine fK U<|KK Cp<|aw<|bI 1 U<|rS (SX (cw U U) U U)<|rP 3 [] (mc 11 U mn) ?_
  refine mJ (kV:=iV) U U fun H=>?_
  try dsimp only
  obtain ⟨Qr,LT⟩:=aC (dF fb l.ab.length) b I
  have hx41m:(List.map oC (dF fb l.ab.length))[b]? =some (oC Qr):=by rw [gn,LT]; rfl
  refine rS (IA b U (aB (n:=l.ab.length) 13 U sq) yH dc I I) ?_
  have J2:((dF fb l.ab.length).set b (some H))=(dF (fb++[H]) l.ab.length):=by exact r_ I I
  refine gu (k:=b) (o:=0) (vs:=[(Value.map (some H))]) (es':=(List.map oC (dF (fb++[H]) l.ab.length))) (C':=[_,_,_,_,_,_,_,_,_,_,_,_,_,(own (some ⟨B,0,none⟩) l.ab.length 123 1 (List.map oC (dF (fb++[H]) l.ab.length)))]) 13 U U U FJ U U U U hx41m U dc (by exact (List.map_set (f:=oC) (l:=(dF fb l.ab.length)) (i:=b) (a:=(some H))).symm.trans (congrArg _ J2)) U<|aK<|aP<|KK Ci<|aw<|rP 2 [] mn ?_
  refine aK<|zS (X':=bg pS (List.replicate (b+1) ([]:TM)) (fb++[H])) 10 0 U U (E4 W) ?_
  try dsimp only
  have J3:(vI (((b+1):Nat):Int))=(vI ((b:Int)+1)):=by exact cI I
  refine bu (A3 ⟨((b+1),AC,AK,(fb++[H])),⟨I,by simp; omega⟩⟩ _ _ _ U os (cP 8<|bw U J3<|dp.nil _) (aR [2,3,4,5,6,7,8,9,0,10,11,12]))
 refine bQ<|ag<|ag<|aI<|KK A9<|aq fun _ Cx=>WS fun _ C0=>rP 4 [] (mc 1 U mn) ?_
 refine RK C0<|aH ?_
 rw [show (List.replicate b ([]:TM))=cN l r.aa 0 from by rw [xT,show b=l.ab.length by omega]]
 rw [show cu l b=cu l l.ab.length from by rw [show b=l.ab.length by omega]]
 have D:(0≤r.aa.length)∧(oT l r.aa 0):=by exact ⟨Nat.zero_le _,vp⟩
 refine bS (ι:={z:Nat // (z≤r.aa.length)∧(oT l r.aa z)}) [2,3,4,6,7,9,10,83,84] [1,2,3,4,5,6,7,9,10,11] U U (fun z=>[(85,(vI (z.1:Int)))]) (fun z=>[(cz AA 113 (aF.cells (kQ r.aa z.1))),(bM (bg pS (cN l r.aa z.1) fb))]) (fun _=>rfl) (fun _=>rfl) (fun z=>r.aa.length-z.1) ⟨0,D⟩ (bD U) (aR [1,2,3,4,5,6,7,9,10,11,0,8]) ?_
 clear D
 rintro ⟨i,⟨La,A⟩⟩ J46 S
 try dsimp only
 have QS:(cN l r.aa i).length=l.ab.length:=gS
 have Pn:(dF fb l.ab.length).length=l.ab.length:=nE I
 refine WS fun _ C1=>rP 1 [] mn ?_
 refine RK C1<|aq fun _ C2=>bR U (aU fun M2=>?_) (aT fun M2=>?_)
 ·refine bQ<|ag<|ag<|aI<|KK Cx<|aq fun _ Fn=>aq fun _ GE=>?_
  have w:fQ l r:=xB I I A I
  refine aw<|rP 3 [] mn ?_
  refine RK GE<|aH<|rG 1<|kZ fun R81 R1=>WS fun _ GT=>rS (SX (fM (r:= .bool false) U U U qI) U U)<|RK GT<|aq fun _ R0=>cq U<|bQ<|ag<|ag<|aI<|KK Fn<|aq fun _ Go=>?_
  rw [show cN l r.aa i=cN l r.aa r.aa.length from by rw [show i=r.aa.length by omega]]
  have y:(cN l r.aa r.aa.length).length=l.ab.length:=gS
  rw [show (List.map oC (dF fb l.ab.length))=(List.zipWith gF (cN l r.aa r.aa.length) fb) from Tb I y]
  rw [show (cz J 276 (cd.cells (cd.mk (jR l kA kC cA cC bA bC) (iN r sgA sgC) (bE.mk a ((cu l l.ab.length).length) c) (bE.mk (some ⟨B,0,none⟩) l.ab.length l.ab.length) (bE.mk none 0 0) (bE.mk none 0 0))))=(cz J 276 (cd.cells (cd.mk (jR l kA kC cA cC bA bC) (iN r sgA sgC) (bE.mk a ((cu l l.ab.length).length) c) (bE.mk (some ⟨B,0,none⟩) ((cN l r.aa r.aa.length).length) l.ab.length) (bE.mk none 0 0) (bE.mk none 0 0)))) from by rw [y]]
  have LE:=mI LD Z w
  have R2:(cu l l.ab.length).length=l.ab.length:=dv
  refine aw<|rP 1 [] mn ?_
  refine ow 8 U U U U (B6 (jR l kA kC cA cC bA bC) (iN r sgA sgC) (cu l l.ab.length) (cN l r.aa r.aa.length) a c fb (some ⟨B,0,none⟩) l.ab.length J (by exact LE) (by exact dv.symm) (by rw [y]; omega)) U (eC 7 U U (jr sm) (eC 9 U U (jr (by rw [List.length_zipWith]; omega)) (eC 11 U U rL q8))) U (fun Qx Pi=>?_)
  obtain ⟨G,R,O,P,F,N,L,M⟩:=Qx
  refine FH (X:=[(cz J 276 (cd.cells (cd.mk (jR l kA kC cA cC bA bC) (iN r sgA sgC) (bE.mk a ((cu l l.ab.length).length) c) (bE.mk (some ⟨B,0,none⟩) ((cN l r.aa r.aa.length).length) l.ab.length) (bE.mk O G.length P) (bE.mk L F.length M)))),(own O P 279 1 (List.zipWith gF G R)),(bM (bg m_ G R)),(own L M 279 1 (List.zipWith gF F N)),(bM (bg m_ F N))]) 8 U U ?_
  try dsimp only
  obtain ⟨v,K5,K8,LA⟩:=Pi
  dsimp only at v K5 K8 LA
  refine RK Go<|aq fun _ Hi=>WS fun _ H1=>rP 1 [] mn ?_
  refine cX (vt (jR l kA kC cA cC bA bC) (iN r sgA sgC) (cu l l.ab.length) (cN l r.aa r.aa.length) a c fb (some ⟨B,0,none⟩) l.ab.length G F R O P N L M J (by exact LE) (by (simp; omega)) (by exact dv.symm) (by exact v) asm) (aD (aB (n:=(cu l l.ab.length).length) 12 U sm)<|aD (aB (n:=(cN l r.aa r.aa.length).length) 13 U (by rw [List.length_zipWith]; omega))<|aD (dR 15 U lL)<|aD (aB (n:=G.length) 1 U (by rw [List.length_zipWith]; omega))<|aD (dR 2 U lL)<|aD (aB (n:=F.length) 3 U (by rw [List.length_zipWith]; omega))<|aD (dR 4 U lL)<|dM 0 U U<|aL) U fun Q0 R3=>?_
  obtain ⟨R6,Sz⟩:=Q0
  try dsimp only
  refine rP 2 [] mn ?_
  refine RK H1<|bR U (aU fun V=>?_) (aT fun V=>?_)
  ·refine WK Hi<|WS fun _ p=>rP 3 [] mn ?_
   refine RK p<|ar ?_
   refine LX hQ (true,0,J,a,c,(some ⟨B,0,none⟩),l.ab.length,fb,G,R,O,P,F,N,L,M) [1,13,14,16,2,3,4,5] [] mn U (by (show List.all _ _=true; simp only [cond_true,il,List.all_nil,EU,Oc,Bool.and_true]; rfl)) U U ?_
   exact ⟨fun _=>⟨rT E w (by first|rfl|exact h156) (fun q=>V (congrArg (fun z:List Int=>(z.length:Int)) q)),v,K5,K8,LA,dso⟩,Pj⟩
  refine WS fun _ j=>rP 2 [] mn ?_
  refine RK j<|ar<|LX hQ (false,8,0,none,0,none,0,[],[],[],none,0,[],[],none,0) [] [] mn U (by rfl) U U ?_
  exact qF<|sT (tp (me:=0) E w (by first|rfl|exact h156) (show l3 (dx l r)=[] from kx (Int.natCast_eq_zero.1 V)))
 refine WK C2<|aq fun _ T=>aH<|WS fun _ C3=>rP 1 [] mn ?_
 obtain ⟨x,hx⟩:=aC r.aa i I
 have Qh:=bO aF.cells hx
 refine rS (IA i U (ay 6 U) wD dc I I)<|rS (jD i 0 (aF.cells x) U bU (ay 6 U) Qh U dc U U)<|AL U zG fun R8=>bI 1 U<|eN U pj U<|RK C3<|aq fun _ e=>WS fun _ AB=>rP 6 [0,1] (mc 2 U (mc 0 U mn)) ?_
 refine ew (xs:=[.tmp 95]) (cs:=[(vI x.fH)]) U dy j7 U U U U (by simp [Value.cells]) U U fun Lo=>?_
 refine rS (CL (dB.eq (ik 0 ((l.ab.length:Int)-1) ([x.fH]) (some ⟨Lo,0,none⟩) 1 (by (simp; done))) cy) (aD (bx 0 U U (by simp [bP]) U)<|aL) U) ?_
 refine rP 2 [] mn ?_
 refine bT (t:=99) U (aX fun NE=>?_) (aW fun NE=>?_)
 ·refine bI 27 U<|RK AB<|aN U<|WS fun _ Di=>rP 2 [] mn ?_
  refine RK Di<|ar<|LX hQ (false,51,0,none,0,none,0,[],[],[],none,0,[],[],none,0) [] [] mn U (by rfl) U U ?_
  exact qF<|sT (fR (me:=0) E (oN hx (by unfold iT jw; omega)))
 refine rP 2 [] (mc 1 U mn) ?_
 refine ew (xs:=[.tmp 101]) (cs:=[(vI x.Read)]) U dy j7 U U U U (by simp [Value.cells]) U U fun L0=>?_
 refine rS (CL (dB.eq (ik 0 86400000 ([x.Read]) (some ⟨L0,0,none⟩) 1 (by (simp; done))) cy) (aD (bx 0 U U (by simp [bP]) U)<|aL) U) ?_
 refine rP 3 [] mn ?_
 refine bT (t:=106) U (aX fun AO=>?_) (aW fun AO=>?_)
 ·refine bI 20 U<|RK AB<|aN U<|WS fun _ Dj=>rP 2 [] mn ?_
  refine RK Dj<|ar<|LX hQ (false,51,0,none,0,none,0,[],[],[],none,0,[],[],none,0) [] [] mn U (by rfl) U U ?_
  exact qF<|sT (fR (me:=0) E (oN hx (by unfold iT jw; omega)))
 refine rP 7 [0,1] (mc 2 U (mc 13 U mn)) ?_
 refine bT (t:=113) U (aT fun A0=>?_) (aU fun A0=>?_)
 ·refine bI 13 U<|RK AB<|aN U<|WS fun _ Do=>rP 2 [] mn ?_
  refine RK Do<|ar<|LX hQ (false,51,0,none,0,none,0,[],[],[],none,0,[],[],none,0) [] [] mn U (by rfl) U U ?_
  exact qF<|sT (fR (me:=0) E (oN hx (by unfold iT jw; omega)))
 refine rP 6 [0,1] (mc 2 U (mc 13 U mn)) ?_
 refine cG (t:=119) U (aU fun A1=>?_) (aT fun A1=>?_)
 ·refine bI 7 U<|RK AB<|cq U<|WK e<|aq fun _ h=>WS fun _ FS=>eV 2 [0,1] (mc 4 U (mc 2 U mn)) U<|rS (CL (An l kA kC az cA cC bA bC x hin asm I) (bo [5,6,7,8]) U)<|AL U dU fun ST=>eN U cT U<|RK FS<|WS fun _ Fd=>rP 5 [] (mc 0 U mn) ?_
  refine RK Fd<|bR U (aU fun C=>?_) (aT fun C=>?_)
  ·refine WK h<|aw<|rP 1 [] (mc 3 U mn) ?_
   refine g5 (vs:=(aF.cells x)) (cs':=(aF.cells x)) (C':=[_,_,_,_,_,_,_,_,_,_,_,_,_,_,(cz AA 113 (aF.cells x)),_]) 14 U U U pj U U U U U U U<|aK<|aP<|KK T ?_
   have Kl:(aF.cells x)=(aF.cells (kQ r.aa (i+1))):=by rw [kh hx]
   rw [Kl]
   refine aw<|rP 2 [] mn ?_
   refine aK ?_
   rw [show (cN l r.aa i)=(cN l r.aa (i+1)) from (p9 hx C).symm]
   have Kw:(vI (((i+1):Nat):Int))=(vI ((i:Int)+1)):=by exact cI I
   refine bu (S ⟨(i+1),⟨I,jv A hx (by unfold iT jw; omega)⟩⟩ _ _ _ U os (cP 9<|bw U Kw<|dp.nil _) (aR [4,5,6,7,8,9,10,11,12,13,14,15]))
  obtain ⟨mb,Y⟩:=aC (cN l r.aa i) ((x.fH).toNat) I
  obtain ⟨ga,K⟩:=aC fb ((x.fH).toNat) I
  refine zI 15 Y K U U U ?_
  try dsimp only
  refine cW cg 10 kr<|kR 1 U<|dS (SX (cw U U) U U)<|dP 4 [0,1] (mc 14 U (mc 5 U mn)) ?_
  have K4:(List.map oC (dF fb l.ab.length))[(x.fH).toNat]? =some (oC (some ga)):=qD (mQ K)
  refine dS (IA ((x.fH).toNat) U (aB (n:=l.ab.length) 15 U sq) yH dc I I) ?_
  refine dS (gD ((x.fH).toNat) 0 (Value.map (some ga)) U bU (aB (n:=(dF fb l.ab.length).length) 15 U sm) K4 U dc U)<|kv 2 [] (mc 2 U mn) U<|cx<|iY (kV:=iV) (x:=(i:Int)) (C':=[(ku iV ga (cU jW (eB mb (i:Int) (cV l x)))),_,_,_,_,_,_,_,_,_,_,_,_,_,_,_,_]) 0 U U U U sX (iJ qn) U (gR _ _ _ _).symm U<|RK h<|aw<|rP 1 [] (mc 5 U mn) ?_
  refine g5 (vs:=(aF.cells x)) (cs':=(aF.cells x)) (C':=[_,_,_,_,_,_,_,_,_,_,_,_,_,_,_,_,(cz AA 113 (aF.cells x))]) 16 U U U pj U U U U U U U<|aK<|aP<|KK T ?_
  have J8:(aF.cells x)=(aF.cells (kQ r.aa (i+1))):=by rw [kh hx]
  rw [J8]
  refine aw<|rP 2 [] mn ?_
  refine aK ?_
  refine z6 (f:=pS) (ms:=(cN l r.aa i)) (m:=(eB mb (i:Int) (cV l x))) 1 0 (by rw [gS]; omega) K U U U ?_
  rw [sx hx I C Y]
  have J9:(vI (((i+1):Nat):Int))=(vI ((i:Int)+1)):=by exact cI I
  refine bu (S ⟨(i+1),⟨I,jv A hx (by unfold iT jw; omega)⟩⟩ _ _ _ U os (cP 9<|bw U J9<|dp.nil _) (aR [5,6,7,8,9,10,11,12,13,14,15,0]))
 refine rP 7 [0,1] (mc 2 U (mc 13 U mn)) ?_
 refine RK AB<|ck U (aT fun A2=>?_) (aU fun A2=>?_)
 ·refine WS fun _ EQ=>rP 2 [] mn ?_
  refine RK EQ<|ar<|LX hQ (false,51,0,none,0,none,0,[],[],[],none,0,[],[],none,0) [] [] mn U (by rfl) U U ?_
  exact qF<|sT (fR (me:=0) E (oN hx (by unfold iT jw; omega)))
 refine WK e<|aq fun _ g=>WS fun _ Eq=>eV 2 [0,1] (mc 4 U (mc 2 U mn)) U<|rS (CL (An l kA kC az cA cC bA bC x hin asm I) (bo [5,6,7,8]) U)<|AL U dU fun R9=>eN U cT U<|RK Eq<|WS fun _ FQ=>rP 5 [] (mc 0 U mn) ?_
 refine RK FQ<|bR U (aU fun C=>?_) (aT fun C=>?_)
 ·refine WK g<|aw<|rP 1 [] (mc 3 U mn) ?_
  refine g5 (vs:=(aF.cells x)) (cs':=(aF.cells x)) (C':=[_,_,_,_,_,_,_,_,_,_,_,_,_,_,(cz AA 113 (aF.cells x)),_]) 14 U U U pj U U U U U U U<|aK<|aP<|KK T ?_
  have J6:(aF.cells x)=(aF.cells (kQ r.aa (i+1))):=by rw [kh hx]
  rw [J6]
  refine aw<|rP 2 [] mn ?_
  refine aK ?_
  rw [show (cN l r.aa i)=(cN l r.aa (i+1)) from (p9 hx C).symm]
  have J7:(vI (((i+1):Nat):Int))=(vI ((i:Int)+1)):=by exact cI I
  refine bu (S ⟨(i+1),⟨I,jv A hx (by unfold iT jw; omega)⟩⟩ _ _ _ U os (cP 9<|bw U J7<|dp.nil _) (aR [4,5,6,7,8,9,10,11,12,13,14,15]))
 obtain ⟨mb,Y⟩:=aC (cN l r.aa i) ((x.fH).toNat) I
 obtain ⟨ga,K⟩:=aC fb ((x.fH).toNat) I
 refine zI 15 Y K U U U ?_
 try dsimp only
 refine cW cg 10 kr<|kR 1 U<|dS (SX (cw U U) U U)<|dP 4 [0,1] (mc 14 U (mc 5 U mn)) ?_
 have K0:(List.map oC (dF fb l.ab.length))[(x.fH).toNat]? =some (oC (some ga)):=qD (mQ K)
 refine dS (IA ((x.fH).toNat) U (aB (n:=l.ab.length) 15 U sq) yH dc I I) ?_
 refine dS (gD ((x.fH).toNat) 0 (Value.map (some ga)) U bU (aB (n:=(dF fb l.ab.length).length) 15 U sm) K0 U dc U)<|kv 2 [] (mc 2 U mn) U<|cx<|iY (kV:=iV) (x:=(i:Int)) (C':=[(ku iV ga (cU jW (eB mb (i:Int) (cV l x)))),_,_,_,_,_,_,_,_,_,_,_,_,_,_,_,_]) 0 U U U U sX (iJ qn) U (gR _ _ _ _).symm U<|RK g<|aw<|rP 1 [] (mc 5 U mn) ?_
 refine g5 (vs:=(aF.cells x)) (cs':=(aF.cells x)) (C':=[_,_,_,_,_,_,_,_,_,_,_,_,_,_,_,_,(cz AA 113 (aF.cells x))]) 16 U U U pj U U U U U U U<|aK<|aP<|KK T ?_
 have J4:(aF.cells x)=(aF.cells (kQ r.aa (i+1))):=by rw [kh hx]
 rw [J4]
 refine aw<|rP 2 [] mn ?_
 refine aK ?_
 refine z6 (f:=pS) (ms:=(cN l r.aa i)) (m:=(eB mb (i:Int) (cV l x))) 1 0 (by rw [gS]; omega) K U U U ?_
 rw [sx hx I C Y]
 have J5:(vI (((i+1):Nat):Int))=(vI ((i:Int)+1)):=by exact cI I
 refine bu (S ⟨(i+1),⟨I,jv A hx (by unfold iT jw; omega)⟩⟩ _ _ _ U os (cP 9<|bw U J5<|dp.nil _) (aR [5,6,7,8,9,10,11,12,13,14,15,0]))
end
section
open Go.RowKit
theorem Nf (l:bH) (kA:OA) (kC:Nat) (az:List RA) (cA:OA) (cC:Nat) (bA:OA) (bC:Nat) (r:c_) (sgA:OA) (sgC:Nat) (f:Value) (X:aA) (me:Int) (gm:Nat) (hf:D4 Tryz.prog f [] [X] (.int .i64 me)) (hin:ej l az) (hsl:r.aa.length≤1000000):
 nG Tryz.prog 147 [(vA (cm.cells (jR l kA kC cA cC bA bC))),(vA (cL.cells (iN r sgA sgC))),(vS (some ⟨gm,0,none⟩) 1 1)] [(rd kA l.aO.length 9 (l.aO.map au.cells)),(rd cA l.aj.length 2 (List.zipWith ax.cells l.aj az)),(dE (bg ax.e_ l.aj az)),(rd bA l.ab.length 4 (l.ab.map bK.cells)),(rd sgA r.aa.length 2 (r.aa.map aF.cells)),X,(cz gm 231 [f])] (fun (x:Bool×Int×Nat×(OA)×Nat×(OA)×Nat×(List Nat)×(List FM)×(List Nat)×(OA)×Nat×(List FM)×(List Nat)×(OA)×Nat)=>bif x.1 then (vT [(Value.pointer (some ⟨x.2.2.1,0,none⟩)),(vI 0)]) else (vT [(Value.pointer none),(vI x.2.1)])) (fun (x:Bool×Int×Nat×(OA)×Nat×(OA)×Nat×(List Nat)×(List FM)×(List Nat)×(OA)×Nat×(List FM)×(List Nat)×(OA)×Nat)=>(x.1=true→(fu l r me=0∧wg (dx l r) x.2.2.2.2.2.2.2.2.1∧tO (dx l r) x.2.2.2.2.2.2.2.2.2.2.2.2.1∧x.2.2.2.2.2.2.2.2.2.1.length=x.2.2.2.2.2.2.2.2.1.length∧x.2.2.2.2.2.2.2.2.2.2.2.2.2.1.length=x.2.2.2.2.2.2.2.2.2.2.2.2.1.length∧x.2.2.2.2.2.2.2.1.length=(cN l r.aa r.aa.length).length))∧(x.1=false→(x.2.1=fu l r me∧ ¬ fu l r me=0))) (fun (x:Bool×Int×Nat×(OA)×Nat×(OA)×Nat×(List Nat)×(List FM)×(List Nat)×(OA)×Nat×(List FM)×(List Nat)×(OA)×Nat)=>bif x.1 then [(cz x.2.2.1 276 (cd.cells (cd.mk (jR l kA kC cA cC bA bC) (iN r sgA sgC) (bE.mk x.2.2.2.1 ((cu l l.ab.length).length) x.2.2.2.2.1) (bE.mk x.2.2.2.2.2.1 ((cN l r.aa r.aa.length).length) x.2.2.2.2.2.2.1) (bE.mk x.2.2.2.2.2.2.2.2.2.2.1 x.2.2.2.2.2.2.2.2.1.length x.2.2.2.2.2.2.2.2.2.2.2.1) (bE.mk x.2.2.2.2.2.2.2.2.2.2.2.2.2.2.1 x.2.2.2.2.2.2.2.2.2.2.2.2.1.length x.2.2.2.2.2.2.2.2.2.2.2.2.2.2.2)))),(own x.2.2.2.1 x.2.2.2.2.1 3 1 ((cu l l.ab.length).map iC)),(own x.2.2.2.2.2.1 x.2.2.2.2.2.2.1 123 1 (List.zipWith gF (cN l r.aa r.aa.length) x.2.2.2.2.2.2.2.1)),(bM (bg pS (cN l r.aa r.aa.length) x.2.2.2.2.2.2.2.1)),(own x.2.2.2.2.2.2.2.2.2.2.1 x.2.2.2.2.2.2.2.2.2.2.2.1 279 1 (List.zipWith gF x.2.2.2.2.2.2.2.2.1 x.2.2.2.2.2.2.2.2.2.1)),(bM (bg m_ x.2.2.2.2.2.2.2.2.1 x.2.2.2.2.2.2.2.2.2.1)),(own x.2.2.2.2.2.2.2.2.2.2.2.2.2.2.1 x.2.2.2.2.2.2.2.2.2.2.2.2.2.2.2 279 1 (List.zipWith gF x.2.2.2.2.2.2.2.2.2.2.2.2.1 x.2.2.2.2.2.2.2.2.2.2.2.2.2.1)),(bM (bg m_ x.2.2.2.2.2.2.2.2.2.2.2.2.1 x.2.2.2.2.2.2.2.2.2.2.2.2.2.1))] else []):=by
 have VC:=hin.rW
 have UV:=hin.sG
 have T9:=hin.ly
 have UN:=hin.se
 have U1:=hin.side
 refine eO kr Tryz.func147 U U fun w0 Q hQ hN=>?_
 try dsimp only
 refine WS fun _ Qr=>eJ U fun b2=>eJ U fun b3=>bI 2 U<|RK Qr<|aq fun _ Qx=>WS fun _ Q0=>eV 1 [] (mc 1 U mn) U<|rS (CL (wY l kA kC az cA cC bA bC hin) (bo [2,3,4,5]) U)<|bI 1 U<|RK Q0<|WS fun _ R0=>rP 2 [] mn ?_
 refine RK R0<|ck U (aX fun h=>?_) (aW fun h=>?_)
 ·refine WS fun _ R1=>rP 3 [] mn ?_
  refine RK R1<|ar<|LX hQ (false,(eT l),0,none,0,none,0,[],[],[],none,0,[],[],none,0) [] [] mn U (by rfl) U U ?_
  exact qF<|QZ (mS (r:=r) (me:=me) h) h
 refine WK Qx<|aq fun _ R2=>WS fun _ AK=>?_
 have C:eT l=0:=h
 obtain ⟨L3,d⟩:=eh C
 have R4:=d.head
 unfold eZ at R4
 refine rP 2 [] (mc 0 U mn) ?_
 refine ew (xs:=[.tmp 24]) (cs:=[(vI r.Start)]) U dy j7 U U U U (by simp [Value.cells]) U U fun Op=>?_
 refine rS (CL (dB.eq (ik 0 86400000 ([r.Start]) (some ⟨Op,0,none⟩) 1 (by (simp; done))) cy) (aD (bx 0 U U (by simp [bP]) U)<|aL) U) ?_
 refine rP 2 [] mn ?_
 refine bT (t:=28) U (aX fun PP=>?_) (aW fun PP=>?_)
 ·refine bI 14 U<|RK AK<|aN U<|WS fun _ A7=>rP 2 [] mn ?_
  refine RK A7<|ar<|LX hQ (false,51,0,none,0,none,0,[],[],[],none,0,[],[],none,0) [] [] mn U (by rfl) U U ?_
  exact qF<|sT (fR (me:=me) C (fun q:fQ l r=>by have q1:=q.time; have q2:=q.len; omega))
 refine rP 4 [] (mc 1 U mn) ?_
 refine ew (xs:=[.tmp 32]) (cs:=[(vI r.gj)]) U dy j7 U U U U (by simp [Value.cells]) U U fun Or=>?_
 refine rS (CL (dB.eq (ik r.Start 86400000 ([r.gj]) (some ⟨Or,0,none⟩) 1 (by (simp; done))) cy) (aD (bx 0 U U (by simp [bP]) U)<|aL) U) ?_
 refine rP 3 [] mn ?_
 refine bT (t:=37) U (aX fun Pl=>?_) (aW fun Pl=>?_)
 ·refine bI 5 U<|RK AK<|aN U<|WS fun _ A8=>rP 2 [] mn ?_
  refine RK A8<|ar<|LX hQ (false,51,0,none,0,none,0,[],[],[],none,0,[],[],none,0) [] [] mn U (by rfl) U U ?_
  exact qF<|sT (fR (me:=me) C (fun q:fQ l r=>by have q1:=q.time; have q2:=q.len; omega))
 refine rP 5 [] (mc 2 U mn) ?_
 refine RK AK<|ck U (aT fun Pn=>?_) (aU fun Pn=>?_)
 ·refine WS fun _ A9=>rP 2 [] mn ?_
  refine RK A9<|ar<|LX hQ (false,51,0,none,0,none,0,[],[],[],none,0,[],[],none,0) [] [] mn U (by rfl) U U ?_
  exact qF<|sT (fR (me:=me) C (fun q:fQ l r=>by have q1:=q.time; have q2:=q.len; omega))
 refine WK R2<|WS fun _ B3=>rS (SX (bp (xs:=[(0,.const (vI (-1)))]) (cs:=(aF.cells (aF.mk (-1) 0))) U U (bq Bi U)) U U)<|AL U zG fun V=>eN U pj U<|RK B3<|aq fun _ B9=>dH cg [5,6,7,8] [] [] [0,1,2,3,4,5,6,7,8,9,10,11] [] U U U U U<|eS U (LW 4 U bU U U)<|eS U (LW 3 U bU U U)<|eS U (FA 3 U eU U)<|eS U (L1 (vS bA l.ab.length bC) 4 U bU U U)<|eS U (LN U Nj)<|eo U<|cp U fun T18 J4=>?_
 refine wa (n:=l.ab.length) (es:=(List.map oC (List.replicate l.ab.length (none:Option Nat)))) U U U OU I I (by simp only [maxLen]; omega) (by rw [List.map_replicate]; rfl) U fun B=>?_
 try dsimp only
 refine aK (J4 _ _ (aR [1,2,3,4,5,6,7,8,9,10,11,12]) ?_)
 refine cp U fun T20 J5=>rS (SX (bp (xs:=[(0,.tmp 44),(1,.tmp 45),(3,.tmp 49)]) (cs:=(cd.cells (cd.mk (jR l kA kC cA cC bA bC) (iN r sgA sgC) (bE.mk none 0 0) (bE.mk (some ⟨B,0,none⟩) l.ab.length l.ab.length) (bE.mk none 0 0) (bE.mk none 0 0)))) U U (bq Ow U)) U U)<|aK (J5 _ _ (aR [1,2,3,4,5,6,7,8,9,10,11,12]) ?_)
 refine cp U fun T21 J6=>eJ U fun AB=>aK (J6 _ _ (aR [2,3,4,5,6,7,8,9,10,11,12,13]) ?_)
 refine cp U fun T23 J7=>rS (AG U)<|aK (J7 _ _ (aR [2,3,4,5,6,7,8,9,10,11,12,13]) ?_)
 refine fK U<|KK B9<|aq fun _ CC=>WS fun _ Ci=>rP 4 [] (mc 6 U mn) ?_
 refine RK Ci<|aH ?_
 rw [vL]
 refine eX 3 1<|nN ?_
 have E:(0≤l.ab.length)∧(([]:List Nat).length=0):=by exact ⟨Nat.zero_le _,rfl⟩
 refine bS (ι:={z:Nat×(OA)×Nat×(List Nat) // (z.1≤l.ab.length)∧(z.2.2.2.length=z.1)}) [2,3,4,6,7,9,10,54] [4,7,8,9,10,11,12,13,14,15] U U (fun z=>[(55,(vI (z.1.1:Int)))]) (fun z=>[(bM (bg pS (List.replicate z.1.1 ([]:TM)) z.1.2.2.2)),(own z.1.2.1 z.1.2.2.1 3 1 ((cu l z.1.1).map iC)),(cz AB 276 (cd.cells (cd.mk (jR l kA kC cA cC bA bC) (iN r sgA sgC) (bE.mk z.1.2.1 ((cu l z.1.1).length) z.1.2.2.1) (bE.mk (some ⟨B,0,none⟩) l.ab.length l.ab.length) (bE.mk none 0 0) (bE.mk none 0 0)))),(own (some ⟨B,0,none⟩) l.ab.length 123 1 (List.map oC (dF z.1.2.2.2 l.ab.length)))]) (fun _=>rfl) (fun _=>rfl) (fun z=>l.ab.length-z.1.1) ⟨(0,none,0,([]:List Nat)),E⟩ (bD U) (aR [4,7,8,9,10,11,12,13,14,15,0,1,2,3]) ?_
 clear E
 rintro ⟨⟨b,a,c,fb⟩,⟨AO,Y⟩⟩ J26 A6
 try dsimp only at AO Y
 try dsimp only
 have R5:(dF fb l.ab.length).length=l.ab.length:=nE I
 refine WS fun _ Ck=>rP 1 [] mn ?_
 refine RK Ck<|aq fun _ Cp=>ck U (aT fun Pi=>?_) (aU fun Pi=>?_)
 ·refine WK Cp<|aq fun _ Cx=>aH<|WS fun _ C0=>rP 2 [] mn ?_
  refine RK C0<|aq fun _ C1=>dH cg [12,13,16] [4] [0] [0,1,2,3,4,5,6,7,8,9,10,13] [0,1,2,3,4,5,6,7,8,9,10,11,12,13] U U U U U<|eS U (MV U)<|eS U (MV U)<|eS U (SX (cw U U) U U)<|eS U (FA 10 U eU U)<|fS U (L1 (vS a ((cu l b).length) c) 12 U bU U U)<|eS U (LW 2 U bU U U)<|eS U (MV U)<|eS U (CL (Jd l kA kC az cA cC bA bC (b:Int) hin asm (by exact d.vl) I) (bo [3,4,5,6]) U) ?_
  have VO:=Cy L3 d.vl b
  have VT:=d.Ps b I
  simp only [Int.toNat_natCast]
  refine eS U (BI U (uT ⟨I,I⟩))<|eS U (FA 1 U eU U)<|eS U (L1 (vI l.h_) 2 U bU U U) ?_
  refine eS U (CL (JD (1000*(lH l (b:Int).toNat)) l.h_ I (by (simp; omega))) (aL) U) ?_
  refine eS U (SX (cw U U) U U)<|eS U (FA 10 U eU U)<|eo U<|iP U fun T33 J8=>ew (xs:=[.tmp 69]) (cs:=[(vI (o1 (1000*(lH l (b:Int).toNat)) l.h_))]) U dy j7 U U U U (by simp [Value.cells]) U U fun T5=>aK (J8 _ _ (aR [1,2,3,4,5,6,7,8,9,10,11,14]) (aR [1,2,3,4,5,6,7,8,9,10,11,12,13,14]) ?_)
  refine cp U fun T35 J9=>?_
  refine ed (es2:=(List.map iC (cu l (b+1)))) (m':=(cu l (b+1)).length) 12 U U U te U U (by simp [dv]) (bx (es:=List.map iC [(o1 (1000*(lH l (b:Int).toNat)) l.h_)]) 0 U U (by simp [bP]) U) (lU _) (by have:=dv (l:=l) (n:=b); first|omega|(simp; omega)) (by simp only [maxLen,dv]; omega) (by rw [rD]; simp [eE]) (by simp [dv]) U fun e g=>?_
  try dsimp only
  refine aK (J9 _ _ (aR [1,2,3,4,5,6,7,8,9,10,11,14]) ?_)
  refine cp U fun T38 Kl=>g5 (vs:=[(vS e ((cu l (b+1)).length) g)]) (cs':=(cd.cells (cd.mk (jR l kA kC cA cC bA bC) (iN r sgA sgC) (bE.mk e ((cu l (b+1)).length) g) (bE.mk (some ⟨B,0,none⟩) l.ab.length l.ab.length) (bE.mk none 0 0) (bE.mk none 0 0)))) (C':=[_,_,_,_,_,_,_,_,_,_,_,_,_,(cz AB 276 (cd.cells (cd.mk (jR l kA kC cA cC bA bC) (iN r sgA sgC) (bE.mk e ((cu l (b+1)).length) g) (bE.mk (some ⟨B,0,none⟩) l.ab.length l.ab.length) (bE.mk none 0 0) (bE.mk none 0 0)))),_]) 13 U U U G7 U U U U U U U<|aK (Kl _ _ (aR [1,2,3,4,5,6,7,8,9,10,11,14]) ?_)
  refine fK U<|KK C1<|aw<|bI 1 U<|rS (SX (cw U U) U U)<|rP 3 [] (mc 13 U mn) ?_
  refine mJ (kV:=iV) U U fun J=>?_
  try dsimp only
  obtain ⟨R9,MQ⟩:=aC (dF fb l.ab.length) b I
  have hx41m:(List.map oC (dF fb l.ab.length))[b]? =some (oC R9):=by rw [gn,MQ]; rfl
  refine rS (IA b U (aB (n:=l.ab.length) 15 U sq) yH dc I I) ?_
  have Kw:((dF fb l.ab.length).set b (some J))=(dF (fb++[J]) l.ab.length):=by exact r_ I I
  refine gu (k:=b) (o:=0) (vs:=[(Value.map (some J))]) (es':=(List.map oC (dF (fb++[J]) l.ab.length))) (C':=[_,_,_,_,_,_,_,_,_,_,_,_,_,_,_,(own (some ⟨B,0,none⟩) l.ab.length 123 1 (List.map oC (dF (fb++[J]) l.ab.length)))]) 15 U U U FJ U U U U hx41m U dc (by exact (List.map_set (f:=oC) (l:=(dF fb l.ab.length)) (i:=b) (a:=(some J))).symm.trans (congrArg _ Kw)) U<|aK<|aP<|KK Cx<|aw<|rP 2 [] mn ?_
  refine aK<|zS (X':=bg pS (List.replicate (b+1) ([]:TM)) (fb++[J])) 12 0 U U (E4 Y) ?_
  try dsimp only
  have K0:(vI (((b+1):Nat):Int))=(vI ((b:Int)+1)):=by exact cI I
  refine bu (A6 ⟨((b+1),e,g,(fb++[J])),⟨I,by simp; omega⟩⟩ _ _ _ U os (cP 8<|bw U K0<|dp.nil _) (aR [2,3,4,5,6,7,8,9,10,11,0,12,13,14]))
 refine bQ<|ag<|ag<|aI<|KK CC<|aq fun _ C2=>WS fun _ C3=>rP 4 [] (mc 1 U mn) ?_
 refine RK C3<|aH ?_
 rw [show (List.replicate b ([]:TM))=cN l r.aa 0 from by rw [xT,show b=l.ab.length by omega]]
 rw [show cu l b=cu l l.ab.length from by rw [show b=l.ab.length by omega]]
 have E:(0≤r.aa.length)∧(oT l r.aa 0):=by exact ⟨Nat.zero_le _,vp⟩
 refine bS (ι:={z:Nat // (z≤r.aa.length)∧(oT l r.aa z)}) [2,3,4,6,7,9,10,83,84] [1,2,3,4,5,6,7,8,9,11,12,13] U U (fun z=>[(85,(vI (z.1:Int)))]) (fun z=>[(cz V 113 (aF.cells (kQ r.aa z.1))),(bM (bg pS (cN l r.aa z.1) fb))]) (fun _=>rfl) (fun _=>rfl) (fun z=>r.aa.length-z.1) ⟨0,E⟩ (bD U) (aR [1,2,3,4,5,6,7,8,9,11,12,13,0,10]) ?_
 clear E
 rintro ⟨i,⟨Ne,A⟩⟩ J46 T
 try dsimp only
 have R6:(cN l r.aa i).length=l.ab.length:=gS
 have R5:(dF fb l.ab.length).length=l.ab.length:=nE I
 refine WS fun _ Di=>rP 1 [] mn ?_
 refine RK Di<|aq fun _ Dj=>bR U (aU fun QS=>?_) (aT fun QS=>?_)
 ·refine bQ<|ag<|ag<|aI<|KK C2<|aq fun _ Go=>aq fun _ Hi=>?_
  have j:fQ l r:=xB I I A I
  refine aw<|bI 3 U<|RK Hi<|aH<|rG 2<|kZ fun R81 J3=>WS fun _ H1=>rS (SX (fM (r:= .bool true) U U U qI) U U)<|RK H1<|aq fun _ IO=>aN U<|WK IO<|aq fun _ IR=>aH<|WS fun _ Id=>rS (VR 0 0 U OW U dc U)<|eV 2 [] (mr 8 U mn) U<|RK Id<|WS fun _ If=>bI 1 U<|rS (SX (qi U U U (hf) (bo [7])) U U)<|bI 1 U<|RK If<|WS fun _ In=>rP 2 [] mn ?_
  refine RK In<|ck U (aX fun K=>?_) (aW fun K=>?_)
  ·refine WS fun _ I0=>rP 3 [] mn ?_
   refine RK I0<|ar<|LX hQ (false,me,0,none,0,none,0,[],[],[],none,0,[],[],none,0) [] [] mn U (by rfl) U U ?_
   exact qF<|QZ (C6 C j K) K
  refine cj<|aP<|KK IR<|aw<|rS (SX (fM (r:= .int .i64 1) U U U (oP ⟨dc,dc⟩)) U U)<|rP 1 [] mn ?_
  refine RK J3<|kZ fun R89 S2=>WS fun _ Je=>rS (SX (fM (r:= .bool false) U U U qI) U U)<|RK Je<|aq fun _ S1=>cq U<|bQ<|ag<|ag<|aI<|KK Go<|aq fun _ J2=>?_
  rw [show cN l r.aa i=cN l r.aa r.aa.length from by rw [show i=r.aa.length by omega]]
  have A1:(cN l r.aa r.aa.length).length=l.ab.length:=gS
  rw [show (List.map oC (dF fb l.ab.length))=(List.zipWith gF (cN l r.aa r.aa.length) fb) from Tb I A1]
  rw [show (cz AB 276 (cd.cells (cd.mk (jR l kA kC cA cC bA bC) (iN r sgA sgC) (bE.mk a ((cu l l.ab.length).length) c) (bE.mk (some ⟨B,0,none⟩) l.ab.length l.ab.length) (bE.mk none 0 0) (bE.mk none 0 0))))=(cz AB 276 (cd.cells (cd.mk (jR l kA kC cA cC bA bC) (iN r sgA sgC) (bE.mk a ((cu l l.ab.length).length) c) (bE.mk (some ⟨B,0,none⟩) ((cN l r.aa r.aa.length).length) l.ab.length) (bE.mk none 0 0) (bE.mk none 0 0)))) from by rw [A1]]
  have MI:=mI L3 d j
  have To:(cu l l.ab.length).length=l.ab.length:=dv
  refine aw<|rP 1 [] mn ?_
  refine ow 10 U U U U (B6 (jR l kA kC cA cC bA bC) (iN r sgA sgC) (cu l l.ab.length) (cN l r.aa r.aa.length) a c fb (some ⟨B,0,none⟩) l.ab.length AB (by exact MI) (by exact dv.symm) (by rw [A1]; omega)) U (eC 9 U U (jr sm) (eC 11 U U (jr (by rw [List.length_zipWith]; omega)) (eC 13 U U rL q8))) U (fun M2 R3=>?_)
  obtain ⟨G,S,P,R,F,O,N,H⟩:=M2
  refine FH (X:=[(cz AB 276 (cd.cells (cd.mk (jR l kA kC cA cC bA bC) (iN r sgA sgC) (bE.mk a ((cu l l.ab.length).length) c) (bE.mk (some ⟨B,0,none⟩) ((cN l r.aa r.aa.length).length) l.ab.length) (bE.mk P G.length R) (bE.mk N F.length H)))),(own P R 279 1 (List.zipWith gF G S)),(bM (bg m_ G S)),(own N H 279 1 (List.zipWith gF F O)),(bM (bg m_ F O))]) 10 U U ?_
  try dsimp only
  obtain ⟨A0,Lo,L0,L2⟩:=R3
  dsimp only at A0 Lo L0 L2
  refine RK J2<|aq fun _ v=>WS fun _ w=>rP 1 [] mn ?_
  refine cX (vt (jR l kA kC cA cC bA bC) (iN r sgA sgC) (cu l l.ab.length) (cN l r.aa r.aa.length) a c fb (some ⟨B,0,none⟩) l.ab.length G F S P R O N H AB (by exact MI) (by (simp; omega)) (by exact dv.symm) (by exact A0) asm) (aD (aB (n:=(cu l l.ab.length).length) 14 U sm)<|aD (aB (n:=(cN l r.aa r.aa.length).length) 15 U (by rw [List.length_zipWith]; omega))<|aD (dR 17 U lL)<|aD (aB (n:=G.length) 1 U (by rw [List.length_zipWith]; omega))<|aD (dR 2 U lL)<|aD (aB (n:=F.length) 3 U (by rw [List.length_zipWith]; omega))<|aD (dR 4 U lL)<|dM 0 U U<|aL) U fun NE R8=>?_
  obtain ⟨ST,Sz⟩:=NE
  try dsimp only
  refine rP 2 [] mn ?_
  refine RK w<|bR U (aU fun W=>?_) (aT fun W=>?_)
  ·refine WK v<|WS fun _ AC=>rP 3 [] mn ?_
   refine RK AC<|ar ?_
   refine LX hQ (true,0,AB,a,c,(some ⟨B,0,none⟩),l.ab.length,fb,G,S,P,R,F,O,N,H) [1,15,16,18,2,3,4,5] [] mn U (by (show List.all _ _=true; simp only [cond_true,il,List.all_nil,EU,Oc,Bool.and_true]; rfl)) U U ?_
   exact ⟨fun _=>⟨rT C j (by first|rfl|exact K) (fun q=>W (congrArg (fun z:List Int=>(z.length:Int)) q)),A0,Lo,L0,L2,dso⟩,Pj⟩
  refine WS fun _ y=>rP 2 [] mn ?_
  refine RK y<|ar<|LX hQ (false,8,0,none,0,none,0,[],[],[],none,0,[],[],none,0) [] [] mn U (by rfl) U U ?_
  exact qF<|sT (tp (me:=me) C j (by first|rfl|exact K) (show l3 (dx l r)=[] from kx (Int.natCast_eq_zero.1 W)))
 refine WK Dj<|aq fun _ AA=>aH<|WS fun _ Do=>rP 1 [] mn ?_
 obtain ⟨x,hx⟩:=aC r.aa i I
 have R7:=bO aF.cells hx
 refine rS (IA i U (ay 6 U) wD dc I I)<|rS (jD i 0 (aF.cells x) U bU (ay 6 U) R7 U dc U U)<|AL U zG fun T6=>bI 1 U<|eN U pj U<|RK Do<|aq fun _ p=>WS fun _ L=>rP 6 [0,1] (mc 2 U (mc 0 U mn)) ?_
 refine ew (xs:=[.tmp 95]) (cs:=[(vI x.fH)]) U dy j7 U U U U (by simp [Value.cells]) U U fun Os=>?_
 refine rS (CL (dB.eq (ik 0 ((l.ab.length:Int)-1) ([x.fH]) (some ⟨Os,0,none⟩) 1 (by (simp; done))) cy) (aD (bx 0 U U (by simp [bP]) U)<|aL) U) ?_
 refine rP 2 [] mn ?_
 refine bT (t:=99) U (aX fun Qh=>?_) (aW fun Qh=>?_)
 ·refine bI 27 U<|RK L<|aN U<|WS fun _ EQ=>rP 2 [] mn ?_
  refine RK EQ<|ar<|LX hQ (false,51,0,none,0,none,0,[],[],[],none,0,[],[],none,0) [] [] mn U (by rfl) U U ?_
  exact qF<|sT (fR (me:=me) C (oN hx (by unfold iT jw; omega)))
 refine rP 2 [] (mc 1 U mn) ?_
 refine ew (xs:=[.tmp 101]) (cs:=[(vI x.Read)]) U dy j7 U U U U (by simp [Value.cells]) U U fun O8=>?_
 refine rS (CL (dB.eq (ik 0 86400000 ([x.Read]) (some ⟨O8,0,none⟩) 1 (by (simp; done))) cy) (aD (bx 0 U U (by simp [bP]) U)<|aL) U) ?_
 refine rP 3 [] mn ?_
 refine bT (t:=106) U (aX fun A2=>?_) (aW fun A2=>?_)
 ·refine bI 20 U<|RK L<|aN U<|WS fun _ Eq=>rP 2 [] mn ?_
  refine RK Eq<|ar<|LX hQ (false,51,0,none,0,none,0,[],[],[],none,0,[],[],none,0) [] [] mn U (by rfl) U U ?_
  exact qF<|sT (fR (me:=me) C (oN hx (by unfold iT jw; omega)))
 refine rP 7 [0,1] (mc 2 U (mc 15 U mn)) ?_
 refine bT (t:=113) U (aT fun A3=>?_) (aU fun A3=>?_)
 ·refine bI 13 U<|RK L<|aN U<|WS fun _ FQ=>rP 2 [] mn ?_
  refine RK FQ<|ar<|LX hQ (false,51,0,none,0,none,0,[],[],[],none,0,[],[],none,0) [] [] mn U (by rfl) U U ?_
  exact qF<|sT (fR (me:=me) C (oN hx (by unfold iT jw; omega)))
 refine rP 6 [0,1] (mc 2 U (mc 15 U mn)) ?_
 refine cG (t:=119) U (aU fun A4=>?_) (aT fun A4=>?_)
 ·refine bI 7 U<|RK L<|cq U<|WK p<|aq fun _ u=>WS fun _ GE=>eV 2 [0,1] (mc 4 U (mc 2 U mn)) U<|rS (CL (An l kA kC az cA cC bA bC x hin asm I) (bo [5,6,7,8]) U)<|AL U dU fun T8=>eN U cT U<|RK GE<|WS fun _ GT=>rP 5 [] (mc 0 U mn) ?_
  refine RK GT<|bR U (aU fun D=>?_) (aT fun D=>?_)
  ·refine WK u<|aw<|rP 1 [] (mc 3 U mn) ?_
   refine g5 (vs:=(aF.cells x)) (cs':=(aF.cells x)) (C':=[_,_,_,_,_,_,_,_,_,_,_,_,_,_,_,_,(cz V 113 (aF.cells x)),_]) 16 U U U pj U U U U U U U<|aK<|aP<|KK AA ?_
   have LT:(aF.cells x)=(aF.cells (kQ r.aa (i+1))):=by rw [kh hx]
   rw [LT]
   refine aw<|rP 2 [] mn ?_
   refine aK ?_
   rw [show (cN l r.aa i)=(cN l r.aa (i+1)) from (p9 hx D).symm]
   have La:(vI (((i+1):Nat):Int))=(vI ((i:Int)+1)):=by exact cI I
   refine bu (T ⟨(i+1),⟨I,jv A hx (by unfold iT jw; omega)⟩⟩ _ _ _ U os (cP 9<|bw U La<|dp.nil _) (aR [4,5,6,7,8,9,10,11,12,13,14,15,16,17]))
  obtain ⟨mb,Z⟩:=aC (cN l r.aa i) ((x.fH).toNat) I
  obtain ⟨ga,M⟩:=aC fb ((x.fH).toNat) I
  refine zI 17 Z M U U U ?_
  try dsimp only
  refine cW cg 10 kr<|kR 1 U<|dS (SX (cw U U) U U)<|dP 4 [0,1] (mc 16 U (mc 5 U mn)) ?_
  have Lk:(List.map oC (dF fb l.ab.length))[(x.fH).toNat]? =some (oC (some ga)):=qD (mQ M)
  refine dS (IA ((x.fH).toNat) U (aB (n:=l.ab.length) 17 U sq) yH dc I I) ?_
  refine dS (gD ((x.fH).toNat) 0 (Value.map (some ga)) U bU (aB (n:=(dF fb l.ab.length).length) 17 U sm) Lk U dc U)<|kv 2 [] (mc 2 U mn) U<|cx<|iY (kV:=iV) (x:=(i:Int)) (C':=[(ku iV ga (cU jW (eB mb (i:Int) (cV l x)))),_,_,_,_,_,_,_,_,_,_,_,_,_,_,_,_,_,_]) 0 U U U U sX (iJ qn) U (gR _ _ _ _).symm U<|RK u<|aw<|rP 1 [] (mc 5 U mn) ?_
  refine g5 (vs:=(aF.cells x)) (cs':=(aF.cells x)) (C':=[_,_,_,_,_,_,_,_,_,_,_,_,_,_,_,_,_,_,(cz V 113 (aF.cells x))]) 18 U U U pj U U U U U U U<|aK<|aP<|KK AA ?_
  have LD:(aF.cells x)=(aF.cells (kQ r.aa (i+1))):=by rw [kh hx]
  rw [LD]
  refine aw<|rP 2 [] mn ?_
  refine aK ?_
  refine z6 (f:=pS) (ms:=(cN l r.aa i)) (m:=(eB mb (i:Int) (cV l x))) 1 0 (by rw [gS]; omega) M U U U ?_
  rw [sx hx I D Z]
  have LE:(vI (((i+1):Nat):Int))=(vI ((i:Int)+1)):=by exact cI I
  refine bu (T ⟨(i+1),⟨I,jv A hx (by unfold iT jw; omega)⟩⟩ _ _ _ U os (cP 9<|bw U LE<|dp.nil _) (aR [5,6,7,8,9,10,11,12,13,14,15,16,17,0]))
 refine rP 7 [0,1] (mc 2 U (mc 15 U mn)) ?_
 refine RK L<|ck U (aT fun A5=>?_) (aU fun A5=>?_)
 ·refine WS fun _ FS=>rP 2 [] mn ?_
  refine RK FS<|ar<|LX hQ (false,51,0,none,0,none,0,[],[],[],none,0,[],[],none,0) [] [] mn U (by rfl) U U ?_
  exact qF<|sT (fR (me:=me) C (oN hx (by unfold iT jw; omega)))
 refine WK p<|aq fun _ s=>WS fun _ Fd=>eV 2 [0,1] (mc 4 U (mc 2 U mn)) U<|rS (CL (An l kA kC az cA cC bA bC x hin asm I) (bo [5,6,7,8]) U)<|AL U dU fun T7=>eN U cT U<|RK Fd<|WS fun _ Fn=>rP 5 [] (mc 0 U mn) ?_
 refine RK Fn<|bR U (aU fun D=>?_) (aT fun D=>?_)
 ·refine WK s<|aw<|rP 1 [] (mc 3 U mn) ?_
  refine g5 (vs:=(aF.cells x)) (cs':=(aF.cells x)) (C':=[_,_,_,_,_,_,_,_,_,_,_,_,_,_,_,_,(cz V 113 (aF.cells x)),_]) 16 U U U pj U U U U U U U<|aK<|aP<|KK AA ?_
  have K8:(aF.cells x)=(aF.cells (kQ r.aa (i+1))):=by rw [kh hx]
  rw [K8]
  refine aw<|rP 2 [] mn ?_
  refine aK ?_
  rw [show (cN l r.aa i)=(cN l r.aa (i+1)) from (p9 hx D).symm]
  have LA:(vI (((i+1):Nat):Int))=(vI ((i:Int)+1)):=by exact cI I
  refine bu (T ⟨(i+1),⟨I,jv A hx (by unfold iT jw; omega)⟩⟩ _ _ _ U os (cP 9<|bw U LA<|dp.nil _) (aR [4,5,6,7,8,9,10,11,12,13,14,15,16,17]))
 obtain ⟨mb,Z⟩:=aC (cN l r.aa i) ((x.fH).toNat) I
 obtain ⟨ga,M⟩:=aC fb ((x.fH).toNat) I
 refine zI 17 Z M U U U ?_
 try dsimp only
 refine cW cg 10 kr<|kR 1 U<|dS (SX (cw U U) U U)<|dP 4 [0,1] (mc 16 U (mc 5 U mn)) ?_
 have Li:(List.map oC (dF fb l.ab.length))[(x.fH).toNat]? =some (oC (some ga)):=qD (mQ M)
 refine dS (IA ((x.fH).toNat) U (aB (n:=l.ab.length) 17 U sq) yH dc I I) ?_
 refine dS (gD ((x.fH).toNat) 0 (Value.map (some ga)) U bU (aB (n:=(dF fb l.ab.length).length) 17 U sm) Li U dc U)<|kv 2 [] (mc 2 U mn) U<|cx<|iY (kV:=iV) (x:=(i:Int)) (C':=[(ku iV ga (cU jW (eB mb (i:Int) (cV l x)))),_,_,_,_,_,_,_,_,_,_,_,_,_,_,_,_,_,_]) 0 U U U U sX (iJ qn) U (gR _ _ _ _).symm U<|RK s<|aw<|rP 1 [] (mc 5 U mn) ?_
 refine g5 (vs:=(aF.cells x)) (cs':=(aF.cells x)) (C':=[_,_,_,_,_,_,_,_,_,_,_,_,_,_,_,_,_,_,(cz V 113 (aF.cells x))]) 18 U U U pj U U U U U U U<|aK<|aP<|KK AA ?_
 have K4:(aF.cells x)=(aF.cells (kQ r.aa (i+1))):=by rw [kh hx]
 rw [K4]
 refine aw<|rP 2 [] mn ?_
 refine aK ?_
 refine z6 (f:=pS) (ms:=(cN l r.aa i)) (m:=(eB mb (i:Int) (cV l x))) 1 0 (by rw [gS]; omega) M U U U ?_
 rw [sx hx I D Z]
 have K5:(vI (((i+1):Nat):Int))=(vI ((i:Int)+1)):=by exact cI I
 refine bu (T ⟨(i+1),⟨I,jv A hx (by unfold iT jw; omega)⟩⟩ _ _ _ U os (cP 9<|bw U K5<|dp.nil _) (aR [5,6,7,8,9,10,11,12,13,14,15,16,17,0]))
end
section
open Go.RowKit
theorem CJ (l:bH) (kA:OA) (kC:Nat) (az:List RA) (cA:OA) (cC:Nat) (bA:OA) (bC:Nat) (r:c_) (sgA:OA) (sgC:Nat) (bq_:Int) (hin:ej l az) (hsl:r.aa.length≤1000000):
 dB Tryz.prog 120 [(vA (cm.cells (jR l kA kC cA cC bA bC))),(vA (cL.cells (iN r sgA sgC))),(vI bq_)] [(rd kA l.aO.length 9 (l.aO.map au.cells)),(rd cA l.aj.length 2 (List.zipWith ax.cells l.aj az)),(dE (bg ax.e_ l.aj az)),(rd bA l.ab.length 4 (l.ab.map bK.cells)),(rd sgA r.aa.length 2 (r.aa.map aF.cells))] (vT [(vA (ai.cells (dN l r bq_))),(vI (dW l r bq_))]):=by
 have Kw:=hin.rW
 have J4:=hin.sG
 have In:=hin.ly
 have J2:=hin.se
 have J9:=hin.side
 refine bJ kr Tryz.func120 U U fun w0 Q hQ hN=>?_
 try dsimp only
 refine WS fun _ A2=>eJ U fun b2=>eJ U fun b3=>wM U U fun b4=>AL U dU fun b5=>bI 1 U<|RK A2<|WS fun _ p=>rP 2 [0,1] (mc 3 U (mc 2 U mn)) ?_
 refine rS (FU U)<|ew (xs:=[.tmp 17]) (cs:=[(Value.func (.func 148) [].toArray [(vP b2),(vP b4)].toArray)]) U OW TE U U U U (by simp [Value.cells]) U U fun b7=>cX (Nf l kA kC az cA cC bA bC r sgA sgC (Value.func (.func 148) [].toArray [(vP b2),(vP b4)].toArray) (dE [(rd kA l.aO.length 9 (l.aO.map au.cells)),(rd cA l.aj.length 2 (List.zipWith ax.cells l.aj az)),(dE (bg ax.e_ l.aj az)),(rd bA l.ab.length 4 (l.ab.map bK.cells)),(cz b2 28 (cm.cells (jR l kA kC cA cC bA bC))),(cz b4 3 [(vI bq_)])]) (ke l bq_) b7 (by exact k7 (fi:=[]) (ca:=[(vP b2),(vP b4)]) (j1 (D7 l kA kC az cA cC bA bC b2 bq_ b4 (by first|assumption|omega)) (bo [0,1,2,3,4,5]))) hin hsl) (ld [5,6,7,8,9]<|aD (jZ (bo [5,6,7,8,4,2]))<|dM 0 U U<|aL) U fun y8 C1=>?_
 obtain ⟨C2,H1,E,H,AB,g,j,m,B,L,J,K,A,G,d,f⟩:=y8
 cases C2
 ·obtain ⟨Ck,he⟩:=C1.2 rfl
  try dsimp only at Ck he
  subst Ck
  try dsimp only [cond_true,cond_false,List.cons_append,List.nil_append]
  refine bI 5 U<|RK p<|aq fun _ IO=>WS fun _ B3=>rP 2 [] mn ?_
  refine RK B3<|bR U (aW fun A9=>?_) (aX fun A9=>?_)
  ·exact absurd A9 he
  refine WS fun _ B9=>rS (SX (bp (xs:=[]) (cs:=(ai.cells (ai.mk 0 0))) U U (bq gM U)) U U)<|bI 1 U<|qN U cT U<|rP 1 [] mn ?_
  refine RK B9<|ar<|l5 hQ [0] (mc 1 U mn) U ?_
  (have e:=mB (b:=bq_) he; rw [e.1,e.2]<;>rfl)
 obtain ⟨he,D,C,Do,Dj,FQ⟩:=C1.1 rfl
 try dsimp only [cond_true,cond_false,List.cons_append,List.nil_append]
 dsimp only at D C Do Dj FQ
 obtain ⟨Di,A6,Eq,J6⟩:=jh he
 obtain ⟨FS,Cx⟩:=eh Di
 have EQ:=Cx.head
 unfold eZ at EQ
 have Fd:=mI FS Cx A6
 have J8:=A6.time
 have J7:=A6.len
 have Cp:(cu l l.ab.length).length=l.ab.length:=dv
 have C0:(cN l r.aa r.aa.length).length=l.ab.length:=gS
 have J5:B.length=l.ab.length+1:=by have:=D.len; rw [show (dx l r).n=l.ab.length from dv] at this; exact this
 have J3:A.length=l.ab.length+1:=by have:=C.len; rw [show (dx l r).n=l.ab.length from dv] at this; exact this
 obtain ⟨I0,Je⟩:=DC Eq
 obtain ⟨b,A3⟩: ∃ b:Nat,bq_=(b:Int):=⟨bq_.toNat,I⟩
 rw [A3]
 refine bI 5 U<|RK p<|aq fun _ N=>WS fun _ O=>bI 1 U<|rS (SX (fM (r:= .bool false) U U U rm) U U)<|RK O<|cq U<|WK N<|WS fun _ P=>rS (SX (bp (xs:=[(0,.const (vI 1))]) (cs:=(ai.cells (ai.mk 1 0))) U U (bq gM U)) U U)<|AL U dU fun A7=>eN U cT U<|RK P<|WS fun _ R=>eV 1 [] (mc 0 U mn) U<|AL U dU fun A8=>eN U cT U<|RK R<|aq fun _ T=>WS fun _ AA=>rP 2 [] (mc 12 U mn) ?_
 obtain ⟨mf,Y⟩:=aC B b I
 obtain ⟨mb,Z⟩:=aC A (b+1) I
 refine cX (Kh E b) (aL) U fun GE IR=>?_
 obtain ⟨AC,AK⟩:=GE
 try dsimp only
 refine RK AA<|aH ?_
 refine ub (L0:=[(3,(vP b2)),(4,(vP b3)),(5,(vP b4)),(6,(vP b5)),(7,(vI 0)),(10,(vP A7)),(11,(vP A8))]) (F:=[(own H AB 3 1 ((cu l l.ab.length).map iC)),(own g j 123 1 (List.zipWith gF (cN l r.aa r.aa.length) m)),(bM (bg pS (cN l r.aa r.aa.length) m)),(own J K 279 1 (List.zipWith gF B L)),(bM (bg m_ B L)),(own d f 279 1 (List.zipWith gF A G)),(bM (bg m_ A G)),(cz E 276 (cd.cells (cd.mk (jR l kA kC cA cC bA bC) (iN r sgA sgC) (bE.mk H ((cu l l.ab.length).length) AB) (bE.mk g ((cN l r.aa r.aa.length).length) j) (bE.mk J B.length K) (bE.mk d A.length f)))),(cz AC 228 [(vP E)]),(cz AK 3 [(vI (b:Int))])]) (fun k (y:ai)=>(kJ k y)∧(∀ q∈k,q∈qy (dx l r) b mf mb)) (fun k y=>[(cz A8 38 (ai.cells y)),(cz A7 38 (ai.cells (ai.mk 1 0))),(cz b5 38 (ai.cells (ai.mk 0 0))),(cz b4 3 [(vI (b:Int))]),(cz b3 41 (cL.cells (iN r sgA sgC))),(cz b2 28 (cm.cells (jR l kA kC cA cC bA bC))),(rd kA l.aO.length 9 (l.aO.map au.cells)).ro,(rd cA l.aj.length 2 (List.zipWith ax.cells l.aj az)).ro,(dE (bg ax.e_ l.aj az)).ro,(rd bA l.ab.length 4 (l.ab.map bK.cells)).ro,(rd sgA r.aa.length 2 (r.aa.map aF.cells)).ro]) (fun _ (_:Unit)=>False) (fun _ _=>[]) [2,3,13,14,15,16,17,18,19,20,21] [5,6,7,8,9,10,11,4,0,1] mX rfl rfl (Gw (jR l kA kC cA cC bA bC) (iN r sgA sgC) (cu l l.ab.length) (cN l r.aa r.aa.length) H AB m g j B A L J K G d f E b AC AK mf mb (by rw [Cp]; omega) (by exact Fd) (by rw [C0]; omega) (by exact D) I (by exact C) I (by show r.aa.length≤1000; omega) (by exact Y) (by exact Z)) rfl rfl rfl (by exact ⟨B8,fun q hq=>by cases hq⟩) (by simp only [List.forall_mem_cons,List.not_mem_nil,false_imp_iff,implies_true,and_true]; exact ⟨⟨_,aM (i:=0) rfl,(jr sm)⟩,⟨_,aM (i:=1) rfl,(jr (by rw [List.length_zipWith]; omega))⟩,⟨_,aM (i:=2) rfl,rL⟩,⟨_,aM (i:=3) rfl,(jr (by rw [List.length_zipWith]; omega))⟩,⟨_,aM (i:=4) rfl,rL⟩,⟨_,aM (i:=5) rfl,(jr (by rw [List.length_zipWith]; omega))⟩,⟨_,aM (i:=6) rfl,rL⟩,⟨_,aM (i:=7) rfl,(cb _)⟩,⟨_,aM (i:=8) rfl,(cb _)⟩,⟨_,aM (i:=9) rfl,(cb _)⟩⟩) (by rintro k x k2 ⟨o,_,rfl,_⟩; rfl) rfl (bD rfl) ?_ ?_ (fun _ _ _ h=>h.elim) (fun _ _ h=>h.elim)
 ·rintro k x k2 h lr ra rb S w1 K41 Qr42 Kl hx A4 CC X Fn GT
  obtain ⟨q,hq,rfl,rfl⟩:=hx
  obtain ⟨a,c⟩:=A4
  try dsimp only
  refine aw<|AL U dU fun Id=>eN U cT U<|aK<|jB (fun _ _ h=>h) (aR [1,0,2,3,4,5,6,7,8,9,10,11,12])<|bu (CC _ _ ?_)
  refine aH<|aq fun _ s=>WS fun _ Ci=>rP 2 [0,1] (mc 2 U (mc 3 U mn)) ?_
  refine rS (BI U (OQ _ _ h (ai.mk 1 0)))<|RK Ci<|bR U (aW fun M=>?_) (aX fun M=>?_)
  ·refine WK s<|aw<|rP 1 [] (mc 1 U mn) ?_
   refine GM U cT U<|aK<|aP ?_
   exact X q.2 _ _ (by refine ⟨zB a (oJ hq) ?_,fun z hz=>?_⟩; (first|exact if_neg M|exact if_pos M); (rcases gH.1 hz with hz|hz; exact c z hz; (rw [cE.1 hz]; exact hq))) (aR [0,2,3,4,5,6,7,8,9,10,11,12])
  refine aw<|eV 4 [0,1] (mc 1 U (mc 2 U mn)) U<|rS (MN U)<|eV 4 [0,1] (mc 1 U (mc 2 U mn)) U<|rS (MX U)<|rS (SX (bp (xs:=[(0,.tmp 40),(1,.tmp 45)]) (cs:=(ai.cells (ai.mk (min q.2.Lo h.Lo) (max q.2.Hi h.Hi)))) U U (bq gM U)) U U)<|qN U cT U<|RK s<|aw<|rP 1 [] (mc 1 U mn) ?_
  refine GM U cT U<|aK<|aP ?_
  exact X (ai.mk (min q.2.Lo h.Lo) (max q.2.Hi h.Hi)) _ _ (by refine ⟨zB a (oJ hq) ?_,fun z hz=>?_⟩; (first|exact if_neg M|exact if_pos M); (rcases gH.1 hz with hz|hz; exact c z hz; (rw [cE.1 hz]; exact hq))) (aR [0,2,3,4,5,6,7,8,9,10,11,12])
 rintro K4 k h v A5
 obtain ⟨a,c⟩:=A5
 try dsimp only
 refine aP<|KK T<|aq fun _ V=>WS fun _ W=>rP 2 [0,1] (mc 11 U (mc 12 U mn)) ?_
 refine rS (BI U (tU _ _ h (ai.mk 1 0)))<|RK W<|bR U (aU fun A1=>?_) (aT fun A1=>?_)
 ·refine WK V<|WS fun _ u=>eV 1 [] (mc 11 U mn) U<|g5 (vs:=(ai.cells h)) (cs':=(ai.cells h)) (C':=[_,_,_,_,_,_,_,_,_,_,_,_,_,(cz b5 38 (ai.cells h)),_,_,_,_,_,_,_,_]) 13 U U U cT U U U U U U U<|rP 1 [] mn ?_
  refine RK u<|ar<|hQ _ _ _ (rj 0 U U<|j0 (vs:=[(vA (ai.cells h)),(vI 0)]) ⟨⟨_,U,.inl ⟨_,_,bU,pZ (vs:=(ai.cells h)) 13 U U,U,U⟩⟩,U,trivial⟩ fun w hs=>Co ?_ hs)
  show (vT [(vA (ai.cells h)),(vI 0)])=(vT [(vA (ai.cells (dN l r bq_))),(vI (dW l r bq_))])
  clear hs w hQ hN u W V AA T R P O N p A2
  (rw [A3] at he ⊢; have hh:h=mU l r b:=yT (D.min _ _ Y) (C.max _ _ Z) (D.keys _ _ Y) (C.keys _ _ Z) c v a; (have e:=ot he (fun q=>A1 (hh.trans q)); rw [e.1,e.2,hh]<;>rfl))
 refine WS fun _ t=>rS (SX (bp (xs:=[]) (cs:=(ai.cells (ai.mk 0 0))) U U (bq gM U)) U U)<|g5 (vs:=(ai.cells (ai.mk 0 0))) (cs':=(ai.cells (ai.mk 0 0))) (C':=[_,_,_,_,_,_,_,_,_,_,_,_,_,(cz b5 38 (ai.cells (ai.mk 0 0))),_,_,_,_,_,_,_,_]) 13 U U U cT U U U U U U U<|rP 1 [] mn ?_
 refine RK t<|ar<|hQ _ _ _ (rj 0 U U<|j0 (vs:=[(vA (ai.cells (ai.mk 0 0))),(vI 6)]) ⟨⟨_,U,.inl ⟨_,_,bU,pZ (vs:=(ai.cells (ai.mk 0 0))) 13 U U,U,U⟩⟩,U,trivial⟩ fun w hs=>Co ?_ hs)
 show (vT [(vA (ai.cells (ai.mk 0 0))),(vI 6)])=(vT [(vA (ai.cells (dN l r bq_))),(vI (dW l r bq_))])
 clear hs w hQ hN t W V AA T R P O N p A2
 (rw [A3] at he ⊢; have hh:h=mU l r b:=yT (D.min _ _ Y) (C.max _ _ Z) (D.keys _ _ Y) (C.keys _ _ Z) c v a; (have e:=qR he (hh.symm.trans A1); rw [e.1,e.2]<;>rfl))
theorem SW (l:bH) (kA:OA) (kC:Nat) (az:List RA) (cA:OA) (cC:Nat) (bA:OA) (bC:Nat) (r:c_) (sgA:OA) (sgC:Nat) (hin:ej l az) (hsl:r.aa.length≤1000000):
 dB Tryz.prog 245 [(vA (cm.cells (jR l kA kC cA cC bA bC))),(vA (cL.cells (iN r sgA sgC)))] [(rd kA l.aO.length 9 (l.aO.map au.cells)),(rd cA l.aj.length 2 (List.zipWith ax.cells l.aj az)),(dE (bg ax.e_ l.aj az)),(rd bA l.ab.length 4 (l.ab.map bK.cells)),(rd sgA r.aa.length 2 (r.aa.map aF.cells))] (vT [(vA (ai.cells (AF l r))),(vI (dW l r l.cf))]):=by
 have N:=hin.rW
 have J:=hin.sG
 have H:=hin.ly
 have AA:=hin.se
 have M:=hin.side
 refine bJ kr Tryz.func245 U U fun T Q hQ hN=>?_
 try dsimp only
 refine WS fun _ C=>eJ U fun O=>eJ U fun P=>AL U dU fun R=>bI 1 U<|RK C<|WS fun _ D=>eV 4 [0,1] (mc 2 U (mc 1 U mn)) U<|rS (CL (CJ l kA kC az cA cC bA bC r sgA sgC l.cf hin hsl) (bo [3,4,5,6,7]) U)<|bI 3 U<|AL U dU fun S=>eN U cT U<|bI 1 U<|RK D<|aq fun _ E=>WS fun _ F=>rP 2 [] mn ?_
 refine RK F<|ck U (aX fun A=>?_) (aW fun A=>?_)
 ·refine WS fun _ G=>rS (SX (bp (xs:=[]) (cs:=(ai.cells (ai.mk 0 0))) U U (bq gM U)) U U)<|bI 1 U<|qN U cT U<|rP 1 [] mn ?_
  refine RK G<|ar<|l5 hQ [0] (mc 1 U mn) U ?_
  (rw [Dp A]<;>rfl)
 refine WK E<|WS fun _ B=>rP 4 [0,1] (mc 0 U (mc 2 U mn)) ?_
 have K:=uB A
 have L:=(wu A).time
 refine eV 6 [0,1] (mc 0 U (mc 2 U mn)) U<|rS (SX (bp (xs:=[(0,.tmp 24),(1,.tmp 29)]) (cs:=(ai.cells (ai.mk (((dN l r l.cf).Lo)-r.Start) (((dN l r l.cf).Hi)-r.Start)))) U U (bq gM U)) U U)<|qN U cT U<|rP 1 [] mn ?_
 refine RK B<|ar<|l5 hQ [0] (mc 1 U mn) U ?_
 (rw [AB A,A]<;>rfl)
end
section
open Go.RowKit
theorem Nb (l:bH) (kA:OA) (kC:Nat) (az:List RA) (cA:OA) (cC:Nat) (bA:OA) (bC:Nat) (d:ak) (sgA:OA) (sgC:Nat) (hin:ej l az):
 dB Tryz.prog 238 [(vA (cm.cells (jR l kA kC cA cC bA bC))),(vA (aG.cells (aG.mk d.Out d.cJ d.Time (iN d.aY sgA sgC))))] [(rd kA l.aO.length 9 (l.aO.map au.cells)),(rd cA l.aj.length 2 (List.zipWith ax.cells l.aj az)),(dE (bg ax.e_ l.aj az)),(rd bA l.ab.length 4 (l.ab.map bK.cells)),(rd sgA d.aY.aa.length 2 (d.aY.aa.map aF.cells))] (vT [(vA (ai.cells d.Time)),(vB (decide (d.cJ=false∧d.Time=eQ∧ng d.aY)))]):=by
 refine bJ kr Tryz.func238 U U fun K Q hQ hN=>?_
 try dsimp only
 refine WS fun _ B=>eJ U fun H=>eJ U fun AA=>AL U dU fun J=>rP 1 [] mn ?_
 refine RK B<|aq fun _ A=>dH cg [15] [] [] [1,2,3,4,5,6,7] [] U U U U U<|eS U (FA 2 U eU U)<|eS U (LP (ai.cells d.Time) 0 U bU U U U)<|eS U (FA 1 U eU U)<|eS U (L1 (vB d.cJ) 0 U bU U U)<|eS U (NT U)<|eS U (MV U)<|sJ (t:=11) U (fun G=>?_) (fun G=>?_)
 rotate_left 1
 ·rw [Bool.not_eq_false'] at G
  refine eS U (OX U)<|eS U (OX U)<|eS U (OX U)<|eS U (OX U)<|eS U (PK U)<|eS U (MV U)<|eS U (OX U)<|eS U (OX U)<|eS U (PK U)<|eS U (AG U)<|eo U<|cp U fun T10 C=>eN U cT U<|aK (C _ _ (aR [1,2,3,4,5,6,7]) ?_)
  refine fK U<|KK A<|ar<|l5 hQ [0] (mc 0 U mn) U ?_
  clear hQ hN C T10 A B
  refine congrArg (fun z=>Value.tuple #[_,vB z]) ?_
  first|rfl|(simp_all [eQ]; done)
 rw [Bool.not_eq_true'] at G
 refine eS U (FA 2 U eU U)<|eS U (LP (ai.cells d.Time) 0 U bU U U U)<|eS U (SX (bp (xs:=[]) (cs:=(ai.cells (ai.mk 0 0))) U U (bq gM U)) U U)<|eS U (BI U (tU _ _ d.Time (ai.mk 0 0)))<|eS U (PK U)<|eS U (MV U)<|sJ (t:=17) U (fun D=>?_) (fun D=>?_)
 rotate_left 1
 ·replace D:=DF D
  refine eS U (OX U)<|eS U (OX U)<|eS U (PK U)<|eS U (AG U)<|eo U<|cp U fun T9 F=>eN U cT U<|aK (F _ _ (aR [1,2,3,4,5,6,7]) ?_)
  refine fK U<|KK A<|ar<|l5 hQ [0] (mc 0 U mn) U ?_
  clear hQ hN F T9 A B
  refine congrArg (fun z=>Value.tuple #[_,vB z]) ?_
  first|rfl|(simp_all [eQ]; done)
 replace D:=DT D
 refine eS U (LW 0 U bU U U)<|eS U (CL (IM d sgA sgC) (bo [6]) U)<|eS U (PK U)<|eS U (AG U)<|eo U<|cp U fun T8 E=>eN U cT U<|aK (E _ _ (aR [1,2,3,4,5,6,7]) ?_)
 refine fK U<|KK A<|ar<|l5 hQ [0] (mc 0 U mn) U ?_
 clear hQ hN E T8 A B
 refine congrArg (fun z=>Value.tuple #[_,vB z]) ?_
 first|rfl|(simp_all [eQ]; done)
theorem MJ (l:bH) (kA:OA) (kC:Nat) (az:List RA) (cA:OA) (cC:Nat) (bA:OA) (bC:Nat) (d:ak) (sgA:OA) (sgC:Nat) (hin:ej l az):
 dB Tryz.prog 241 [(vA (cm.cells (jR l kA kC cA cC bA bC))),(vA (aG.cells (aG.mk d.Out d.cJ d.Time (iN d.aY sgA sgC))))] [(rd kA l.aO.length 9 (l.aO.map au.cells)),(rd cA l.aj.length 2 (List.zipWith ax.cells l.aj az)),(dE (bg ax.e_ l.aj az)),(rd bA l.ab.length 4 (l.ab.map bK.cells)),(rd sgA d.aY.aa.length 2 (d.aY.aa.map aF.cells))] (vT [(vA (ai.cells d.Time)),(vB (decide (mj d.Time∧ng d.aY)))]):=by
 refine bJ kr Tryz.func241 U U fun AA Q hQ hN=>?_
 try dsimp only
 refine WS fun _ B=>eJ U fun F=>eJ U fun G=>AL U dU fun H=>rP 1 [] mn ?_
 refine RK B<|aq fun _ A=>dH cg [9] [] [] [1,2,3,4,5,6,7] [] U U U U U<|eS U (FA 2 U eU U)<|eS U (LP (ai.cells d.Time) 0 U bU U U U)<|eS U (FA 2 U eU U)<|eS U (LP (ai.cells d.Time) 0 U bU U U U)<|eS U (CL (N8 d.Time) (aL) U)<|eS U (MV U)<|sJ (t:=11) U (fun C=>?_) (fun C=>?_)
 rotate_left 1
 ·replace C:=DF C
  refine eS U (OX U)<|eS U (OX U)<|eS U (PK U)<|eS U (AG U)<|eo U<|cp U fun T8 E=>eN U cT U<|aK (E _ _ (aR [1,2,3,4,5,6,7]) ?_)
  refine fK U<|KK A<|ar<|l5 hQ [0] (mc 0 U mn) U ?_
  clear hQ hN E T8 A B
  refine congrArg (fun z=>Value.tuple #[_,vB z]) ?_
  first|rfl|(simp_all; done)
 replace C:=DT C
 refine eS U (LW 0 U bU U U)<|eS U (CL (IM d sgA sgC) (bo [6]) U)<|eS U (PK U)<|eS U (AG U)<|eo U<|cp U fun T7 D=>eN U cT U<|aK (D _ _ (aR [1,2,3,4,5,6,7]) ?_)
 refine fK U<|KK A<|ar<|l5 hQ [0] (mc 0 U mn) U ?_
 clear hQ hN D T7 A B
 refine congrArg (fun z=>Value.tuple #[_,vB z]) ?_
 first|rfl|(simp_all; done)
theorem N5 (l:bH) (kA:OA) (kC:Nat) (az:List RA) (cA:OA) (cC:Nat) (bA:OA) (bC:Nat) (d:ak) (sgA:OA) (sgC:Nat) (hin:ej l az) (hsl:d.aY.aa.length≤1000000):
 dB Tryz.prog 244 [(vA (cm.cells (jR l kA kC cA cC bA bC))),(vA (aG.cells (aG.mk d.Out d.cJ d.Time (iN d.aY sgA sgC))))] [(rd kA l.aO.length 9 (l.aO.map au.cells)),(rd cA l.aj.length 2 (List.zipWith ax.cells l.aj az)),(dE (bg ax.e_ l.aj az)),(rd bA l.ab.length 4 (l.ab.map bK.cells)),(rd sgA d.aY.aa.length 2 (d.aY.aa.map aF.cells))] (vT [(vA (ai.cells (AF l d.aY))),(vB (decide (dW l d.aY l.cf=0∧d.Time=eQ)))]):=by
 have K:=hin.rW
 have AA:=hin.sG
 have G:=hin.ly
 have H:=hin.se
 have J:=hin.side
 refine bJ kr Tryz.func244 U U fun P Q hQ hN=>?_
 try dsimp only
 refine WS fun _ C=>eJ U fun L=>eJ U fun M=>AL U dU fun N=>bI 1 U<|RK C<|WS fun _ D=>eV 2 [] (mc 2 U mn) U<|rS (LP (cL.cells (iN d.aY sgA sgC)) 1 U bU U U U)<|rS (CL (SW l kA kC az cA cC bA bC d.aY sgA sgC hin hsl) (bo [3,4,5,6,7]) U)<|bI 3 U<|AL U dU fun O=>eN U cT U<|rP 1 [] mn ?_
 refine RK D<|aq fun _ A=>dH cg [9] [] [] [0,2,3,4,5,6,7,8] [] U U U U U<|eS U (LW 0 U bU U U)<|eS U (MV U)<|eS U (BI U m8)<|eS U (MV U)<|sJ (t:=18) U (fun E=>?_) (fun E=>?_)
 rotate_left 1
 ·replace E:=DF E
  refine eS U (OX U)<|eS U (OX U)<|eS U (OX U)<|eS U (OX U)<|eS U (PK U)<|eS U (AG U)<|eo U<|cp U fun T10 B=>qN U cT U<|aK (B _ _ (aR [0,2,3,4,5,6,7,8]) ?_)
  refine fK U<|KK A<|ar<|l5 hQ [0] (mc 1 U mn) U ?_
  clear hQ hN B T10 A D C
  refine congrArg (fun z=>Value.tuple #[_,vB z]) ?_
  first|rfl|(simp_all [eQ]; done)
 replace E:=DT E
 refine eS U (FA 2 U eU U)<|eS U (LP (ai.cells d.Time) 1 U bU U U U)<|eS U (SX (bp (xs:=[]) (cs:=(ai.cells (ai.mk 0 0))) U U (bq gM U)) U U)<|eS U (BI U (tU _ _ d.Time (ai.mk 0 0)))<|eS U (PK U)<|eS U (AG U)<|eo U<|cp U fun T9 F=>qN U cT U<|aK (F _ _ (aR [0,2,3,4,5,6,7,8]) ?_)
 refine fK U<|KK A<|ar<|l5 hQ [0] (mc 1 U mn) U ?_
 clear hQ hN F T9 A D C
 refine congrArg (fun z=>Value.tuple #[_,vB z]) ?_
 first|rfl|(simp_all [eQ]; done)
theorem G0 (d:ak) (sgA:OA) (sgC g1:Nat):
 dB Tryz.prog 113 [(vA (nc.cells (nc.mk (Value.func (.func 237) [].toArray [].toArray) (Value.func (.func 238) [].toArray [].toArray)))),(vP g1)] [(rd sgA d.aY.aa.length 2 (d.aY.aa.map aF.cells)),(cz g1 43 (aG.cells (aG.mk d.Out d.cJ d.Time (iN d.aY sgA sgC))))] (vB d.Out):=by
 refine bJ kr Tryz.func113 U U fun D Q hQ hN=>?_
 try dsimp only
 refine WS fun _ A=>eJ U fun C=>bI 1 U<|RK A<|WS fun _ B=>eV 3 [0,1] (mc 0 U (mr 2 U mn)) U<|rS (CL (Rm d sgA sgC) (bo [1]) U)<|rP 1 [] mn ?_
 refine RK B<|ar<|Q1 hQ U U U ?_
 rfl
theorem GR (d:ak) (sgA:OA) (sgC g1:Nat):
 dB Tryz.prog 113 [(vA (nc.cells (nc.mk (Value.func (.func 240) [].toArray [].toArray) (Value.func (.func 241) [].toArray [].toArray)))),(vP g1)] [(rd sgA d.aY.aa.length 2 (d.aY.aa.map aF.cells)),(cz g1 43 (aG.cells (aG.mk d.Out d.cJ d.Time (iN d.aY sgA sgC))))] (vB d.cJ):=by
 refine bJ kr Tryz.func113 U U fun D Q hQ hN=>?_
 try dsimp only
 refine WS fun _ A=>eJ U fun C=>bI 1 U<|RK A<|WS fun _ B=>eV 3 [0,1] (mc 0 U (mr 2 U mn)) U<|rS (CL (Q9 d sgA sgC) (bo [1]) U)<|rP 1 [] mn ?_
 refine RK B<|ar<|Q1 hQ U U U ?_
 rfl
theorem GW (d:ak) (sgA:OA) (sgC g1:Nat):
 dB Tryz.prog 113 [(vA (nc.cells (nc.mk (Value.func (.func 243) [].toArray [].toArray) (Value.func (.func 244) [].toArray [].toArray)))),(vP g1)] [(rd sgA d.aY.aa.length 2 (d.aY.aa.map aF.cells)),(cz g1 43 (aG.cells (aG.mk d.Out d.cJ d.Time (iN d.aY sgA sgC))))] (vB true):=by
 refine bJ kr Tryz.func113 U U fun D Q hQ hN=>?_
 try dsimp only
 refine WS fun _ A=>eJ U fun C=>bI 1 U<|RK A<|WS fun _ B=>eV 3 [0,1] (mc 0 U (mr 2 U mn)) U<|rS (CL (Q_ d sgA sgC) (bo [1]) U)<|rP 1 [] mn ?_
 refine RK B<|ar<|Q1 hQ U U U ?_
 rfl
end
section
open Go.RowKit
theorem yE (d:ak) (sgA:OA) (sgC g1:Nat):
 dB Tryz.prog 112 [(vS gd 3 3),(Value.func (.func 113) [].toArray [(vP g1)].toArray)] [(rd gd 3 2 fr),(rd sgA d.aY.aa.length 2 (d.aY.aa.map aF.cells)),(cz g1 43 (aG.cells (aG.mk d.Out d.cJ d.Time (iN d.aY sgA sgC))))] (vI (oZ d)):=by
 refine bJ kr Tryz.func112 U U fun b Q hQ hN=>?_
 try dsimp only
 refine WS fun _ F=>bI 1 U<|RK F<|aq fun _ AA=>WS fun _ G=>bI 3 U<|RK G<|aH<|rG 4<|kZ fun R4 Z=>WS fun _ H=>rS (SX (fM (r:= .bool true) U U U qI) U U)<|RK H<|aq fun _ AB=>aN U<|WK AB<|aq fun _ J=>aH<|WS fun _ K=>bI 2 U<|RK K<|WS fun _ L=>rP 3 [] mn ?_
 refine rS (IA 0 U (ay 0 U) H2 dc U I)<|rS (jD 0 0 (nc.cells (nc.mk (Value.func (.func 237) [].toArray [].toArray) (Value.func (.func 238) [].toArray [].toArray))) U bU (ay 0 U) (show fr[0]? =some [(Value.func (.func 237) [].toArray [].toArray),(Value.func (.func 238) [].toArray [].toArray)] from U) U dc U U)<|rS (CL (G0 d sgA sgC g1) (bo [1,2]) U)<|RK L<|ck U (fun X=>?_) (fun X=>?_)
 ·refine WS fun _ M=>rP 2 [] mn ?_
  refine RK M<|ar<|Q1 hQ U U U ?_
  clear hQ hN M L K J AB H G AA F
  refine cI ?_
  simp [oZ, *]
 refine cj<|aP<|KK J<|aw<|rS (SX (fM (r:= .int .i64 1) U U U (oP ⟨dc,dc⟩)) U U)<|bI 1 U<|RK Z<|kZ fun R12 W=>WS fun _ A=>rS (SX (fM (r:= .bool true) U U U qI) U U)<|RK A<|aq fun _ B=>aN U<|WK B<|aq fun _ C=>aH<|WS fun _ D=>bI 2 U<|RK D<|WS fun _ E=>rP 3 [] mn ?_
 refine rS (IA 1 U (ay 0 U) H2 dc U I)<|rS (jD 1 0 (nc.cells (nc.mk (Value.func (.func 240) [].toArray [].toArray) (Value.func (.func 241) [].toArray [].toArray))) U bU (ay 0 U) (show fr[1]? =some [(Value.func (.func 240) [].toArray [].toArray),(Value.func (.func 241) [].toArray [].toArray)] from U) U dc U U)<|rS (CL (GR d sgA sgC g1) (bo [1,2]) U)<|RK E<|ck U (fun Y=>?_) (fun Y=>?_)
 ·refine WS fun _ N=>rP 2 [] mn ?_
  refine RK N<|ar<|Q1 hQ U U U ?_
  clear hQ hN N E D C B A L K J AB H G AA F
  refine cI ?_
  simp [oZ, *]
 refine cj<|aP<|KK C<|aw<|rS (SX (fM (r:= .int .i64 2) U U U (oP ⟨dc,dc⟩)) U U)<|bI 1 U<|RK W<|kZ fun R20 a=>WS fun _ O=>rS (SX (fM (r:= .bool true) U U U qI) U U)<|RK O<|aq fun _ P=>aN U<|WK P<|aq fun _ V=>aH<|WS fun _ R=>bI 2 U<|RK R<|WS fun _ S=>bI 3 U<|rS (IA 2 U (ay 0 U) H2 dc U I)<|rS (jD 2 0 (nc.cells (nc.mk (Value.func (.func 243) [].toArray [].toArray) (Value.func (.func 244) [].toArray [].toArray))) U bU (ay 0 U) (show fr[2]? =some [(Value.func (.func 243) [].toArray [].toArray),(Value.func (.func 244) [].toArray [].toArray)] from U) U dc U U)<|rS (CL (GW d sgA sgC g1) (bo [1,2]) U)<|RK S<|aN U<|WS fun _ T=>rP 2 [] mn ?_
 refine RK T<|ar<|Q1 hQ U U U ?_
 clear hQ hN T S R V P O E D C B A L K J AB H G AA F
 refine cI ?_
 simp [oZ, *]
end
section
open Go.RowKit
theorem Tq (d:ak) (sgA:OA) (sgC g1:Nat) (hk:d.Out=true):
 dB Tryz.prog 112 [(vS gd 3 3),(Value.func (.func 113) [].toArray [(vP g1)].toArray)] [(rd gd 3 2 fr),(rd sgA d.aY.aa.length 2 (d.aY.aa.map aF.cells)),(cz g1 43 (aG.cells (aG.mk d.Out d.cJ d.Time (iN d.aY sgA sgC))))] (vI 0):=by
 have h:=yE d sgA sgC g1
 have e:oZ d=0:=by simp [oZ,hk]
 rw [e] at h
 exact h
theorem Rr (d:ak) (sgA:OA) (sgC g1:Nat) (hk:d.Out=false∧d.cJ=true):
 dB Tryz.prog 112 [(vS gd 3 3),(Value.func (.func 113) [].toArray [(vP g1)].toArray)] [(rd gd 3 2 fr),(rd sgA d.aY.aa.length 2 (d.aY.aa.map aF.cells)),(cz g1 43 (aG.cells (aG.mk d.Out d.cJ d.Time (iN d.aY sgA sgC))))] (vI 1):=by
 have h:=yE d sgA sgC g1
 have e:oZ d=1:=by simp [oZ,hk]
 rw [e] at h
 exact h
theorem Rj (d:ak) (sgA:OA) (sgC g1:Nat) (hk:d.Out=false∧d.cJ=false):
 dB Tryz.prog 112 [(vS gd 3 3),(Value.func (.func 113) [].toArray [(vP g1)].toArray)] [(rd gd 3 2 fr),(rd sgA d.aY.aa.length 2 (d.aY.aa.map aF.cells)),(cz g1 43 (aG.cells (aG.mk d.Out d.cJ d.Time (iN d.aY sgA sgC))))] (vI 2):=by
 have h:=yE d sgA sgC g1
 have e:oZ d=2:=by simp [oZ,hk]
 rw [e] at h
 exact h
theorem Bd (l:bH) (kA:OA) (kC:Nat) (az:List RA) (cA:OA) (cC:Nat) (bA:OA) (bC:Nat) (d:ak) (sgA:OA) (sgC:Nat) (hin:ej l az) (hsl:d.aY.aa.length≤1000000) (hk:d.Out=true):
 dB Tryz.prog 91 [(vA (cm.cells (jR l kA kC cA cC bA bC))),(vA (aG.cells (aG.mk d.Out d.cJ d.Time (iN d.aY sgA sgC))))] [(rd gd 3 2 fr),(rd kA l.aO.length 9 (l.aO.map au.cells)),(rd cA l.aj.length 2 (List.zipWith ax.cells l.aj az)),(dE (bg ax.e_ l.aj az)),(rd bA l.ab.length 4 (l.ab.map bK.cells)),(rd sgA d.aY.aa.length 2 (d.aY.aa.map aF.cells))] (vT [(vA (ai.cells (fX l d))),(vB (decide (iW l d)))]):=by
 refine bJ kr Tryz.func91 U U fun AA Q hQ hN=>?_
 try dsimp only
 refine WS fun _ A=>eJ U fun G=>eJ U fun D=>AL U dU fun H=>bI 1 U<|RK A<|WS fun _ B=>rS (SX (Dr U U zm) U U)<|rS (FU U)<|rS (CL (Tq d sgA sgC D hk) (Qb 3 8 1 U U U U U U) U)<|bI 1 U<|RK B<|aq fun _ C=>cW cg 9 kr<|kR 1 U<|dS (SX (DY (k:=0) U U U zm U I) U U)<|dS (pO ((0*2)+1) U (ay 3 U) (Nat.mul_pos I dc) eU U)<|dS (gD 0 1 (Value.func (.func 238) [].toArray [].toArray) U bU (ay 3 U) (show fr[0]? =some [(Value.func (.func 237) [].toArray [].toArray),(Value.func (.func 238) [].toArray [].toArray)] from U) U dc U)<|kv 2 [0,1] (mc 2 U (mc 1 U mn)) U<|dS (CL (Nb l kA kC az cA cC bA bC d sgA sgC hin) (bo [4,5,6,7,8]) U)<|kR 2 U<|cx<|eN U cT U<|rP 1 [] mn ?_
 refine RK C<|ar<|l5 hQ [0] (mc 0 U mn) U ?_
 have E:=FV (l:=l) hk
 have F:=rO (l:=l) hk
 simp only [E,F]
theorem Bp (l:bH) (kA:OA) (kC:Nat) (az:List RA) (cA:OA) (cC:Nat) (bA:OA) (bC:Nat) (d:ak) (sgA:OA) (sgC:Nat) (hin:ej l az) (hsl:d.aY.aa.length≤1000000) (hk:d.Out=false∧d.cJ=true):
 dB Tryz.prog 91 [(vA (cm.cells (jR l kA kC cA cC bA bC))),(vA (aG.cells (aG.mk d.Out d.cJ d.Time (iN d.aY sgA sgC))))] [(rd gd 3 2 fr),(rd kA l.aO.length 9 (l.aO.map au.cells)),(rd cA l.aj.length 2 (List.zipWith ax.cells l.aj az)),(dE (bg ax.e_ l.aj az)),(rd bA l.ab.length 4 (l.ab.map bK.cells)),(rd sgA d.aY.aa.length 2 (d.aY.aa.map aF.cells))] (vT [(vA (ai.cells (fX l d))),(vB (decide (iW l d)))]):=by
 refine bJ kr Tryz.func91 U U fun AA Q hQ hN=>?_
 try dsimp only
 refine WS fun _ A=>eJ U fun G=>eJ U fun D=>AL U dU fun H=>bI 1 U<|RK A<|WS fun _ B=>rS (SX (Dr U U zm) U U)<|rS (FU U)<|rS (CL (Rr d sgA sgC D hk) (Qb 3 8 1 U U U U U U) U)<|bI 1 U<|RK B<|aq fun _ C=>cW cg 9 kr<|kR 1 U<|dS (SX (DY (k:=1) U U U zm U I) U U)<|dS (pO ((1*2)+1) U (ay 3 U) (Nat.mul_pos I dc) eU U)<|dS (gD 1 1 (Value.func (.func 241) [].toArray [].toArray) U bU (ay 3 U) (show fr[1]? =some [(Value.func (.func 240) [].toArray [].toArray),(Value.func (.func 241) [].toArray [].toArray)] from U) U dc U)<|kv 2 [0,1] (mc 2 U (mc 1 U mn)) U<|dS (CL (MJ l kA kC az cA cC bA bC d sgA sgC hin) (bo [4,5,6,7,8]) U)<|kR 2 U<|cx<|eN U cT U<|rP 1 [] mn ?_
 refine RK C<|ar<|l5 hQ [0] (mc 0 U mn) U ?_
 have E:=Aw (l:=l) hk
 have F:=tY (l:=l) hk
 simp only [E,F]
theorem CU (l:bH) (kA:OA) (kC:Nat) (az:List RA) (cA:OA) (cC:Nat) (bA:OA) (bC:Nat) (d:ak) (sgA:OA) (sgC:Nat) (hin:ej l az) (hsl:d.aY.aa.length≤1000000) (hk:d.Out=false∧d.cJ=false):
 dB Tryz.prog 91 [(vA (cm.cells (jR l kA kC cA cC bA bC))),(vA (aG.cells (aG.mk d.Out d.cJ d.Time (iN d.aY sgA sgC))))] [(rd gd 3 2 fr),(rd kA l.aO.length 9 (l.aO.map au.cells)),(rd cA l.aj.length 2 (List.zipWith ax.cells l.aj az)),(dE (bg ax.e_ l.aj az)),(rd bA l.ab.length 4 (l.ab.map bK.cells)),(rd sgA d.aY.aa.length 2 (d.aY.aa.map aF.cells))] (vT [(vA (ai.cells (fX l d))),(vB (decide (iW l d)))]):=by
 refine bJ kr Tryz.func91 U U fun AA Q hQ hN=>?_
 try dsimp only
 refine WS fun _ A=>eJ U fun G=>eJ U fun D=>AL U dU fun H=>bI 1 U<|RK A<|WS fun _ B=>rS (SX (Dr U U zm) U U)<|rS (FU U)<|rS (CL (Rj d sgA sgC D hk) (Qb 3 8 1 U U U U U U) U)<|bI 1 U<|RK B<|aq fun _ C=>cW cg 9 kr<|kR 1 U<|dS (SX (DY (k:=2) U U U zm U I) U U)<|dS (pO ((2*2)+1) U (ay 3 U) (Nat.mul_pos I dc) eU U)<|dS (gD 2 1 (Value.func (.func 244) [].toArray [].toArray) U bU (ay 3 U) (show fr[2]? =some [(Value.func (.func 243) [].toArray [].toArray),(Value.func (.func 244) [].toArray [].toArray)] from U) U dc U)<|kv 2 [0,1] (mc 2 U (mc 1 U mn)) U<|dS (CL (N5 l kA kC az cA cC bA bC d sgA sgC hin hsl) (bo [4,5,6,7,8]) U)<|kR 2 U<|cx<|eN U cT U<|rP 1 [] mn ?_
 refine RK C<|ar<|l5 hQ [0] (mc 0 U mn) U ?_
 have E:=Fk (l:=l) hk
 have F:=ur (l:=l) hk
 simp only [E,F]
theorem Ek (l:bH) (kA:OA) (kC:Nat) (az:List RA) (cA:OA) (cC:Nat) (bA:OA) (bC:Nat) (d:ak) (sgA:OA) (sgC:Nat) (hin:ej l az) (hsl:d.aY.aa.length≤1000000):
 dB Tryz.prog 91 [(vA (cm.cells (jR l kA kC cA cC bA bC))),(vA (aG.cells (aG.mk d.Out d.cJ d.Time (iN d.aY sgA sgC))))] [(rd gd 3 2 fr),(rd kA l.aO.length 9 (l.aO.map au.cells)),(rd cA l.aj.length 2 (List.zipWith ax.cells l.aj az)),(dE (bg ax.e_ l.aj az)),(rd bA l.ab.length 4 (l.ab.map bK.cells)),(rd sgA d.aY.aa.length 2 (d.aY.aa.map aF.cells))] (vT [(vA (ai.cells (fX l d))),(vB (decide (iW l d)))]):=by
 by_cases ho:d.Out=true
 ·exact Bd l kA kC az cA cC bA bC d sgA sgC hin hsl ho
 by_cases hf:d.cJ=true
 ·exact Bp l kA kC az cA cC bA bC d sgA sgC hin hsl ⟨by simpa using ho,hf⟩
 ·exact CU l kA kC az cA cC bA bC d sgA sgC hin hsl ⟨by simpa using ho,by simpa using hf⟩
end
section
open Go.RowKit
theorem K6 (lA:OA) (lN lC:Nat):
 nG Tryz.prog 90 [(vS lA lN lC)] [] (fun (x:Nat)=>(Value.func (.func 111) [].toArray [(vP x)].toArray)) (fun (x:Nat)=>True) (fun (x:Nat)=>[(cz x 29 [(vS lA lN lC)])]):=by
 refine eO kr Tryz.func90 U U fun D Q hQ hN=>?_
 try dsimp only
 refine WS fun _ A=>wM U U fun C=>bI 1 U<|RK A<|WS fun _ B=>rS (FU U)<|rP 1 [] mn ?_
 refine RK B<|ar<|LX hQ C [0] [] mn U U U U ?_
 trivial
theorem Lw (nl:List Int) (nlA:OA) (nlC g1:Nat) (hlen:nl.length≤12):
 NM Tryz.prog 111 [] [(vP g1)] [(rd nlA nl.length 1 (nl.map iC)),(cz g1 29 [(vS nlA nl.length nlC)])] (rQ nl):=by
 refine EY kr Tryz.func111 U U fun l J Z A0 T Q hY K AB hQ hN=>?_
 try dsimp only
 refine WS fun _ M=>rP 3 [] (mr 2 U mn) ?_
 refine RK M<|aH ?_
 have F:(0≤nl.length)∧(J 0 A0)∧(Fo A0 T A0):=by exact ⟨Nat.zero_le _,K,AB⟩
 refine bS (ι:={z:Nat×aA // (z.1≤nl.length)∧(J z.1 z.2)∧(Fo A0 T z.2)}) [0,1,5,6] [1] U U (fun z=>[(7,(vI (z.1.1:Int)))]) (fun z=>[z.1.2]) (fun _=>rfl) (fun _=>rfl) (fun z=>nl.length-z.1.1) ⟨(0,A0),F⟩ (bD U) (aR [1,0]) ?_
 clear F
 rintro ⟨⟨i,A⟩,⟨G,B,C⟩⟩ J2 L
 try dsimp only at G B C
 try dsimp only
 refine WS fun _ N=>rP 1 [] mn ?_
 refine RK N<|aq fun _ O=>bR U (aU fun AA=>?_) (aT fun AA=>?_)
 ·refine bQ<|ag<|ag<|aI ?_
  refine hN _ _ _ (j0 (vs:=[]) trivial fun w hs=>RX 1 U (by rw [uv]; have e:nl.length=i:=I; rw [e]; exact B) C hs)
 refine WK O<|aq fun _ P=>aH<|WS fun _ R=>?_
 obtain ⟨x,hx⟩:=aC nl i I
 have S:=bO iC hx
 refine rS (IA i U (ay 0 U) dy dc I I)<|rS (gD i 0 (vI x) U bU (ay 0 U) S U dc U)<|bI 1 U<|RK R<|WS fun _ H=>rP 2 [] mn ?_
 refine Fy 1 hY B C U U U (Hj hx) U U (fun B9 E D=>?_) (fun B9 E D=>?_)
 rotate_left 1
 ·refine rP 1 [] mn ?_
  refine RK H<|aN U<|ar ?_
  refine hQ _ _ _ (j0 (vs:=[]) trivial fun w hs=>Ou 1 U E D hs)
 refine bI 1 U<|RK H<|cq U<|cj<|aP<|KK P<|aw<|rP 2 [] mn ?_
 refine aK ?_
 refine bu (L ⟨((i+1),B9),⟨I,E,D⟩⟩ _ _ _ U os (bD U) (aR [0,1]))
end
section
open Go.RowKit
theorem Nh (x:Int):
 dB Tryz.prog 205 [(vI x)] [] (vB false):=by
 refine bJ kr Tryz.func205 U U fun C Q hQ hN=>?_
 try dsimp only
 refine WS fun _ A=>bI 1 U<|RK A<|WS fun _ B=>rP 4 [] mn ?_
 refine RK B<|ar<|Q1 hQ U U U ?_
 simp
theorem MG (x y:Int):
 dB Tryz.prog 179 [(vI x),(vI y)] [] (vB (decide (x<y))):=by
 refine bJ kr Tryz.func179 U U fun C Q hQ hN=>?_
 try dsimp only
 refine WS fun _ A=>bI 1 U<|RK A<|WS fun _ B=>bI 1 U<|rS (CL (Nh x) (aL) U)<|rP 11 [] mn ?_
 refine RK B<|ar<|Q1 hQ U U U ?_
 exact cB (gU.2 I)
theorem Gj (l:List Int) (lA:OA) (lC:Nat) (hlen:l.length≤1000000):
 LU Tryz.prog 173 [(vS lA l.length lC),(vI 0),(vI (l.length:Int))] [] (own lA lC 3 1 (l.map iC)) (fun (x:(List Int))=>(vT [])) (fun (x:(List Int))=>x.Perm l∧x.Pairwise (· ≤ ·)) (fun (x:(List Int))=>(own lA lC 3 1 (x.map iC))):=by
 refine vv kr Tryz.func173 U U fun g Q hQ hN=>?_
 try dsimp only
 refine WS fun _ X=>bI 1 U<|rS (SX (fM (r:= .int .i64 1) U U U (oP ⟨dc,dc⟩)) U U)<|rP 1 [] mn ?_
 refine RK X<|aH ?_
 have A:(1≤1∧(1≤l.length∨1=1))∧(l.length=l.length)∧(l.Perm l)∧(PI l 1):=by exact ⟨I,rfl,List.Perm.refl _,M4⟩
 refine bS (ι:={z:Nat×(List Int) // (1≤z.1∧(z.1≤l.length∨z.1=1))∧(z.2.length=l.length)∧(z.2.Perm l)∧(PI z.2 z.1)}) [0,1,2] [] U U (fun z=>[(6,(vI (z.1.1:Int)))]) (fun z=>[(own lA lC 3 1 (z.1.2.map iC))]) (fun _=>rfl) (fun _=>rfl) (fun z=>l.length-z.1.1) ⟨(1,l),A⟩ (bD U) (aR [0]) ?_
 clear A
 rintro ⟨⟨i,m⟩,⟨K,AB,E,F⟩⟩ J2 M
 try dsimp only at K AB E F
 try dsimp only
 refine aq fun _ Y=>WS fun _ Z=>rP 3 [] mn ?_
 refine RK Z<|bR U (aU fun e=>?_) (aT fun e=>?_)
 ·refine bQ<|ag<|ag<|aI<|LM hN m 0 [] mn U U U U ?_
  exact ⟨E,Ng F I⟩
 refine WK Y<|aq fun _ O=>aH<|WS fun _ b=>rP 2 [] mn ?_
 refine RK b<|aH ?_
 have A:(i≤i)∧(m.length=l.length)∧(m.Perm l)∧(P8 m i i):=by exact ⟨Nat.le_refl _,AB,E,Gc F I⟩
 refine bS (ι:={z:Nat×(List Int) // (z.1≤i)∧(z.2.length=l.length)∧(z.2.Perm l)∧(P8 z.2 i z.1)}) [0,1,2,6] [] U U (fun z=>[(7,(vI (z.1.1:Int)))]) (fun z=>[(own lA lC 3 1 (z.1.2.map iC))]) (fun _=>rfl) (fun _=>rfl) (fun z=>z.1.1) ⟨(i,m),A⟩ (bD U) (aR [0]) ?_
 clear A
 rintro ⟨⟨j,q⟩,⟨G,B,C,D⟩⟩ J8 W
 try dsimp only at G B C D
 try dsimp only
 refine aq fun _ c=>aq fun _ J=>cW cg 15 kr<|dP 4 [] mn ?_
 refine hP (t:=19) U (aU fun hj=>?_) (aT fun hj=>?_)
 ·refine kR 11 U<|cx<|RK J<|cq U<|bQ<|ag<|ag<|aI<|aP<|KK O<|aw<|rP 3 [] mn ?_
  refine aK ?_
  refine bu (M ⟨((i+1),q),⟨I,B,C,by exact Ie I D⟩⟩ _ _ _ U (by simp only []; omega) (bD U) (aR [0]))
 refine dP 2 [] mn ?_
 obtain ⟨x,hx⟩:=aC q j I
 have L:=bO iC hx
 refine dS (IA j U (aB (n:=l.length) 0 U sq) dy dc I I) ?_
 refine dS (gD j 0 (vI x) U bU (aB (n:=q.length) 0 U sm) L U dc U)<|dP 3 [] mn ?_
 obtain ⟨y,hy⟩:=aC q (j-1) I
 have V:=bO iC hy
 refine dS (IA (j-1) U (aB (n:=l.length) 0 U sq) dy dc I I) ?_
 refine dS (gD (j-1) 0 (vI y) U bU (aB (n:=q.length) 0 U sm) V U dc U)<|dS (CL (MG x y) (aL) U)<|dP 1 [] mn ?_
 refine cx<|RK J<|bR U (aU fun H=>?_) (aT fun H=>?_)
 ·refine bQ<|ag<|ag<|aI<|aP<|KK O<|aw<|rP 3 [] mn ?_
  refine aK ?_
  refine bu (M ⟨((i+1),q),⟨I,B,C,by exact JU hx hy I G H D⟩⟩ _ _ _ U (by simp only []; omega) (bD U) (aR [0]))
 refine WK c<|aq fun _ N=>aH<|dH cg [15,16,17] [8,9,12,13,14] [] [] [0] U U U U U<|eS U (MV U)<|eS U (MV U)<|eS U (MV U)<|eS U (MV U)<|eS U (BI U (xj ⟨I,I⟩))<|eS U (MV U)<|eS U (MV U)<|eS U (BI U (xj ⟨I,I⟩)) ?_
 refine fS U (IA (j-1) U (aB (n:=l.length) 0 U sq) dy dc I I) ?_
 refine fS U (gD (j-1) 0 (vI y) U bU (aB (n:=q.length) 0 U sm) V U dc U)<|eS U (MV U)<|eS U (MV U) ?_
 refine fS U (IA j U (aB (n:=l.length) 0 U sq) dy dc I I) ?_
 refine fS U (gD j 0 (vI x) U bU (aB (n:=q.length) 0 U sm) L U dc U) ?_
 refine fS U (IA j U (aB (n:=l.length) 0 U sq) dy dc I I) ?_
 refine eo U<|cp U fun T12 P=>gu (k:=j) (o:=0) (vs:=[(vI y)]) (es':=(List.map iC (q.set j y))) (C':=[(own lA lC 3 1 (List.map iC (q.set j y)))]) 0 U U U FT U U U U L U dc (by exact (List.map_set (f:=iC) (l:=q) (i:=j) (a:=y)).symm) U<|aK (P _ _ (aR []) ?_)
 refine cp U fun T13 R=>?_
 obtain ⟨d,AA⟩:=aC (q.set j y) (j-1) os
 have hx15m:(List.map iC (q.set j y))[(j-1)]? =some (iC d):=by rw [gn,AA]; rfl
 refine rS (IA (j-1) U (aB (n:=l.length) 0 U sq) dy dc I I) ?_
 refine aK (R _ _ (aR []) ?_)
 refine cp U fun T16 S=>gu (k:=(j-1)) (o:=0) (vs:=[(vI x)]) (es':=(List.map iC ((q.set j y).set (j-1) x))) (C':=[(own lA lC 3 1 (List.map iC ((q.set j y).set (j-1) x)))]) 0 U U U FT U U U U hx15m U dc (by exact (List.map_set (f:=iC) (l:=(q.set j y)) (i:=(j-1)) (a:=x)).symm) U<|aK (S _ _ (aR []) ?_)
 refine fK U<|aP<|KK N<|aw<|rP 3 [] mn ?_
 refine aK ?_
 have T:(vI (((j-1):Nat):Int))=(vI ((j:Int)-1)):=by exact cI I
 refine bu (W ⟨((j-1),((q.set j y).set (j-1) x)),⟨I,by simp; exact B,(HS hx hy).trans C,Iv hx hy I G H D⟩⟩ _ _ _ U (by simp only []; omega) (cP 4<|bw U T<|dp.nil _) (aR [0]))
theorem ND (x:Int) (hx:0≤x∧x≤100):
 nG Tryz.prog 183 [(Value.int .u64 x)] [] (fun (x:Int)=>(vI x)) (fun (x:Int)=>True) (fun (x:Int)=>[]):=by
 refine eO kr Tryz.func183 U U fun N Q hQ hN=>?_
 try dsimp only
 refine WS fun _ D=>bI 1 U<|RK D<|aq fun _ E=>WS fun _ F=>rP 1 [] mn ?_
 refine rS (BI U Fu)<|RK F<|ck U (aT fun L=>?_) (aU fun L=>?_)
 ·exfalso; omega
 refine WK E<|aq fun _ G=>WS fun _ H=>rP 1 [] mn ?_
 refine rS (BI U Fu)<|RK H<|ck U (aT fun M=>?_) (aU fun M=>?_)
 ·exfalso; omega
 refine WK G<|aq fun _ AA=>WS fun _ J=>rP 1 [] mn ?_
 refine rS (BI U Fu)<|RK J<|ck U (aT fun C=>?_) (aU fun C=>?_)
 ·exfalso; omega
 refine WK AA<|WS fun _ B=>bI 2 U<|rS (SX (oG (m:=x) U U SN HU (Bx (by first|assumption|omega))) U U)<|QE (k:=(x).toNat) U U U VZ I (Nat.lt_of_lt_of_le (m:=200) I (of_decide_eq_true kr)) U fun A K=>rS (SX (oG (m:=A) U U HU qn (lE (by first|assumption|omega))) U U)<|rP 2 [] mn ?_
 refine RK B<|ar<|LX hQ (0+A) [] [] mn U U U U ?_
 trivial
theorem P9 (x:Int) (hx:0≤x∧x≤100):
 nG Tryz.prog 146 [(Value.int .u64 x)] [] (fun (x:Int)=>(vI x)) (fun (x:Int)=>True) (fun (x:Int)=>[]):=by
 refine eO kr Tryz.func146 U U fun F Q hQ hN=>?_
 try dsimp only
 refine WS fun _ A=>bI 1 U<|RK A<|aq fun _ B=>cq U<|WK B<|WS fun _ C=>rP 1 [] mn ?_
 refine cX (ND x hx) (aL) U fun E D=>?_
 try dsimp only
 refine rP 1 [] mn ?_
 refine RK C<|ar<|LX hQ E [] [] mn U U U U ?_
 trivial
theorem SM (l:List Int) (lA:OA) (lC:Nat) (u:Int) (hlen:l.length≤12):
 LU Tryz.prog 145 [(vS lA l.length lC),(vI 0),(vI (l.length:Int)),(vI u)] [] (own lA lC 3 1 (l.map iC)) (fun (x:(List Int))=>(vT [])) (fun (x:(List Int))=>x.Perm l∧x.Pairwise (· ≤ ·)) (fun (x:(List Int))=>(own lA lC 3 1 (x.map iC))):=by
 refine vv kr Tryz.func145 U U fun K Q hQ hN=>?_
 try dsimp only
 refine WS fun _ A=>bI 1 U<|RK A<|WS fun _ B=>bI 1 U<|RK B<|aH<|rG 1<|kZ fun R3 AA=>aH<|WS fun _ C=>bI 4 U<|RK C<|aq fun _ H=>WS fun _ D=>rP 2 [] mn ?_
 refine RK D<|bR U (aU fun G=>?_) (aT fun G=>?_)
 ·exfalso; omega
 refine WS fun _ E=>rP 3 [] mn ?_
 refine ow 0 U U U U (Gj l lA lC I) U q8 U (fun J F=>?_)
 try dsimp only
 refine RK E<|ar<|LM hQ J 0 [] mn U U U U ?_
 assumption
theorem PU (l:List Int) (lA:OA) (lC:Nat) (hlen:l.length≤12):
 LU Tryz.prog 110 [(vS lA l.length lC)] [] (own lA lC 3 1 (l.map iC)) (fun (x:(List Int))=>(vT [])) (fun (x:(List Int))=>x.Perm l∧x.Pairwise (· ≤ ·)) (fun (x:(List Int))=>(own lA lC 3 1 (x.map iC))):=by
 refine vv kr Tryz.func110 U U fun F Q hQ hN=>?_
 try dsimp only
 refine WS fun _ A=>bI 3 U<|RK A<|aw<|rP 3 [] mn ?_
 refine rS (SX (oG (m:=(l.length:Int)) U U qn So (Aj (by first|assumption|omega))) U U)<|cX (P9 (l.length:Int) I) (aL) U fun E B=>?_
 try dsimp only
 refine ow 0 U U U U (SM l lA lC E hlen) U q8 U (fun D C=>?_)
 try dsimp only
 refine aK<|LM hN D 0 [] mn U U U U ?_
 assumption
end
section
open Go.RowKit
theorem LI (nl:List Int) (nlA:OA) (nlC g1:Nat) (hlen:nl.length≤12):
 nG Tryz.prog 144 [(vS none 0 0),(Value.func (.func 111) [].toArray [(vP g1)].toArray)] [(rd nlA nl.length 1 (nl.map iC)),(cz g1 29 [(vS nlA nl.length nlC)])] (fun (x:(OA)×Nat)=>(vS x.1 nl.length x.2)) (fun (x:(OA)×Nat)=>True) (fun (x:(OA)×Nat)=>[(own x.1 x.2 3 1 (nl.map iC))]):=by
 refine eO kr Tryz.func144 U U fun R Q hQ hN=>?_
 try dsimp only
 refine WS fun _ D=>wM U U fun J=>bI 1 U<|RK D<|aq fun _ E=>WS fun _ G=>rP 1 [] mn ?_
 refine RK G<|aH<|jl 1 U (by exact fun _ h=>h)<|jl 3 U (by exact fun _ h=>h)<|eX 3 1 ?_
 refine FI (L0:=[(2,(vP J))]) (F:=[(rd nlA nl.length 1 (nl.map iC)).ro,(cz g1 29 [(vS nlA nl.length nlC)]).ro]) (xs:=(rQ nl)) (fun k (y:(OA)×Nat)=>True) (fun k y=>[(own y.1 y.2 3 1 ((nl.take k).map iC)),(cz J 29 [(vS y.1 ((nl.take k).length) y.2)]),(rd nlA nl.length 1 (nl.map iC)).ro]) (fun _ (_:Unit)=>False) (fun _ _=>[]) [0,3,4] [2,1] (none,0) U U (Lw nl nlA nlC g1 (by first|assumption|omega|(simp; done))) U U U (by trivial) (by simp only [List.forall_mem_cons,List.not_mem_nil,false_imp_iff,implies_true,and_true]; exact ⟨⟨_,sm,(dI (cb _))⟩,⟨_,sm,(dI (cb _))⟩⟩) (by exact DB) U (bD U) ?_ ?_ (fun _ _ _ h=>h.elim) (fun _ _ h=>h.elim)
 rotate_left 1
 ·rintro O ⟨a,c⟩ AA
  try dsimp only
  rw [yO]
  refine aP<|KK E<|WS fun _ A=>rP 2 [] (mc 4 U mn) ?_
  refine RK A<|ar<|hQ _ _ _ (rj 0 U U<|j0 (vs:=[(vS a nl.length c)]) ⟨U,trivial⟩ fun w hs=>Qy (a,c) [3] ?_ ?_ U U U hs)
  ·rfl
  ·trivial
 rintro k x ⟨a,c⟩ l ra rb S T K5 Qr6 hx K H B L M
 obtain ⟨y,hy,rfl⟩:=Gy hx
 try dsimp only
 refine aw<|rP 1 [] mn ?_
 refine aK<|bu (H _ _ ?_)
 refine aH<|aw<|rP 2 [] (mc 2 U mn) ?_
 refine ew (xs:=[.tmp 9]) (cs:=[(vI y)]) U dy j7 U U U U (by simp [Value.cells]) U U fun P=>?_
 refine ed (es2:=(List.map iC (nl.take (k+1)))) (m':=(nl.take (k+1)).length) 2 U U U te U U sm (bx (es:=List.map iC [y]) 0 U U (by simp [bP]) U) (lU _) (by simp; omega) (by simp [maxLen]; omega) (by rw [yL hy]; simp) sm U fun N C=>?_
 try dsimp only
 refine VY U G7 U U<|aK<|aP ?_
 exact B (N,C) _ _ (by trivial) (aR [1,2,3,4])
theorem Ge (nl:List Int) (nlA:OA) (nlC g1:Nat) (hlen:nl.length≤12):
 nG Tryz.prog 109 [(Value.func (.func 111) [].toArray [(vP g1)].toArray)] [(rd nlA nl.length 1 (nl.map iC)),(cz g1 29 [(vS nlA nl.length nlC)])] (fun (x:(OA)×Nat)=>(vS x.1 nl.length x.2)) (fun (x:(OA)×Nat)=>True) (fun (x:(OA)×Nat)=>[(own x.1 x.2 3 1 (nl.map iC))]):=by
 refine eO kr Tryz.func109 U U fun G Q hQ hN=>?_
 try dsimp only
 refine WS fun _ A=>bI 1 U<|RK A<|WS fun _ B=>rP 1 [] mn ?_
 refine cX (LI nl nlA nlC g1 hlen) (bo [0,1]) U fun F E=>?_
 obtain ⟨C,D⟩:=F
 try dsimp only
 refine rP 1 [] mn ?_
 refine RK B<|ar<|LX hQ (C,D) [0] [] mn U U U U ?_
 trivial
theorem I6 (nl:List Int) (nlA:OA) (nlC g1:Nat) (hlen:nl.length≤12):
 nG Tryz.prog 89 [(Value.func (.func 111) [].toArray [(vP g1)].toArray)] [(rd nlA nl.length 1 (nl.map iC)),(cz g1 29 [(vS nlA nl.length nlC)])] (fun (x:(OA)×Nat)=>(vS x.1 nl.length x.2)) (fun (x:(OA)×Nat)=>True) (fun (x:(OA)×Nat)=>[(own x.1 x.2 3 1 ((nH nl).map iC))]):=by
 refine eO kr Tryz.func89 U U fun J Q hQ hN=>?_
 try dsimp only
 refine WS fun _ B=>bI 1 U<|RK B<|WS fun _ C=>rP 1 [] mn ?_
 refine cX (Ge nl nlA nlC g1 hlen) (bo [0,1]) U fun AA H=>?_
 obtain ⟨F,G⟩:=AA
 try dsimp only
 refine bI 1 U<|RK C<|WS fun _ D=>rP 1 [] mn ?_
 refine ow 0 U U U U (PU nl F G hlen) U q8 U (fun m A=>?_)
 try dsimp only
 refine RK D<|WS fun _ E=>?_
 obtain rfl:=BZ A.1 A.2
 skip
 refine rP 2 [] mn ?_
 refine RK E<|ar<|LX hQ (F,G) [0] [] mn U U U U ?_
 trivial
end
section
open Go.RowKit
theorem JV (r:eD) (kA:OA) (kC:Nat) (az:List RA) (cA:OA) (cC:Nat) (bA:OA) (bC:Nat) (slA:OA) (slC:Nat) (drA:OA) (drC:Nat) (ha:List cD) (heA:OA) (heC:Nat) (tz:List RA) (tA:OA) (tC:Nat) (ms:Value) (gw h:Nat) (gm g1 g2:Nat) (hin:iF r az ha) (htz:tz.length=r.av.length) (hh:h<r.av.length) (hok:kz r (h+1)):
 LU Tryz.prog 114 [(vI (h:Int)),(vP g1),(vP g2)] [(rd kA r.ao.aO.length 9 (r.ao.aO.map au.cells)),(rd cA r.ao.aj.length 2 (List.zipWith ax.cells r.ao.aj az)),(dE (bg ax.e_ r.ao.aj az)),(rd bA r.ao.ab.length 4 (r.ao.ab.map bK.cells)),(rd slA r.aV.length 1 (r.aV.map iC)),(rd drA r.bV.length 1 (r.bV.map iC)),(rd heA r.av.length 1 (List.zipWith bW r.av ha)),(dE (bg er r.av ha)),(rd tA ((eK r).length) 1 (List.zipWith HT (eK r) tz)),(dE (bg Ma (eK r) tz)),(cz gw 125 (jY.cells (jY.mk (vJ r kA kC cA cC bA bC slA slC drA drC heA heC) (bE.mk tA ((eK r).length) tC) ms))),(cz g1 117 [(vP gw)]),(cz g2 123 [(Value.map (some gm))])] (ku iV gm (cU jW (eI r.ao r.av r.aV.length h 0))) (fun (x:Unit)=>(vT [])) (fun (x:Unit)=>True) (fun (x:Unit)=>(ku iV gm (cU jW (eI r.ao r.av r.aV.length (h+1) 0)))):=by
 have v:=hin.line
 have A5:=hin.g8
 have A6:=hin.has
 have AO:=hin.g7
 have AC:=hin.draw
 have A0:=iL (r:=r)
 refine vv kr Tryz.func114 U U fun w0 Q hQ hN=>?_
 try dsimp only
 refine WS fun _ g=>eV 1 [] (mr 12 U mn) U<|rS (SX (cw U U) U U)<|rP 3 [] (mr 11 U mn) ?_
 obtain ⟨ht,B⟩:=aC r.av h I
 obtain ⟨A,C⟩:=aC ha h I
 have Z:(List.zipWith bW r.av ha)[h]? =some (bW ht A):=cv B C
 have s:=hin.ek _ _ _ B C
 have AK:=s.ly
 have N:=hok h ht I B
 obtain ⟨tr,G⟩:=aC (eK r) h I
 obtain ⟨tra,F⟩:=aC tz h I
 have c:(List.zipWith HT (eK r) tz)[h]? =some (HT tr tra):=cv G F
 refine rS (IA h U (ay 9 U) Fq dc I I)<|rS (gD h 0 (vS tra.1 tr.length tra.2) U bU (ay 9 U) c U dc U) ?_
 have AB:=zE B G
 have A2:tr.length=r.aV.length:=by rw [AB,List.length_map]; exact N.1
 have A1:=N.1
 refine rP 2 [] mn ?_
 refine RK g<|aH ?_
 have E:(0≤r.aV.length):=by exact Nat.zero_le _
 refine bS (ι:={z:Nat // (z≤r.aV.length)}) [0,1,2,14,15] [1,2,3,4,5,6,7,8,9,10,11,12,13] U U (fun z=>[(16,(vI (z.1:Int)))]) (fun z=>[(ku iV gm (cU jW (eI r.ao r.av r.aV.length h z.1)))]) (fun _=>rfl) (fun _=>rfl) (fun z=>r.aV.length-z.1) ⟨0,E⟩ (bD U) (aR [1,2,3,4,5,6,7,8,9,10,11,12,13,0]) ?_
 clear E
 rintro ⟨i,u⟩ J2 K
 try dsimp only
 have a:i<r.aV.length→(eI r.ao r.av r.aV.length h i).lookup (i:Int)=j6 r.ao r.av i h:=JJ
 refine WS fun _ k=>rP 1 [] mn ?_
 refine RK k<|aq fun _ m=>bR U (aU fun h5=>?_) (aT fun h5=>?_)
 ·refine bQ<|ag<|ag<|aI ?_
  rw [show (eI r.ao r.av r.aV.length h i)=(eI r.ao r.av r.aV.length (h+1) 0) from by rw [show i=r.aV.length by omega]; exact NP]
  refine LM hN () 13 [] mn U U U U ?_
  trivial
 refine WK m<|aq fun _ L=>aH<|WS fun _ n=>rP 1 [] mn ?_
 obtain ⟨x,hx⟩:=aC tr i I
 have y:=bO ai.cells hx
 refine rS (IA i U (show fY _ (rd tra.1 tr.length 2 (tr.map ai.cells)).holds from (bX 9 U (a_ G F (by simp [Ma])))) kX dc I I)<|rS (jD i 0 (ai.cells x) U bU (show fY _ (rd tra.1 tr.length 2 (tr.map ai.cells)).holds from (bX 9 U (a_ G F (by simp [Ma])))) y U dc U U)<|AL U dU fun b8=>bI 1 U<|eN U cT U<|RK n<|WS fun _ o=>eV 2 [] (mr 13 U mn) U<|rS (SX (tH (kV:=iV) (x:=(i:Int)) (l:=(eI r.ao r.av r.aV.length h i)) (f:=jW) (z:=(ai.mk 0 0)) U U U sX (iJ qn) U0 (by exact ay 14 U)) U U)<|bI 3 U<|AL U dU fun A3=>eN U cT U<|bI 1 U<|RK o<|aq fun _ P=>WS fun _ H=>eV 1 [] (mr 13 U mn) U<|rS (SX (cw U U) U U)<|eV 4 [] (mr 12 U mn) U<|rS (IA h U (ay 8 U) j8 dc I I)<|rS (gD h 0 (vS A.1.1 ht.length A.1.2) U bU (ay 8 U) Z U dc U)<|rP 1 [] mn ?_
 obtain ⟨d,hd⟩:=aC ht i I
 obtain ⟨da,p⟩:=aC A.2 i I
 have q:(List.zipWith ak.cells ht A.2)[i]? =some (ak.cells d da):=cv hd p
 refine rS (IA i U (show fY _ (rd A.1.1 ht.length 7 (List.zipWith ak.cells ht A.2)).holds from (bX 9 U (a_ B C bY))) mM dc I I)<|rS (pO (i*7) U (show fY _ (rd A.1.1 ht.length 7 (List.zipWith ak.cells ht A.2)).holds from (bX 9 U (a_ B C bY))) (Nat.mul_pos I dc) eU U)<|rS (gD i 0 (vB d.Out) U bU (show fY _ (rd A.1.1 ht.length 7 (List.zipWith ak.cells ht A.2)).holds from (bX 9 U (a_ B C bY))) q U dc U)<|rP 1 [] mn ?_
 refine bT (t:=39) U (fun J=>?_) (fun J=>?_)
 ·refine bI 3 U<|RK H<|aN U<|WS fun _ R=>rP 2 [] (mr 14 U mn) ?_
  have T:(fz (eI r.ao r.av r.aV.length h i) (i:Int))=(eI r.ao r.av r.aV.length h (i+1)):=by exact EL (by exact Hk B hd J)
  refine tG (kV:=iV) (x:=(i:Int)) (C':=[_,_,_,_,_,_,_,_,_,_,_,_,_,_,_,(ku iV gm (cU jW (eI r.ao r.av r.aV.length h (i+1))))]) 15 U U U U sX (iJ qn) U ((nU _ _ _).symm.trans (congrArg _ T)) U<|RK R<|bQ<|ag<|aI<|KK L<|aw<|rP 2 [] mn ?_
  refine aK ?_
  have AA:(vI (((i+1):Nat):Int))=(vI ((i:Int)+1)):=by exact cI I
  refine bu (K ⟨(i+1),(by first|omega|(simp only []; omega))⟩ _ _ _ U os (cP 5<|bw U AA<|dp.nil _) (aR [2,3,4,5,6,7,8,9,10,11,12,13,14,15]))
 refine rP 3 [] mn ?_
 refine RK H<|ck U (fun D=>?_) (fun D=>?_)
 ·rw [Bool.not_eq_true'] at D
  refine WS fun _ S=>rP 2 [] (mr 14 U mn) ?_
  have V:(fz (eI r.ao r.av r.aV.length h i) (i:Int))=(eI r.ao r.av r.aV.length h (i+1)):=by exact EL (by exact DG ((a I).symm.trans (Option.not_isSome_iff_eq_none.1 (by rw [D]; decide))))
  refine tG (kV:=iV) (x:=(i:Int)) (C':=[_,_,_,_,_,_,_,_,_,_,_,_,_,_,_,(ku iV gm (cU jW (eI r.ao r.av r.aV.length h (i+1))))]) 15 U U U U sX (iJ qn) U ((nU _ _ _).symm.trans (congrArg _ V)) U<|RK S<|bQ<|ag<|aI<|KK L<|aw<|rP 2 [] mn ?_
  refine aK ?_
  have W:(vI (((i+1):Nat):Int))=(vI ((i:Int)+1)):=by exact cI I
  refine bu (K ⟨(i+1),(by first|omega|(simp only []; omega))⟩ _ _ _ U os (cP 5<|bw U W<|dp.nil _) (aR [2,3,4,5,6,7,8,9,10,11,12,13,14,15]))
 rw [Bool.not_eq_false'] at D
 refine WK P<|aw ?_
 obtain ⟨O,b⟩:=Option.isSome_iff_exists.1 D
 have M:j6 r.ao r.av i h=some O:=(a I).symm.trans b
 have e:=Ib AB hx hd
 have A7:=FB (fun j x hj hx=>hok j x I hx) I M
 have w:=FX (N.2 d (aM hd))
 rw [← e] at w
 rw [show ((List.lookup (i:Int) (eI r.ao r.av r.aV.length h i)).getD (ai.mk 0 0))=O from by rw [b]; rfl]
 refine eV 6 [0,1,2] (mr 14 U (mc 0 U (mc 1 U mn))) U<|rS (BI U (uj I I I))<|eV 5 [0,1] (mc 0 U (mc 1 U mn)) U<|rS (BI U (uj I I I))<|rP 1 [] mn ?_
 refine rS (SX (bp (xs:=[(0,.tmp 52),(1,.tmp 58)]) (cs:=(ai.cells (ai.mk (O.Lo+(x.Lo/10)) (O.Hi+(x.Hi/10))))) U U (bq gM U)) U U) ?_
 have X:(eB (eI r.ao r.av r.aV.length h i) (i:Int) (ai.mk (O.Lo+(x.Lo/10)) (O.Hi+(x.Hi/10))))=(eI r.ao r.av r.aV.length h (i+1)):=by exact M9 I (by rw [M]; rfl) (by rw [e]; exact EB B hd (by rw [J]; decide) M)
 refine iY (kV:=iV) (x:=(i:Int)) (C':=[_,_,_,_,_,_,_,_,_,_,_,_,_,_,_,(ku iV gm (cU jW (eI r.ao r.av r.aV.length h (i+1))))]) 15 U U U U sX (iJ qn) U ((gR _ _ _ _).symm.trans (congrArg _ X)) U<|aK<|aP<|KK L<|aw<|rP 2 [] mn ?_
 refine aK ?_
 have Y:(vI (((i+1):Nat):Int))=(vI ((i:Int)+1)):=by exact cI I
 refine bu (K ⟨(i+1),(by first|omega|(simp only []; omega))⟩ _ _ _ U os (cP 5<|bw U Y<|dp.nil _) (aR [2,3,4,5,6,7,8,9,10,11,12,13,14,15]))
theorem Ta (r:eD) (kA:OA) (kC:Nat) (az:List RA) (cA:OA) (cC:Nat) (bA:OA) (bC:Nat) (slA:OA) (slC:Nat) (drA:OA) (drC:Nat) (ha:List cD) (heA:OA) (heC:Nat) (tz:List RA) (tA:OA) (tC:Nat) (ms:Value) (gw n:Nat) (hin:iF r az ha) (htz:tz.length=r.av.length) (hn:n≤r.av.length) (hok:kz r n):
 nG Tryz.prog 92 [(vP gw),(vI (n:Int))] [(rd kA r.ao.aO.length 9 (r.ao.aO.map au.cells)),(rd cA r.ao.aj.length 2 (List.zipWith ax.cells r.ao.aj az)),(dE (bg ax.e_ r.ao.aj az)),(rd bA r.ao.ab.length 4 (r.ao.ab.map bK.cells)),(rd slA r.aV.length 1 (r.aV.map iC)),(rd drA r.bV.length 1 (r.bV.map iC)),(rd heA r.av.length 1 (List.zipWith bW r.av ha)),(dE (bg er r.av ha)),(rd tA ((eK r).length) 1 (List.zipWith HT (eK r) tz)),(dE (bg Ma (eK r) tz)),(cz gw 125 (jY.cells (jY.mk (vJ r kA kC cA cC bA bC slA slC drA drC heA heC) (bE.mk tA ((eK r).length) tC) ms)))] (fun (x:Nat)=>(Value.map (some x))) (fun (x:Nat)=>True) (fun (x:Nat)=>[(ku iV x (cU jW (Da r n)))]):=by
 have c:=hin.line
 have m:=hin.g8
 have o:=hin.has
 have e:=hin.g7
 have d:=hin.draw
 have f:=iL (r:=r)
 refine eO kr Tryz.func92 U U fun q Q hQ hN=>?_
 try dsimp only
 refine WS fun _ V=>wM U U fun k=>rP 1 [] mn ?_
 refine RK V<|WS fun _ W=>mJ (kV:=iV) U U fun B=>?_
 try dsimp only
 refine AL U Tz fun l=>L8 U FJ U U<|RK W<|aq fun _ X=>WS fun _ Y=>eV 1 [] (mc 2 U mn) U<|rS (SX (cw U U) U U)<|rP 5 [] (mr 13 U mn) ?_
 refine RK Y<|aH ?_
 skip
 have A:(0≤r.aV.length):=by exact Nat.zero_le _
 refine bS (ι:={z:Nat // (z≤r.aV.length)}) [1,2,5,15] [0,2,3,4,5,6,7,8,9,10,11,12,13] U U (fun z=>[(16,(vI (z.1:Int)))]) (fun z=>[(ku iV B (cU jW (eI r.ao r.av z.1 0 0)))]) (fun _=>rfl) (fun _=>rfl) (fun z=>r.aV.length-z.1) ⟨0,A⟩ (bD U) (aR [0,2,3,4,5,6,7,8,9,10,11,12,13,1]) ?_
 clear A
 rintro ⟨i,a⟩ J8 AA
 try dsimp only
 refine WS fun _ Z=>rP 1 [] mn ?_
 refine RK Z<|aq fun _ D=>ck U (aT fun S=>?_) (aU fun S=>?_)
 ·refine WK D<|aq fun _ E=>aH<|WS fun _ F=>bI 2 U<|RK F<|aw<|rP 2 [] (mc 0 U mn) ?_
  refine rS (SX (bp (xs:=[]) (cs:=(ai.cells (ai.mk 0 0))) U U (bq gM U)) U U) ?_
  have O:(eB (eI r.ao r.av i 0 0) (i:Int) (ai.mk 0 0))=(eI r.ao r.av (i+1) 0 0):=by exact Mk
  refine iY (kV:=iV) (x:=(i:Int)) (C':=[_,_,_,_,_,_,_,_,_,_,_,_,_,(ku iV B (cU jW (eI r.ao r.av (i+1) 0 0)))]) 13 U U U U sX (iJ qn) U ((gR _ _ _ _).symm.trans (congrArg _ O)) U<|aK<|aP<|KK E<|aw<|rP 2 [] mn ?_
  refine aK ?_
  have P:(vI (((i+1):Nat):Int))=(vI ((i:Int)+1)):=by exact cI I
  refine bu (AA ⟨(i+1),(by first|omega|(simp only []; omega))⟩ _ _ _ U os (cP 4<|bw U P<|dp.nil _) (aR [0,1,2,3,4,5,6,7,8,9,10,11,12,13]))
 refine bQ<|ag<|ag<|aI<|KK X<|WS fun _ G=>rS (FU U)<|bI 1 U<|RK G<|aq fun _ H=>WS fun _ AB=>rP 2 [] mn ?_
 refine RK AB<|aH ?_
 rw [show (eI r.ao r.av i 0 0)=(eI r.ao r.av r.aV.length 0 0) from by rw [show i=r.aV.length by omega]]
 have A:(0≤n):=by exact Nat.zero_le _
 refine bS (ι:={z:Nat // (z≤n)}) [2,5,7,24] [0,1,2,3,4,5,6,7,8,9,10,11,12] U U (fun z=>[(25,(vI (z.1:Int)))]) (fun z=>[(ku iV B (cU jW (eI r.ao r.av r.aV.length z.1 0)))]) (fun _=>rfl) (fun _=>rfl) (fun z=>n-z.1) ⟨0,A⟩ (bD U) (aR [0,1,2,3,4,5,6,7,8,9,10,11,12,13]) ?_
 clear A
 rintro ⟨h,b⟩ J19 C
 try dsimp only
 refine WS fun _ J=>rP 1 [] mn ?_
 refine RK J<|aq fun _ K=>bR U (aU fun T=>?_) (aT fun T=>?_)
 ·refine bQ<|ag<|ag<|aI<|KK H<|aq fun _ N=>?_
  rw [show (eI r.ao r.av r.aV.length h 0)=(Da r n) from by rw [show h=n by omega]; exact MD]
  refine aw<|rP 2 [] (mc 0 U mn) ?_
  refine RK N<|ar<|LX hQ B [13] [] mn U U U U ?_
  trivial
 refine WK K<|aq fun _ L=>aH<|WS fun _ M=>bI 2 U<|RK M<|aw<|rP 2 [] mn ?_
 refine ow 13 U U U U (JV r kA kC az cA cC bA bC slA slC drA drC ha heA heC tz tA tC ms gw h B k l hin htz I (by exact fun j x hj hx=>hok j x I hx)) U (eC 2 U U (dI (cb _)) (eC 3 U U (dI (cb _)) (eC 4 U U (dI (cb _)) (eC 5 U U (dI (cb _)) (eC 6 U U (dI (cb _)) (eC 7 U U (dI (cb _)) (eC 8 U U (dI (cb _)) (eC 9 U U (dI (cb _)) (eC 10 U U (dI (cb _)) (eC 11 U U (dI (cb _)) (eC 12 U U (dI (cb _)) (eC 1 U U (cb _) (eC 0 U U (cb _) q8))))))))))))) U (fun p g=>?_)
 try dsimp only
 refine aK<|aP<|KK L<|aw<|rP 2 [] mn ?_
 refine aK ?_
 have R:(vI (((h+1):Nat):Int))=(vI ((h:Int)+1)):=by exact cI I
 refine bu (C ⟨(h+1),(by first|omega|(simp only []; omega))⟩ _ _ _ U os (cP 4<|bw U R<|dp.nil _) (aR [0,1,2,3,4,5,6,7,8,9,10,11,12,13]))
end
section
open Go.RowKit
theorem FL (r:eD) (kA:OA) (kC:Nat) (az:List RA) (cA:OA) (cC:Nat) (bA:OA) (bC:Nat) (slA:OA) (slC:Nat) (drA:OA) (drC:Nat) (ha:List cD) (heA:OA) (heC:Nat) (hin:iF r az ha):
 nG Tryz.prog 58 [(vA (cY.cells (vJ r kA kC cA cC bA bC slA slC drA drC heA heC)))] [(rd gd 3 2 fr),(rd kA r.ao.aO.length 9 (r.ao.aO.map au.cells)),(rd cA r.ao.aj.length 2 (List.zipWith ax.cells r.ao.aj az)),(dE (bg ax.e_ r.ao.aj az)),(rd bA r.ao.ab.length 4 (r.ao.ab.map bK.cells)),(rd slA r.aV.length 1 (r.aV.map iC)),(rd drA r.bV.length 1 (r.bV.map iC)),(rd heA r.av.length 1 (List.zipWith bW r.av ha)),(dE (bg er r.av ha))] (fun (x:Bool×Int×Nat×Nat×(OA)×Nat×(List RA))=>bif x.1 then (vT [(Value.pointer (some ⟨x.2.2.1,0,none⟩)),(vI 0)]) else (vT [(Value.pointer none),(vI x.2.1)])) (fun (x:Bool×Int×Nat×Nat×(OA)×Nat×(List RA))=>(x.1=true→(gf r=0∧x.2.2.2.2.2.2.length=r.av.length))∧(x.1=false→(x.2.1=gf r∧ ¬ gf r=0))) (fun (x:Bool×Int×Nat×Nat×(OA)×Nat×(List RA))=>bif x.1 then [(cz x.2.2.1 125 (jY.cells (jY.mk (vJ r kA kC cA cC bA bC slA slC drA drC heA heC) (bE.mk x.2.2.2.2.1 ((eK r).length) x.2.2.2.2.2.1) (Value.map (some x.2.2.2.1))))),(own x.2.2.2.2.1 x.2.2.2.2.2.1 121 1 (List.zipWith HT (eK r) x.2.2.2.2.2.2)),(bM (bg F5 (eK r) x.2.2.2.2.2.2)),(ku iV x.2.2.2.1 (cU jW (OB r)))] else []):=by
 have LE:=hin.line
 have Pn:=hin.g8
 have Ps:=hin.has
 have M2:=hin.g7
 have L3:=hin.draw
 have GE:=iL (r:=r)
 refine eO kr Tryz.func58 U U fun w0 Q hQ hN=>?_
 try dsimp only
 refine WS fun _ J8=>eJ U fun b2=>bI 2 U<|RK J8<|aq fun _ J9=>WS fun _ Kl=>bI 1 U<|rS (LP (cm.cells (jR r.ao kA kC cA cC bA bC)) 0 U bU U U U)<|rS (CL (wY r.ao kA kC az cA cC bA bC asm) (bo [2,3,4,5]) U)<|bI 1 U<|RK Kl<|WS fun _ Kw=>rP 2 [] mn ?_
 refine RK Kw<|ck U (aX fun B=>?_) (aW fun B=>?_)
 ·refine WS fun _ K0=>rP 3 [] mn ?_
  refine RK K0<|ar<|LX hQ (false,(eT r.ao),0,0,none,0,[]) [] [] mn U (by rfl) U U ?_
  exact qF<|QZ (zL B) B
 refine WK J9<|WS fun _ K4=>eV 4 [] (mc 0 U mn) U<|RK K4<|WS fun _ K5=>rP 2 [] (mc 0 U mn) ?_
 refine cX (K6 drA r.bV.length drC) (aL) U fun H1 NE=>?_
 try dsimp only
 refine cX (I6 r.bV drA drC H1 asm) (bo [8,0]) U fun L2 Ne=>?_
 obtain ⟨Or,Pl⟩:=L2
 try dsimp only
 refine bI 1 U<|RK K5<|aq fun _ e=>WS fun _ H=>rP 1 [] mn ?_
 refine ew (xs:=[.tmp 29]) (cs:=[(vI (r.aV.length:Int))]) U dy j7 U U U U (by simp [Value.cells]) U U fun IO=>?_
 refine rS (CL (dB.eq (p_ 1 5 ([(r.aV.length:Int)]) (some ⟨IO,0,none⟩) 1 (by (simp; done))) cy) (aD (bx 0 U U (by simp [bP]) U)<|aL) U) ?_
 refine rP 2 [] mn ?_
 refine bT (t:=33) U (aX fun In=>?_) (aW fun In=>?_)
 ·refine bI 26 U<|RK H<|aN U<|WS fun _ f=>rP 2 [] mn ?_
  refine RK f<|ar<|LX hQ (false,60,0,0,none,0,[]) [] [] mn U (by rfl) U U ?_
  exact qF<|sT (kN B (fun q:fD r=>by have q1:=q.num; have q2:=q.z4; have q3:=q.nh; have q4:=q.zY; omega))
 refine rP 6 [] mn ?_
 refine bT (t:=39) U (aX fun I0=>?_) (aW fun I0=>?_)
 ·refine bI 20 U<|RK H<|aN U<|WS fun _ g=>rP 2 [] mn ?_
  refine RK g<|ar<|LX hQ (false,60,0,0,none,0,[]) [] [] mn U (by rfl) U U ?_
  exact qF<|sT (kN B (fun q:fD r=>by have q1:=q.num; have q2:=q.z4; have q3:=q.nh; have q4:=q.zY; omega))
 refine rP 2 [] (mc 3 U mn) ?_
 refine ew (xs:=[.tmp 41]) (cs:=[(vI r.j9)]) U dy j7 U U U U (by simp [Value.cells]) U U fun IR=>?_
 refine rS (CL (dB.eq (p_ 0 5 ([r.j9]) (some ⟨IR,0,none⟩) 1 (by (simp; done))) cy) (aD (bx 0 U U (by simp [bP]) U)<|aL) U) ?_
 refine rP 3 [] mn ?_
 refine bT (t:=46) U (aX fun Je=>?_) (aW fun Je=>?_)
 ·refine bI 13 U<|RK H<|aN U<|WS fun _ k=>rP 2 [] mn ?_
  refine RK k<|ar<|LX hQ (false,60,0,0,none,0,[]) [] [] mn U (by rfl) U U ?_
  exact qF<|sT (kN B (fun q:fD r=>by have q1:=q.num; have q2:=q.z4; have q3:=q.nh; have q4:=q.zY; omega))
 refine rP 3 [] (mc 4 U mn) ?_
 refine ew (xs:=[.tmp 49]) (cs:=[(vI (r.av.length:Int))]) U dy j7 U U U U (by simp [Value.cells]) U U fun Id=>?_
 refine rS (CL (dB.eq (p_ 1 3 ([(r.av.length:Int)]) (some ⟨Id,0,none⟩) 1 (by (simp; done))) cy) (aD (bx 0 U U (by simp [bP]) U)<|aL) U) ?_
 refine rP 3 [] mn ?_
 refine bT (t:=54) U (aX fun J2=>?_) (aW fun J2=>?_)
 ·refine bI 5 U<|RK H<|aN U<|WS fun _ l=>rP 2 [] mn ?_
  refine RK l<|ar<|LX hQ (false,60,0,0,none,0,[]) [] [] mn U (by rfl) U U ?_
  exact qF<|sT (kN B (fun q:fD r=>by have q1:=q.num; have q2:=q.z4; have q3:=q.nh; have q4:=q.zY; omega))
 refine eV 2 [] (mc 5 U mn) U<|rS (CL (p_ 0 9999 r.aV slA slC asm) (bo [11]) U)<|rP 2 [] mn ?_
 refine RK H<|ck U (fun N=>?_) (fun N=>?_)
 ·rw [Bool.not_eq_true'] at N
  refine WS fun _ m=>rP 2 [] mn ?_
  refine RK m<|ar<|LX hQ (false,60,0,0,none,0,[]) [] [] mn U (by rfl) U U ?_
  exact qF<|sT (kN B (fun q:fD r=>by exact absurd (q.ins.symm.trans N) dc))
 rw [Bool.not_eq_false'] at N
 refine WK e<|aq fun _ o=>WS fun _ p=>?_
 have QS:(nH r.bV).length=r.aV.length:=by rw [uV]; omega
 refine rP 2 [] mn ?_
 refine RK p<|aH ?_
 have A:(0≤r.aV.length)∧(sr r 0):=by exact ⟨Nat.zero_le _,DV⟩
 refine bS (ι:={z:Nat // (z≤r.aV.length)∧(sr r z)}) [1,5,6,60] [3,5,6,7,8,9,10,11,12,13,14] U U (fun z=>[(61,(vI (z.1:Int)))]) (fun z=>[]) (fun _=>rfl) (fun _=>rfl) (fun z=>r.aV.length-z.1) ⟨0,A⟩ (bD U) (aR [3,5,6,7,8,9,10,11,12,13,14]) ?_
 clear A
 rintro ⟨i,⟨LD,J⟩⟩ J28 V
 try dsimp only
 refine WS fun _ s=>rP 1 [] mn ?_
 refine RK s<|aq fun _ w=>ck U (aT fun J4=>?_) (aU fun J4=>?_)
 ·refine WK w<|aq fun _ W=>aH<|WS fun _ AC=>bI 2 U<|RK AC<|aq fun _ O=>cW cg 24 kr<|dP 2 [] mn ?_
  obtain ⟨x,hx⟩:=aC (nH r.bV) i I
  have LT:=bO iC hx
  refine dS (IA i U (aB (n:=r.bV.length) 0 U sq) dy dc I I) ?_
  refine dS (gD i 0 (vI x) U bU (aB (n:=(nH r.bV).length) 0 U sm) LT U dc U)<|dP 3 [] mn ?_
  refine gP (t:=70) U (aX fun S=>?_) (aW fun S=>?_)
  ·refine kR 17 U<|cx<|RK O<|aN U<|WS fun _ AK=>rP 2 [] mn ?_
   refine RK AK<|ar<|LX hQ (false,60,0,0,none,0,[]) [] [] mn U (by rfl) U U ?_
   exact qF<|sT (kN B (fun q:fD r=>by exact absurd (q.drawn hx) S))
  refine dP 3 [] mn ?_
  refine hP (t:=73) U (aU fun J5=>?_) (aT fun J5=>?_)
  ·refine kR 14 U<|cx<|RK O<|cq U<|cj<|aP<|KK W<|aw<|rP 2 [] mn ?_
   refine aK ?_
   have EQ:(vI (((i+1):Nat):Int))=(vI ((i:Int)+1)):=by exact cI I
   refine bu (V ⟨(i+1),⟨I,x_ J hx S (fun u v hu hv hw=>by omega)⟩⟩ _ _ _ U os (cP 4<|bw U EQ<|dp.nil _) (aR [0,1,2,3,4,5,6,7,8,9,10]))
  refine dP 3 [] (mc 1 U mn) ?_
  obtain ⟨y,hy⟩:=aC r.aV i I
  have La:=bO iC hy
  refine dS (IA i U (ay 7 U) dy dc I I)<|dS (gD i 0 (vI y) U bU (ay 7 U) La U dc U)<|dP 4 [] (mc 1 U mn) ?_
  obtain ⟨z,hz⟩:=aC r.aV (i-1) I
  have Li:=bO iC hz
  refine dS (IA (i-1) U (ay 7 U) dy dc I I)<|dS (gD (i-1) 0 (vI z) U bU (ay 7 U) Li U dc U)<|dP 3 [] mn ?_
  refine cx<|RK O<|bR U (aU fun J6=>?_) (aT fun J6=>?_)
  ·refine cj<|aP<|KK W<|aw<|rP 2 [] mn ?_
   refine aK ?_
   have Do:(vI (((i+1):Nat):Int))=(vI ((i:Int)+1)):=by exact cI I
   refine bu (V ⟨(i+1),⟨I,x_ J hx S (fun u v hu hv hw=>by (rw [hy] at hu; cases hu; rw [hz] at hw; cases hw; omega))⟩⟩ _ _ _ rfl os (cP 4<|bw rfl Do<|dp.nil _) (aR [0,1,2,3,4,5,6,7,8,9,10]))
  refine WS fun _ AO=>rP 2 [] mn ?_
  refine RK AO<|ar<|LX hQ (false,60,0,0,none,0,[]) [] [] mn U (by rfl) U U ?_
  exact qF<|sT (kN B (fun q:fD r=>by have q1:=(q.ids i y hy).2 z I hz; omega))
 refine bQ<|ag<|ag<|aI<|KK o<|WS fun _ A0=>eV 1 [] (mc 1 U mn) U<|rS (SX (bp (xs:=[(0,.tmp 89)]) (cs:=(jY.cells (jY.mk (vJ r kA kC cA cC bA bC slA slC drA drC heA heC) (bE.mk none 0 0) (Value.map none)))) U U (bq Sv U)) U U)<|eJ U fun L=>bI 1 U<|RK A0<|aq fun _ A1=>WS fun _ A2=>rP 4 [] (mc 2 U mn) ?_
 refine RK A2<|aH<|eX 121 1<|nN ?_
 have A:(0≤r.av.length)∧(([]:List RA).length=0)∧(kz r 0):=by exact ⟨Nat.zero_le _,rfl,yz⟩
 refine bS (ι:={z:Nat×(List RA)×(OA)×Nat // (z.1≤r.av.length)∧(z.2.1.length=z.1)∧(kz r z.1)}) [1,5,8,93,94] [3,4,5,6,7,8,9,10,11,12,13] U U (fun z=>[(95,(vI (z.1.1:Int)))]) (fun z=>[(bM (bg F5 (g0 r z.1.1) z.1.2.1)),(own z.1.2.2.1 z.1.2.2.2 121 1 (List.map sC (List.zipWith C_ (g0 r z.1.1) z.1.2.1))),(cz L 125 (jY.cells (jY.mk (vJ r kA kC cA cC bA bC slA slC drA drC heA heC) (bE.mk z.1.2.2.1 ((List.zipWith C_ (g0 r z.1.1) z.1.2.1).length) z.1.2.2.2) (Value.map none))))]) (fun _=>rfl) (fun _=>rfl) (fun z=>r.av.length-z.1.1) ⟨(0,([]:List RA),none,0),A⟩ (bD U) (aR [3,4,5,6,7,8,9,10,11,12,13,0,1,2]) ?_
 clear A
 rintro ⟨⟨h,tz,a,c⟩,⟨T,C,E⟩⟩ J42 Z
 try dsimp only at T C E
 try dsimp only
 refine WS fun _ A3=>rP 1 [] mn ?_
 refine RK A3<|aq fun _ A4=>bR U (aU fun J7=>?_) (aT fun J7=>?_)
 ·refine bQ<|ag<|ag<|aI<|KK A1<|aq fun _ Di=>?_
  have LA:g0 r h=eK r:=by unfold eK; rw [show h=r.av.length by omega]
  have GT:tz.length=r.av.length:=by omega
  rw [LA,zp,show (List.zipWith C_ (eK r) tz).length=(eK r).length from by rw [List.length_zipWith]; omega]
  have X:fD r:=KD (n:=i) I I I I I N J E I
  refine aw<|rP 5 [] (mc 1 U mn) ?_
  refine cX (Ta r kA kC az cA cC bA bC slA slC drA drC ha heA heC tz a c (Value.map none) L r.av.length hin asm I (by exact X.MQ)) (ld [3,4,5,6,7,8,9,10]<|aD (aB (n:=(eK r).length) 12 U (wT (by rw [GE]; exact GT)))<|aD (dR 11 U Fp)<|dM 13 U U<|aL) U fun K Op=>?_
  try dsimp only
  refine rS (SX (cw U U) U U)<|rP 1 [] mn ?_
  refine g5 (vs:=[(Value.map (some K))]) (cs':=(jY.cells (jY.mk (vJ r kA kC cA cC bA bC slA slC drA drC heA heC) (bE.mk a ((eK r).length) c) (Value.map (some K))))) (C':=[_,_,_,_,_,_,_,_,_,_,_,_,_,_,(cz L 125 (jY.cells (jY.mk (vJ r kA kC cA cC bA bC slA slC drA drC heA heC) (bE.mk a ((eK r).length) c) (Value.map (some K)))))]) 14 U U U FJ U U U U U U U<|RK Di<|aq fun _ Dj=>?_
  rw [show Da r r.av.length=OB r from rfl]
  refine aw<|rP 3 [] mn ?_
  refine RK Dj<|ar ?_
  refine LX hQ (true,0,L,K,a,c,tz) [14,13,12,0] [] mn U (by (show List.all _ _=true; simp only [cond_true,il,List.all_nil,Ep,Bool.and_true]; rfl)) U U ?_
  exact ⟨fun _=>⟨Cb B X,GT⟩,Pj⟩
 refine WK A4<|aq fun _ A5=>aH<|WS fun _ A6=>?_
 obtain ⟨ht,D⟩:=aC r.av h I
 obtain ⟨G,AB⟩:=aC ha h I
 have Fn:(List.zipWith bW r.av ha)[h]? =some (bW ht G):=cv D AB
 refine rS (IA h U (ay 9 U) j8 dc I I)<|rS (gD h 0 (vS G.1.1 ht.length G.1.2) U bU (ay 9 U) Fn U dc U)<|rP 1 [] mn ?_
 refine RK A6<|aq fun _ A7=>WS fun _ A8=>?_
 have Fd:=hin.ek _ _ _ D AB
 have MI:=Fd.ly
 refine rP 4 [] mn ?_
 refine RK A8<|ck U (aX fun Y=>?_) (aW fun Y=>?_)
 ·refine WS fun _ A9=>rP 2 [] mn ?_
  refine RK A9<|ar<|LX hQ (false,60,0,0,none,0,[]) [] [] mn U (by rfl) U U ?_
  exact qF<|sT (kN B (fun q:fD r=>by have q1:=(q.ek ht (aM D)).1; omega))
 refine WK A7<|WS fun _ B3=>bI 1 U<|RK B3<|aq fun _ B9=>WS fun _ CC=>rP 3 [] mn ?_
 refine RK CC<|aH<|eX 38 2 ?_
 have A:(0≤ht.length)∧(oI r.ao ht 0):=by exact ⟨Nat.zero_le _,wm⟩
 refine bS (ι:={z:Nat×(OA)×Nat // (z.1≤ht.length)∧(oI r.ao ht z.1)}) [1,5,8,10,93,94,95,103,104] [1,2,3,4,5,6,7,8,9,10,11,12,13,14] U U (fun z=>[(11,(vS z.1.2.1 (((ht.take z.1.1).map (fX r.ao)).length) z.1.2.2)),(105,(vI (z.1.1:Int)))]) (fun z=>[(own z.1.2.1 z.1.2.2 38 2 (((ht.take z.1.1).map (fX r.ao)).map ai.cells))]) (fun _=>rfl) (fun _=>rfl) (fun z=>ht.length-z.1.1) ⟨(0,none,0),A⟩ (bD U) (aR [1,2,3,4,5,6,7,8,9,10,11,12,13,14,0]) ?_
 clear A
 rintro ⟨⟨j,la,lc⟩,⟨AA,F⟩⟩ J53 b
 try dsimp only at AA F
 try dsimp only
 refine WS fun _ Ci=>rP 1 [] mn ?_
 refine RK Ci<|aq fun _ Ck=>bR U (aU fun J3=>?_) (aT fun J3=>?_)
 ·refine bQ<|ag<|ag<|aI<|KK B9<|aw<|bI 2 U<|rS (SX (cw U U) U U)<|rP 2 [] (mc 13 U mn) ?_
  rw [show ((ht.take j).map (fX r.ao))=ht.map (fX r.ao) from by rw [List.take_of_length_le I]]
  refine rP 1 [] mn ?_
  refine ew (xs:=[.tmp 128]) (cs:=[(vS la ((ht.map (fX r.ao)).length) lc)]) U Fq Oy U U U U (by simp [Value.cells]) U U fun Pi=>?_
  refine ed (es2:=(List.map sC (List.zipWith C_ (g0 r (h+1)) (tz++[(la,lc)])))) (m':=(List.zipWith C_ (g0 r (h+1)) (tz++[(la,lc)])).length) 13 U U U On U U sm (bx (es:=List.map sC [(bE.mk la ((ht.map (fX r.ao)).length) lc)]) 0 U U (by simp [zV]) U) (Ka _) (by rw [List.length_zipWith,lk I]; omega) (by rw [List.length_zipWith,lk I]; simp only [maxLen]; omega) (by rw [uQ D C,List.map_append]; rfl) (by rw [uQ D C]; simp) U fun P R=>?_
  try dsimp only
  refine rS (SX (cw U U) U U)<|bI 1 U<|g5 (vs:=[(vS P ((List.zipWith C_ (g0 r (h+1)) (tz++[(la,lc)])).length) R)]) (cs':=(jY.cells (jY.mk (vJ r kA kC cA cC bA bC slA slC drA drC heA heC) (bE.mk P ((List.zipWith C_ (g0 r (h+1)) (tz++[(la,lc)])).length) R) (Value.map none)))) (C':=[_,_,_,_,_,_,_,_,_,_,_,_,_,_,(cz L 125 (jY.cells (jY.mk (vJ r kA kC cA cC bA bC slA slC drA drC heA heC) (bE.mk P ((List.zipWith C_ (g0 r (h+1)) (tz++[(la,lc)])).length) R) (Value.map none)))),_]) 14 U U U S8 U U U U U U U<|aK<|aP<|KK A5<|aw<|rP 2 [] mn ?_
  refine aK<|zS (X':=bg F5 (g0 r (h+1)) (tz++[(la,lc)])) 12 15 U U (Bo (a:=(la,lc)) D C) ?_
  have FQ:(vI (((h+1):Nat):Int))=(vI ((h:Int)+1)):=by exact cI I
  refine bu (Z ⟨((h+1),(tz++[(la,lc)]),P,R),⟨I,by simp; omega,xI E D (F3 I F I)⟩⟩ _ _ _ U os (cP 5<|bw U FQ<|dp.nil _) (aR [2,3,4,5,6,7,8,9,10,11,12,0,13,14]))
 refine WK Ck<|aq fun _ Cp=>aH<|WS fun _ Cx=>?_
 obtain ⟨d,hd⟩:=aC ht j I
 obtain ⟨da,FS⟩:=aC G.2 j I
 have K8:(List.zipWith ak.cells ht G.2)[j]? =some (ak.cells d da):=cv hd FS
 refine rS (IA j U (show fY _ (rd G.1.1 ht.length 7 (List.zipWith ak.cells ht G.2)).holds from (bX 10 U (a_ D AB bY))) mM dc I I)<|rS (jD j 0 (aG.cells (aG.mk d.Out d.cJ d.Time (cL.mk d.aY.Start d.aY.gj (bE.mk da.1 d.aY.aa.length da.2)))) U bU (show fY _ (rd G.1.1 ht.length 7 (List.zipWith ak.cells ht G.2)).holds from (bX 10 U (a_ D AB bY))) K8 U dc U U)<|AL U BX fun Os=>eN U Ef U<|RK Cx<|WS fun _ C0=>bI 1 U<|rS (LP (cm.cells (jR r.ao kA kC cA cC bA bC)) 2 U bU U U U)<|rP 1 [] (mc 0 U mn) ?_
 have Qh:=Fd.sig d (aM hd)
 refine rS (CL (Ek r.ao kA kC az cA cC bA bC d da.1 da.2 asm asm) (ld [3,4,5,6,7]<|aD (show fY _ (rd da.1 d.aY.aa.length 2 (d.aY.aa.map aF.cells)).holds from (bX 11 U (a_ D AB (dh _ (a_ hd FS (by simp [ak.e_]))))))<|aL) U)<|bI 3 U<|AL U dU fun O8=>eN U cT U<|bI 1 U<|RK C0<|aq fun _ C1=>WS fun _ C2=>rP 2 [] mn ?_
 refine RK C2<|bR U (aW fun M=>?_) (aX fun M=>?_)
 ·refine WK C1<|aw<|rP 2 [] (mc 0 U mn) ?_
  refine ew (xs:=[.tmp 119]) (cs:=(ai.cells (fX r.ao d))) U kX dU U U U U (by simp [Value.cells,ai.bk]) U U fun PP=>?_
  refine ed (es2:=(List.map ai.cells ((ht.take (j+1)).map (fX r.ao)))) (m':=((ht.take (j+1)).map (fX r.ao)).length) 17 U U U EP U U sm (bx (es:=List.map ai.cells [(fX r.ao d)]) 0 U U (by simp [ai.bk]) U) (kY _) (by simp only [List.length_map,List.length_take]; omega) (by simp only [maxLen,List.length_map,List.length_take]; omega) (by rw [List.take_add_one,hd]; simp) sq U fun Hi If=>?_
  try dsimp only
  refine bI 1 U<|aK<|aP<|KK Cp<|aw<|rP 2 [] mn ?_
  refine aK ?_
  have Eq:(vI (((j+1):Nat):Int))=(vI ((j:Int)+1)):=by exact cI I
  refine bu (b ⟨((j+1),Hi,If),⟨I,vY F hd M⟩⟩ _ _ _ U os (cP 10<|bw U Eq<|dp.nil _) (aR [3,4,5,6,7,8,9,10,11,12,13,14,15,16,17]))
 refine WS fun _ C3=>rP 2 [] mn ?_
 refine RK C3<|ar<|LX hQ (false,60,0,0,none,0,[]) [] [] mn U (by rfl) U U ?_
 exact qF<|sT (kN B (fun q:fD r=>by exact M ((q.ek ht (aM D)).2 d (aM hd))))
end
section
open Go.RowKit
theorem yb (r:eD) (kA:OA) (kC:Nat) (az:List RA) (cA:OA) (cC:Nat) (bA:OA) (bC:Nat) (slA:OA) (slC:Nat) (drA:OA) (drC:Nat) (ha:List cD) (heA:OA) (heC:Nat) (hin:iF r az ha):
 dB Tryz.prog 25 [(vA (cY.cells (vJ r kA kC cA cC bA bC slA slC drA drC heA heC)))] [(rd gd 3 2 fr),(rd kA r.ao.aO.length 9 (r.ao.aO.map au.cells)),(rd cA r.ao.aj.length 2 (List.zipWith ax.cells r.ao.aj az)),(dE (bg ax.e_ r.ao.aj az)),(rd bA r.ao.ab.length 4 (r.ao.ab.map bK.cells)),(rd slA r.aV.length 1 (r.aV.map iC)),(rd drA r.bV.length 1 (r.bV.map iC)),(rd heA r.av.length 1 (List.zipWith bW r.av ha)),(dE (bg er r.av ha))] (vI (gf r)):=by
 have H:=hin.line
 have R:=hin.g8
 have S:=hin.has
 have J:=hin.g7
 have AB:=hin.draw
 have K:=iL (r:=r)
 refine bJ kr Tryz.func25 U U fun X Q hQ hN=>?_
 try dsimp only
 refine WS fun _ G=>eJ U fun W=>bI 1 U<|RK G<|WS fun _ C=>rP 1 [] (mc 0 U mn) ?_
 refine cX (FL r kA kC az cA cC bA bC slA slC drA drC ha heA heC hin) (bo [1,2,3,4,5,6,7,8,9]) U fun V E=>?_
 obtain ⟨F,N,P,O,AA,L,M⟩:=V
 cases F
 rotate_left 1
 ·obtain ⟨he,T⟩:=E.1 rfl
  try dsimp only [cond_true,cond_false,List.cons_append,List.nil_append]
  refine bI 5 U<|RK C<|WS fun _ B=>rP 2 [] mn ?_
  refine RK B<|ar<|Q1 hQ U U U ?_
  first|rfl|(rw [he])
 obtain ⟨D,he⟩:=E.2 rfl
 try dsimp only at D he
 subst D
 try dsimp only [cond_true,cond_false,List.cons_append,List.nil_append]
 refine bI 5 U<|RK C<|WS fun _ A=>rP 2 [] mn ?_
 refine RK A<|ar<|Q1 hQ U U U ?_
 first|rfl|(rw [he])
end
section
open Go.RowKit
theorem Qu (r:eD) (kA:OA) (kC:Nat) (az:List RA) (cA:OA) (cC:Nat) (bA:OA) (bC:Nat) (slA:OA) (slC:Nat) (drA:OA) (drC:Nat) (ha:List cD) (heA:OA) (heC:Nat) (tz:List RA) (tA:OA) (tC:Nat) (ms:Value) (gw:Nat) (l:List Int) (lA:OA) (lC:Nat) (hin:iF r az ha) (hlen:l.length≤1000000):
 dB Tryz.prog 60 [(vP gw),(vS lA l.length lC)] [(rd kA r.ao.aO.length 9 (r.ao.aO.map au.cells)),(rd cA r.ao.aj.length 2 (List.zipWith ax.cells r.ao.aj az)),(dE (bg ax.e_ r.ao.aj az)),(rd bA r.ao.ab.length 4 (r.ao.ab.map bK.cells)),(rd slA r.aV.length 1 (r.aV.map iC)),(rd drA r.bV.length 1 (r.bV.map iC)),(rd heA r.av.length 1 (List.zipWith bW r.av ha)),(dE (bg er r.av ha)),(rd tA ((eK r).length) 1 (List.zipWith HT (eK r) tz)),(dE (bg Ma (eK r) tz)),(cz gw 125 (jY.cells (jY.mk (vJ r kA kC cA cC bA bC slA slC drA drC heA heC) (bE.mk tA ((eK r).length) tC) ms))),(rd lA l.length 1 (l.map iC))] (vB (o5 0 ((r.aV.length:Int)-1) l)):=by
 have C:=hin.line
 have G:=hin.g8
 have H:=hin.has
 have E:=hin.g7
 have D:=hin.draw
 have F:=iL (r:=r)
 refine bJ kr Tryz.func60 U U fun AA Q hQ hN=>?_
 try dsimp only
 refine WS fun _ A=>bI 1 U<|RK A<|WS fun _ B=>bI 1 U<|rS (SX (cw U U) U U)<|eV 6 [] (mr 10 U mn) U<|rS (CL (p_ 0 ((r.aV.length:Int)-1) l lA lC hlen) (bo [11]) U)<|rP 1 [] mn ?_
 refine RK B<|ar ?_
 exact Q1 hQ U U U U
end
section
open Go.RowKit
theorem EE (h i:Int) (r:eD) (kA:OA) (kC:Nat) (az:List RA) (cA:OA) (cC:Nat) (bA:OA) (bC:Nat) (slA:OA) (slC:Nat) (drA:OA) (drC:Nat) (ha:List cD) (heA:OA) (heC:Nat) (hin:iF r az ha):
 dB Tryz.prog 26 [(vA (cY.cells (vJ r kA kC cA cC bA bC slA slC drA drC heA heC))),(vI h),(vI i)] [(rd gd 3 2 fr),(rd kA r.ao.aO.length 9 (r.ao.aO.map au.cells)),(rd cA r.ao.aj.length 2 (List.zipWith ax.cells r.ao.aj az)),(dE (bg ax.e_ r.ao.aj az)),(rd bA r.ao.ab.length 4 (r.ao.ab.map bK.cells)),(rd slA r.aV.length 1 (r.aV.map iC)),(rd drA r.bV.length 1 (r.bV.map iC)),(rd heA r.av.length 1 (List.zipWith bW r.av ha)),(dE (bg er r.av ha))] (vT [(vA (ai.cells (jA r h i))),(vI (lD r h i))]):=by
 have AO:=hin.line
 have A7:=hin.g8
 have A8:=hin.has
 have A4:=hin.g7
 have A2:=hin.draw
 have F:=iL (r:=r)
 refine bJ kr Tryz.func26 U U fun w0 Q hQ hN=>?_
 try dsimp only
 refine WS fun _ v=>eJ U fun b2=>AL U dU fun b3=>bI 1 U<|RK v<|WS fun _ Y=>rP 1 [] (mc 1 U mn) ?_
 refine cX (FL r kA kC az cA cC bA bC slA slC drA drC ha heA heC hin) (bo [2,3,4,5,6,7,8,9,10]) U fun y5 f=>?_
 obtain ⟨g,A6,p,o,j,k,AB⟩:=y5
 cases g
 ·obtain ⟨Z,he⟩:=f.2 rfl
  try dsimp only at Z he
  subst Z
  try dsimp only [cond_true,cond_false,List.cons_append,List.nil_append]
  refine bI 5 U<|RK Y<|aq fun _ A1=>aH<|WS fun _ O=>rP 3 [] mn ?_
  refine RK O<|bR U (aW fun N=>?_) (aX fun N=>?_)
  ·exact absurd N he
  refine WS fun _ P=>rS (SX (bp (xs:=[]) (cs:=(ai.cells (ai.mk 0 0))) U U (bq gM U)) U U)<|bI 1 U<|eN U cT U<|rP 1 [] mn ?_
  refine RK P<|ar<|l5 hQ [0] (mc 0 U mn) U ?_
  first|(have e:=pb (h:=h) (i:=i) he; have B:jA r h i=eQ:=if_neg (fun q=>by rw [e] at q; exact he q); rw [e,B]; rfl)|(have e:=pk (h:=h) (i:=i) he I; have B:jA r h i=eQ:=if_neg (fun q=>by rw [e] at q; cases q); rw [e,B]; rfl)|(have e:=n7 he I A hd C; have B:jA r h i=eQ:=if_neg (fun q=>by rw [e] at q; cases q); rw [e,B]; rfl)|(have e:=q9 he I A hd C; rw [e.1,e.2,H]; done)
 obtain ⟨he,K⟩:=f.1 rfl
 try dsimp only [cond_true,cond_false,List.cons_append,List.nil_append]
 try dsimp only at K
 have b:=(d_ he).2
 refine bI 5 U<|RK Y<|aq fun _ R=>aH<|WS fun _ S=>bI 1 U<|rS (SX (fM (r:= .bool false) U U U rm) U U)<|bI 1 U<|RK S<|cq U<|WS fun _ L=>rP 5 [] (mc 5 U mn) ?_
 refine ew (xs:=[.tmp 25]) (cs:=[(vI h)]) U dy j7 U U U U (by simp [Value.cells]) U U fun l=>?_
 refine rS (CL (dB.eq (p_ 0 ((r.av.length:Int)-1) ([h]) (some ⟨l,0,none⟩) 1 sd) cy) (aD (bx 0 U U (by simp [bP]) U)<|aL) U) ?_
 refine rP 2 [] mn ?_
 refine bT (t:=29) U (aX fun u=>?_) (aW fun u=>?_)
 ·refine bI 7 U<|RK L<|aN U<|WS fun _ T=>rS (SX (bp (xs:=[]) (cs:=(ai.cells (ai.mk 0 0))) U U (bq gM U)) U U)<|G1 U cT U<|rP 1 [] mn ?_
  refine RK T<|ar<|l5 hQ [0] (mc 5 U mn) U ?_
  first|(have e:=pb (h:=h) (i:=i) he; have B:jA r h i=eQ:=if_neg (fun q=>by rw [e] at q; exact he q); rw [e,B]; rfl)|(have e:=pk (h:=h) (i:=i) he I; have B:jA r h i=eQ:=if_neg (fun q=>by rw [e] at q; cases q); rw [e,B]; rfl)|(have e:=n7 he I A hd C; have B:jA r h i=eQ:=if_neg (fun q=>by rw [e] at q; cases q); rw [e,B]; rfl)|(have e:=q9 he I A hd C; rw [e.1,e.2,H]; done)
 refine rP 2 [] mn ?_
 refine ew (xs:=[.tmp 31]) (cs:=[(vI i)]) U dy j7 U U U U (by simp [Value.cells]) U U fun m=>?_
 refine rS (CL (dB.eq (Qu r kA kC az cA cC bA bC slA slC drA drC ha heA heC AB j k (Value.map (some o)) p ([i]) (some ⟨m,0,none⟩) 1 hin sd) cy) (ld [9,10,11,12,13,14,15,16]<|aD (aB (n:=(eK r).length) 3 U (wT (by rw [F]; exact K)))<|aD (dR 4 U Fp)<|dM 2 U U<|aD (bx 0 U U (by simp [bP]) U)<|aL) U) ?_
 refine rP 3 [] mn ?_
 refine RK L<|ck U (aX fun s=>?_) (aW fun s=>?_)
 ·refine WS fun _ AA=>rS (SX (bp (xs:=[]) (cs:=(ai.cells (ai.mk 0 0))) U U (bq gM U)) U U)<|PA U cT U<|rP 1 [] mn ?_
  refine RK AA<|ar<|l5 hQ [0] (mc 6 U mn) U ?_
  first|(have e:=pb (h:=h) (i:=i) he; have B:jA r h i=eQ:=if_neg (fun q=>by rw [e] at q; exact he q); rw [e,B]; rfl)|(have e:=pk (h:=h) (i:=i) he I; have B:jA r h i=eQ:=if_neg (fun q=>by rw [e] at q; cases q); rw [e,B]; rfl)|(have e:=n7 he I A hd C; have B:jA r h i=eQ:=if_neg (fun q=>by rw [e] at q; cases q); rw [e,B]; rfl)|(have e:=q9 he I A hd C; rw [e.1,e.2,H]; done)
 refine WS fun _ V=>rP 3 [] (mc 7 U mn) ?_
 obtain ⟨ht,A⟩:=aC r.av ((h).toNat) I
 obtain ⟨D,E⟩:=aC ha ((h).toNat) I
 have a:(List.zipWith bW r.av ha)[(h).toNat]? =some (bW ht D):=cv A E
 refine rS (IA ((h).toNat) U (ay 15 U) j8 dc I I) ?_
 have AC:=hin.ek _ _ _ A E
 have A3:=AC.ly
 have AK:=(b.ek ht (aM A)).1
 refine rS (gD ((h).toNat) 0 (vS D.1.1 ht.length D.1.2) U bU (ay 15 U) a U dc U)<|rP 1 [] mn ?_
 obtain ⟨d,hd⟩:=aC ht ((i).toNat) I
 obtain ⟨da,y⟩:=aC D.2 ((i).toNat) I
 have z:(List.zipWith ak.cells ht D.2)[(i).toNat]? =some (ak.cells d da):=cv hd y
 refine rS (IA ((i).toNat) U (show fY _ (rd D.1.1 ht.length 7 (List.zipWith ak.cells ht D.2)).holds from (bX 16 U (a_ A E bY))) mM dc I I)<|rS (pO (((i).toNat)*7) U (show fY _ (rd D.1.1 ht.length 7 (List.zipWith ak.cells ht D.2)).holds from (bX 16 U (a_ A E bY))) (Nat.mul_pos I dc) eU U)<|rS (gD ((i).toNat) 0 (vB d.Out) U bU (show fY _ (rd D.1.1 ht.length 7 (List.zipWith ak.cells ht D.2)).holds from (bX 16 U (a_ A E bY))) z U dc U)<|rP 1 [] mn ?_
 refine RK V<|ck U (fun C=>?_) (fun C=>?_)
 ·refine WS fun _ W=>rS (SX (bp (xs:=[]) (cs:=(ai.cells (ai.mk 0 0))) U U (bq gM U)) U U)<|PA U cT U<|rP 1 [] mn ?_
  refine RK W<|ar<|l5 hQ [0] (mc 6 U mn) U ?_
  first|(have e:=pb (h:=h) (i:=i) he; have B:jA r h i=eQ:=if_neg (fun q=>by rw [e] at q; exact he q); rw [e,B]; rfl)|(have e:=pk (h:=h) (i:=i) he I; have B:jA r h i=eQ:=if_neg (fun q=>by rw [e] at q; cases q); rw [e,B]; rfl)|(have e:=n7 he I A hd C; have B:jA r h i=eQ:=if_neg (fun q=>by rw [e] at q; cases q); rw [e,B]; rfl)|(have e:=q9 he I A hd C; rw [e.1,e.2,H]; done)
 refine cj<|aP<|KK R<|WS fun _ X=>bI 1 U<|rS (SX (cw U U) U U)<|rP 3 [] (mc 2 U mn) ?_
 obtain ⟨tr,J⟩:=aC (eK r) ((h).toNat) I
 obtain ⟨tra,G⟩:=aC AB ((h).toNat) I
 have c:(List.zipWith HT (eK r) AB)[(h).toNat]? =some (HT tr tra):=cv J G
 refine rS (IA ((h).toNat) U (aB (n:=(eK r).length) 3 U (wT (by rw [F]; exact K))) Fq dc I I) ?_
 have M:=zE A J
 have A5:tr.length=r.aV.length:=by rw [M,List.length_map]; exact AK
 refine rS (gD ((h).toNat) 0 (vS tra.1 tr.length tra.2) U bU (aB (n:=(eK r).length) 3 U (wT (by rw [F]; exact K))) c U dc U) ?_
 refine rP 1 [] mn ?_
 obtain ⟨x,hx⟩:=aC tr ((i).toNat) I
 have A0:=bO ai.cells hx
 refine rS (IA ((i).toNat) U (show fY _ (rd tra.1 tr.length 2 (tr.map ai.cells)).holds from (fun w hw=>(dR 4 U Fp) w hw _ (a_ J G (by simp [Ma])))) kX dc I I) ?_
 have H:=Ib M hx hd
 refine rS (jD ((i).toNat) 0 (ai.cells x) U bU (show fY _ (rd tra.1 tr.length 2 (tr.map ai.cells)).holds from (fun w hw=>(dR 4 U Fp) w hw _ (a_ J G (by simp [Ma])))) A0 U dc U U)<|PA U cT U<|rP 1 [] mn ?_
 refine RK X<|ar<|l5 hQ [0] (mc 6 U mn) U ?_
 first|(have e:=pb (h:=h) (i:=i) he; have B:jA r h i=eQ:=if_neg (fun q=>by rw [e] at q; exact he q); rw [e,B]; rfl)|(have e:=pk (h:=h) (i:=i) he I; have B:jA r h i=eQ:=if_neg (fun q=>by rw [e] at q; cases q); rw [e,B]; rfl)|(have e:=n7 he I A hd C; have B:jA r h i=eQ:=if_neg (fun q=>by rw [e] at q; cases q); rw [e,B]; rfl)|(have e:=q9 he I A hd C; rw [e.1,e.2,H]; done)
end
section
open Go.RowKit
theorem MH (l:bH) (kA:OA) (kC:Nat) (az:List RA) (cA:OA) (cC:Nat) (bA:OA) (bC:Nat) (m:bH) (k2A:OA) (k2C:Nat) (az2:List RA) (c2A:OA) (c2C:Nat) (b2A:OA) (b2C:Nat) (hin:ej l az) (hin2:ej m az2) (hsm: ¬ mm l) (hsm2: ¬ mm m):
 dB Tryz.prog 57 [(vA (cm.cells (jR l kA kC cA cC bA bC))),(vA (cm.cells (cm.mk (bL.mk (bE.mk k2A m.aO.length k2C)) m.h_ (bE.mk c2A m.aj.length c2C) (bE.mk b2A m.ab.length b2C) m.cf m.fJ m.dC)))] [(rd kA l.aO.length 9 (l.aO.map au.cells)),(rd cA l.aj.length 2 (List.zipWith ax.cells l.aj az)),(dE (bg ax.e_ l.aj az)),(rd bA l.ab.length 4 (l.ab.map bK.cells)),(rd k2A m.aO.length 9 (m.aO.map au.cells)),(rd c2A m.aj.length 2 (List.zipWith ax.cells m.aj az2)),(dE (bg ax.e_ m.aj az2)),(rd b2A m.ab.length 4 (m.ab.map bK.cells))] (vB (decide (l=m))):=by
 have J7:=hin.rW
 have J6:=hin.sG
 have J4:=hin.ly
 have J5:=hin.se
 have Je:=hin2.rW
 have I0:=hin2.sG
 have If:=hin2.ly
 have In:=hin2.se
 have Ci:=xz hsm
 have h:=xz hsm2
 refine bJ kr Tryz.func57 U U fun w0 Q hQ hN=>?_
 try dsimp only
 refine WS fun _ Eq=>eJ U fun b2=>eJ U fun b3=>bI 1 U<|RK Eq<|aq fun _ FQ=>WS fun _ AB=>bI 1 U<|rS (LP (bL.cells (bL.mk (bE.mk kA l.aO.length kC))) 1 U bU U U U)<|rP 1 [] mn ?_
 refine rS (LP (bL.cells (bL.mk (bE.mk k2A m.aO.length k2C))) 0 U bU U U U) ?_
 refine rS (CL (QF l.aO kA kC m.aO k2A k2C sd sd) (bo [2,6]) U) ?_
 refine rP 2 [] mn ?_
 refine bT (t:=16) U (aX fun C=>?_) (aW fun C=>?_)
 ·refine bI 45 U<|RK AB<|aN U<|WS fun _ FS=>rP 1 [] mn ?_
  refine RK FS<|ar<|Q1 hQ U U U ?_
  first|exact cB (bj (fun e=>by subst e; first|exact C rfl|omega)).symm|exact cB (bj (fun e=>by subst e; rw [hp] at hq; cases hq; exact E rfl)).symm|exact cB (bj (fun e=>by subst e; rw [hx] at hy; cases hy; first|(rw [hz] at hu; cases hu; exact D rfl)|omega)).symm|exact cB (cO (hE C I I I I (cR I B I) (cR I A I))).symm
 refine rP 7 [0,1] (mc 1 U (mc 0 U mn)) ?_
 refine bT (t:=23) U (aX fun C1=>?_) (aW fun C1=>?_)
 ·refine bI 38 U<|RK AB<|aN U<|WS fun _ Fd=>rP 1 [] mn ?_
  refine RK Fd<|ar<|Q1 hQ U U U ?_
  first|exact cB (bj (fun e=>by subst e; first|exact C rfl|omega)).symm|exact cB (bj (fun e=>by subst e; rw [hp] at hq; cases hq; exact E rfl)).symm|exact cB (bj (fun e=>by subst e; rw [hx] at hy; cases hy; first|(rw [hz] at hu; cases hu; exact D rfl)|omega)).symm|exact cB (cO (hE C I I I I (cR I B I) (cR I A I))).symm
 refine rP 7 [0,1] (mc 1 U (mc 0 U mn)) ?_
 refine bT (t:=30) U (aX fun C2=>?_) (aW fun C2=>?_)
 ·refine bI 31 U<|RK AB<|aN U<|WS fun _ Fn=>rP 1 [] mn ?_
  refine RK Fn<|ar<|Q1 hQ U U U ?_
  first|exact cB (bj (fun e=>by subst e; first|exact C rfl|omega)).symm|exact cB (bj (fun e=>by subst e; rw [hp] at hq; cases hq; exact E rfl)).symm|exact cB (bj (fun e=>by subst e; rw [hx] at hy; cases hy; first|(rw [hz] at hu; cases hu; exact D rfl)|omega)).symm|exact cB (cO (hE C I I I I (cR I B I) (cR I A I))).symm
 refine rP 7 [0,1] (mc 1 U (mc 0 U mn)) ?_
 refine bT (t:=37) U (aX fun C3=>?_) (aW fun C3=>?_)
 ·refine bI 24 U<|RK AB<|aN U<|WS fun _ GE=>rP 1 [] mn ?_
  refine RK GE<|ar<|Q1 hQ U U U ?_
  first|exact cB (bj (fun e=>by subst e; first|exact C rfl|omega)).symm|exact cB (bj (fun e=>by subst e; rw [hp] at hq; cases hq; exact E rfl)).symm|exact cB (bj (fun e=>by subst e; rw [hx] at hy; cases hy; first|(rw [hz] at hu; cases hu; exact D rfl)|omega)).symm|exact cB (cO (hE C I I I I (cR I B I) (cR I A I))).symm
 refine rP 7 [0,1] (mc 1 U (mc 0 U mn)) ?_
 refine bT (t:=44) U (aX fun Di=>?_) (aW fun Di=>?_)
 ·refine bI 17 U<|RK AB<|aN U<|WS fun _ AC=>rP 1 [] mn ?_
  refine RK AC<|ar<|Q1 hQ U U U ?_
  first|exact cB (bj (fun e=>by subst e; first|exact C rfl|omega)).symm|exact cB (bj (fun e=>by subst e; rw [hp] at hq; cases hq; exact E rfl)).symm|exact cB (bj (fun e=>by subst e; rw [hx] at hy; cases hy; first|(rw [hz] at hu; cases hu; exact D rfl)|omega)).symm|exact cB (cO (hE C I I I I (cR I B I) (cR I A I))).symm
 refine rP 9 [0,1] (mc 1 U (mc 0 U mn)) ?_
 refine bT (t:=53) U (aX fun Do=>?_) (aW fun Do=>?_)
 ·refine bI 8 U<|RK AB<|aN U<|WS fun _ AK=>rP 1 [] mn ?_
  refine RK AK<|ar<|Q1 hQ U U U ?_
  first|exact cB (bj (fun e=>by subst e; first|exact C rfl|omega)).symm|exact cB (bj (fun e=>by subst e; rw [hp] at hq; cases hq; exact E rfl)).symm|exact cB (bj (fun e=>by subst e; rw [hx] at hy; cases hy; first|(rw [hz] at hu; cases hu; exact D rfl)|omega)).symm|exact cB (cO (hE C I I I I (cR I B I) (cR I A I))).symm
 refine rP 8 [0,1] (mc 1 U (mc 0 U mn)) ?_
 refine RK AB<|ck U (aX fun EQ=>?_) (aW fun EQ=>?_)
 ·refine WS fun _ AO=>rP 1 [] mn ?_
  refine RK AO<|ar<|Q1 hQ U U U ?_
  first|exact cB (bj (fun e=>by subst e; first|exact C rfl|omega)).symm|exact cB (bj (fun e=>by subst e; rw [hp] at hq; cases hq; exact E rfl)).symm|exact cB (bj (fun e=>by subst e; rw [hx] at hy; cases hy; first|(rw [hz] at hu; cases hu; exact D rfl)|omega)).symm|exact cB (cO (hE C I I I I (cR I B I) (cR I A I))).symm
 refine WK FQ<|aq fun _ A0=>WS fun _ A1=>rP 1 [] mn ?_
 refine RK A1<|aH ?_
 have F:(0≤l.aj.length)∧(l.aj.take 0=m.aj.take 0):=by simp
 refine bS (ι:={z:Nat // (z≤l.aj.length)∧(l.aj.take z=m.aj.take z)}) [2,3] [0,1,2,3,4,5,6,7,8,9] U U (fun z=>[(5,(vI (z.1:Int)))]) (fun z=>[]) (fun _=>rfl) (fun _=>rfl) (fun z=>l.aj.length-z.1) ⟨0,F⟩ (bD U) (aR [0,1,2,3,4,5,6,7,8,9]) ?_
 clear F
 rintro ⟨i,⟨GT,B⟩⟩ J15 d
 try dsimp only
 refine aq fun _ A2=>WS fun _ A3=>rP 5 [] (mc 1 U mn) ?_
 refine RK A3<|bR U (aU fun C0=>?_) (aT fun C0=>?_)
 ·refine bQ<|ag<|ag<|aI<|KK A0<|aq fun _ A4=>WS fun _ A5=>rP 1 [] mn ?_
  refine RK A5<|aH ?_
  have F:(0≤l.ab.length)∧(l.ab.take 0=m.ab.take 0):=by simp
  refine bS (ι:={z:Nat // (z≤l.ab.length)∧(l.ab.take z=m.ab.take z)}) [2,3] [0,1,2,3,4,5,6,7,8,9] U U (fun z=>[(9,(vI (z.1:Int)))]) (fun z=>[]) (fun _=>rfl) (fun _=>rfl) (fun z=>l.ab.length-z.1) ⟨0,F⟩ (bD U) (aR [0,1,2,3,4,5,6,7,8,9]) ?_
  clear F
  rintro ⟨n,⟨Ck,A⟩⟩ J43 w
  try dsimp only
  refine aq fun _ A6=>WS fun _ A7=>rP 5 [] (mc 1 U mn) ?_
  refine RK A7<|bR U (aU fun Dj=>?_) (aT fun Dj=>?_)
  ·refine bQ<|ag<|ag<|aI<|KK A4<|WS fun _ B9=>rP 1 [] mn ?_
   refine RK B9<|ar<|Q1 hQ U U U ?_
   first|exact cB (bj (fun e=>by subst e; first|exact C rfl|omega)).symm|exact cB (bj (fun e=>by subst e; rw [hp] at hq; cases hq; exact E rfl)).symm|exact cB (bj (fun e=>by subst e; rw [hx] at hy; cases hy; first|(rw [hz] at hu; cases hu; exact D rfl)|omega)).symm|exact cB (cO (hE C I I I I (cR I B I) (cR I A I))).symm
  refine WK A6<|aq fun _ A8=>aH<|aq fun _ A9=>cW cg 11 kr<|dP 3 [] (mc 1 U mn) ?_
  obtain ⟨p,hp⟩:=aC l.ab n I
  have Go:=bO bK.cells hp
  refine dS (IA n U (ay 5 U) uE dc I I)<|dS (jD n 0 (bK.cells p) U bU (ay 5 U) Go U dc U U)<|dP 3 [] (mc 0 U mn) ?_
  obtain ⟨q,hq⟩:=aC m.ab n I
  have Hi:=bO bK.cells hq
  refine dS (IA n U (ay 9 U) uE dc I I)<|dS (jD n 0 (bK.cells q) U bU (ay 9 U) Hi U dc U U)<|dS (BI U (Qt _ _ p q))<|cx<|RK A9<|bR U (aW fun E=>?_) (aX fun E=>?_)
  ·refine cj<|aP<|KK A8<|aw<|rP 3 [] mn ?_
   refine aK ?_
   have CC:(vI (((n+1):Nat):Int))=(vI ((n:Int)+1)):=by exact cI I
   refine bu (w ⟨(n+1),⟨I,iX A hp hq E⟩⟩ _ _ _ U os (dp.cons U<|dp.cons U<|bw U CC<|dp.nil _) (aR [0,1,2,3,4,5,6,7,8,9]))
  refine WS fun _ B3=>rP 1 [] mn ?_
  refine RK B3<|ar<|Q1 hQ U U U ?_
  first|exact cB (bj (fun e=>by subst e; first|exact C rfl|omega)).symm|exact cB (bj (fun e=>by subst e; rw [hp] at hq; cases hq; exact E rfl)).symm|exact cB (bj (fun e=>by subst e; rw [hx] at hy; cases hy; first|(rw [hz] at hu; cases hu; exact D rfl)|omega)).symm|exact cB (cO (hE C I I I I (cR I B I) (cR I A I))).symm
 refine WK A2<|aq fun _ f=>aH<|aq fun _ g=>k6 cg [0,1,2,3,4,5,6,7,8,9] [10,11,12,13] [false,false,false,false,false,false,false,false,false,false] [] [(cz b3 28 (cm.cells (cm.mk (bL.mk (bE.mk k2A m.aO.length k2C)) m.h_ (bE.mk c2A m.aj.length c2C) (bE.mk b2A m.ab.length b2C) m.cf m.fJ m.dC))),(cz b2 28 (cm.cells (jR l kA kC cA cC bA bC))),(rd kA l.aO.length 9 (l.aO.map au.cells)).ro,(rd cA l.aj.length 2 (List.zipWith ax.cells l.aj az)).ro,(dE (bg ax.e_ l.aj az)).ro,(rd bA l.ab.length 4 (l.ab.map bK.cells)).ro,(rd k2A m.aO.length 9 (m.aO.map au.cells)).ro,(rd c2A m.aj.length 2 (List.zipWith ax.cells m.aj az2)).ro,(dE (bg ax.e_ m.aj az2)).ro,(rd b2A m.ab.length 4 (m.ab.map bK.cells)).ro] [] kr (aR [0,1,2,3,4,5,6,7,8,9]) (aR [])<|eS U (FA 2 U eU U)<|eS U (L1 (vS cA l.aj.length cC) 1 U bU U U)<|eS U (MV U) ?_
 obtain ⟨x,hx⟩:=aC l.aj i I
 obtain ⟨xa,a⟩:=aC az i I
 have IO:(List.zipWith ax.cells l.aj az)[i]? =some (ax.cells x xa):=cv hx a
 refine eS U (IA i U (ay 3 U) yf dc I I)<|eS U (jD i 0 (dk.cells (dk.mk x.dw (bE.mk xa.1 x.bB.length xa.2))) U bU (ay 3 U) IO U dc U U)<|eS U (FA 2 U eU U)<|eS U (L1 (vS c2A m.aj.length c2C) 0 U bU U U)<|eS U (MV U) ?_
 obtain ⟨y,hy⟩:=aC m.aj i I
 obtain ⟨ya,b⟩:=aC az2 i I
 have Id:(List.zipWith ax.cells m.aj az2)[i]? =some (ax.cells y ya):=cv hy b
 refine eS U (IA i U (ay 7 U) yf dc I I)<|eS U (jD i 0 (dk.cells (dk.mk y.dw (bE.mk ya.1 y.bB.length ya.2))) U bU (ay 7 U) Id U dc U U)<|eo U<|fp [10,11] kr (cK ?_<|cK ?_<|gV)
 rotate_left 1
 ·refine NO U U [10,12,13] fun T21 AA=>AL U xA fun Cp=>RD AA 1 U<|N1 10<|NO U U [12,13] fun T23 V=>AL U xA fun Cx=>RD V 2 U<|N1 12<|NO U U [13] fun T25 W=>eN U zd U<|RD W 2 U<|N1 13<|NO U U [] fun T26 X=>qN U zd U<|RD X 2 U<|kG<|KK g<|aq fun _ K=>WS fun _ H=>rP 6 [0,1] (mc 0 U (mc 1 U mn)) ?_
  refine bT (t:=84) U (aX fun o=>?_) (aW fun o=>?_)
  ·refine bI 8 U<|RK H<|aN U<|WS fun _ L=>rP 1 [] mn ?_
   refine RK L<|ar<|Q1 hQ U U U ?_
   first|exact cB (bj (fun e=>by subst e; first|exact C rfl|omega)).symm|exact cB (bj (fun e=>by subst e; rw [hp] at hq; cases hq; exact E rfl)).symm|exact cB (bj (fun e=>by subst e; rw [hx] at hy; cases hy; first|(rw [hz] at hu; cases hu; exact D rfl)|omega)).symm|exact cB (cO (hE C I I I I (cR I B I) (cR I A I))).symm
  refine rP 8 [0,1] (mc 0 U (mc 1 U mn)) ?_
  refine RK H<|ck U (aX fun r=>?_) (aW fun r=>?_)
  ·refine WS fun _ M=>rP 1 [] mn ?_
   refine RK M<|ar<|Q1 hQ U U U ?_
   first|exact cB (bj (fun e=>by subst e; first|exact C rfl|omega)).symm|exact cB (bj (fun e=>by subst e; rw [hp] at hq; cases hq; exact E rfl)).symm|exact cB (bj (fun e=>by subst e; rw [hx] at hy; cases hy; first|(rw [hz] at hu; cases hu; exact D rfl)|omega)).symm|exact cB (cO (hE C I I I I (cR I B I) (cR I A I))).symm
  refine WK K<|WS fun _ N=>rP 1 [] mn ?_
  refine RK N<|aH ?_
  have F:(0≤x.bB.length)∧(x.bB.take 0=y.bB.take 0):=by simp
  refine bS (ι:={z:Nat // (z≤x.bB.length)∧(x.bB.take z=y.bB.take z)}) [2,3,5,6,7] [0,1,2,3,4,5,6,7,8,9,10,11] U U (fun z=>[(8,(vI (z.1:Int)))]) (fun z=>[]) (fun _=>rfl) (fun _=>rfl) (fun z=>x.bB.length-z.1) ⟨0,F⟩ (bD U) (aR [0,1,2,3,4,5,6,7,8,9,10,11]) ?_
  clear F
  rintro ⟨k,⟨c,G⟩⟩ J32 J
  try dsimp only
  have H1:=Ci.2.2.2 x (aM hx)
  have IR:=h.2.2.2 y (aM hy)
  refine aq fun _ O=>WS fun _ P=>rP 5 [] (mc 0 U mn) ?_
  refine RK P<|bR U (aU fun j=>?_) (aT fun j=>?_)
  ·refine bQ<|ag<|ag<|aI<|aP<|KK f<|aw<|rP 3 [] mn ?_
   refine aK ?_
   have Z:(vI (((i+1):Nat):Int))=(vI ((i:Int)+1)):=by exact cI I
   refine bu (d ⟨(i+1),⟨I,iX B hx hy (w4 I I I G)⟩⟩ _ _ _ U os (dp.cons U<|dp.cons U<|bw U Z<|dp.nil _) (aR [2,3,4,5,6,7,8,9,10,11]))
  refine WK O<|aq fun _ R=>aH<|aq fun _ S=>cW cg 11 kr<|dP 3 [] (mc 0 U mn) ?_
  obtain ⟨z,hz⟩:=aC x.bB k I
  have v:=bO ct.cells hz
  refine dS (IA k U (show fY _ (rd xa.1 x.bB.length 3 (x.bB.map ct.cells)).holds from (bX 6 U (a_ hx a (by simp [ax.e_])))) nR dc I I)<|dS (jD k 0 (ct.cells z) U bU (show fY _ (rd xa.1 x.bB.length 3 (x.bB.map ct.cells)).holds from (bX 6 U (a_ hx a (by simp [ax.e_])))) v U dc U U)<|dP 3 [] (mc 1 U mn) ?_
  obtain ⟨u,hu⟩:=aC y.bB k I
  have s:=bO ct.cells hu
  refine dS (IA k U (show fY _ (rd ya.1 y.bB.length 3 (y.bB.map ct.cells)).holds from (bX 10 U (a_ hy b (by simp [ax.e_])))) nR dc I I)<|dS (jD k 0 (ct.cells u) U bU (show fY _ (rd ya.1 y.bB.length 3 (y.bB.map ct.cells)).holds from (bX 10 U (a_ hy b (by simp [ax.e_])))) s U dc U U)<|dS (BI U (KN _ _ z u))<|cx<|RK S<|bR U (aW fun D=>?_) (aX fun D=>?_)
  ·refine cj<|aP<|KK R<|aw<|rP 3 [] mn ?_
   refine aK ?_
   have Y:(vI (((k+1):Nat):Int))=(vI ((k:Int)+1)):=by exact cI I
   refine bu (J ⟨(k+1),⟨I,iX G hz hu D⟩⟩ _ _ _ U os (cP 5<|bw U Y<|dp.nil _) (aR [0,1,2,3,4,5,6,7,8,9,10,11]))
  refine WS fun _ T=>rP 1 [] mn ?_
  refine RK T<|ar<|Q1 hQ U U U ?_
  first|exact cB (bj (fun e=>by subst e; first|exact C rfl|omega)).symm|exact cB (bj (fun e=>by subst e; rw [hp] at hq; cases hq; exact E rfl)).symm|exact cB (bj (fun e=>by subst e; rw [hx] at hy; cases hy; first|(rw [hz] at hu; cases hu; exact D rfl)|omega)).symm|exact cB (cO (hE C I I I I (cR I B I) (cR I A I))).symm
 refine NO U U [11,12,13] fun T21 AA=>AL U xA fun Cp=>RD AA 1 U<|N1 11<|NO U U [12,13] fun T23 V=>AL U xA fun Cx=>RD V 2 U<|N1 12<|NO U U [13] fun T25 W=>qN U zd U<|RD W 2 U<|N1 13<|NO U U [] fun T26 X=>eN U zd U<|RD X 2 U<|kG<|KK g<|aq fun _ K=>WS fun _ H=>rP 6 [0,1] (mc 1 U (mc 0 U mn)) ?_
 refine bT (t:=84) U (aX fun o=>?_) (aW fun o=>?_)
 ·refine bI 8 U<|RK H<|aN U<|WS fun _ L=>rP 1 [] mn ?_
  refine RK L<|ar<|Q1 hQ U U U ?_
  first|exact cB (bj (fun e=>by subst e; first|exact C rfl|omega)).symm|exact cB (bj (fun e=>by subst e; rw [hp] at hq; cases hq; exact E rfl)).symm|exact cB (bj (fun e=>by subst e; rw [hx] at hy; cases hy; first|(rw [hz] at hu; cases hu; exact D rfl)|omega)).symm|exact cB (cO (hE C I I I I (cR I B I) (cR I A I))).symm
 refine rP 8 [0,1] (mc 1 U (mc 0 U mn)) ?_
 refine RK H<|ck U (aX fun r=>?_) (aW fun r=>?_)
 ·refine WS fun _ M=>rP 1 [] mn ?_
  refine RK M<|ar<|Q1 hQ U U U ?_
  first|exact cB (bj (fun e=>by subst e; first|exact C rfl|omega)).symm|exact cB (bj (fun e=>by subst e; rw [hp] at hq; cases hq; exact E rfl)).symm|exact cB (bj (fun e=>by subst e; rw [hx] at hy; cases hy; first|(rw [hz] at hu; cases hu; exact D rfl)|omega)).symm|exact cB (cO (hE C I I I I (cR I B I) (cR I A I))).symm
 refine WK K<|WS fun _ N=>rP 1 [] mn ?_
 refine RK N<|aH ?_
 have F:(0≤x.bB.length)∧(x.bB.take 0=y.bB.take 0):=by simp
 refine bS (ι:={z:Nat // (z≤x.bB.length)∧(x.bB.take z=y.bB.take z)}) [2,3,5,6,7] [0,1,2,3,4,5,6,7,8,9,10,11] U U (fun z=>[(8,(vI (z.1:Int)))]) (fun z=>[]) (fun _=>rfl) (fun _=>rfl) (fun z=>x.bB.length-z.1) ⟨0,F⟩ (bD U) (aR [0,1,2,3,4,5,6,7,8,9,10,11]) ?_
 clear F
 rintro ⟨k,⟨c,G⟩⟩ J32 J
 try dsimp only
 have H1:=Ci.2.2.2 x (aM hx)
 have IR:=h.2.2.2 y (aM hy)
 refine aq fun _ O=>WS fun _ P=>rP 5 [] (mc 1 U mn) ?_
 refine RK P<|bR U (aU fun j=>?_) (aT fun j=>?_)
 ·refine bQ<|ag<|ag<|aI<|aP<|KK f<|aw<|rP 3 [] mn ?_
  refine aK ?_
  have Z:(vI (((i+1):Nat):Int))=(vI ((i:Int)+1)):=by exact cI I
  refine bu (d ⟨(i+1),⟨I,iX B hx hy (w4 I I I G)⟩⟩ _ _ _ U os (dp.cons U<|dp.cons U<|bw U Z<|dp.nil _) (aR [2,3,4,5,6,7,8,9,10,11]))
 refine WK O<|aq fun _ R=>aH<|aq fun _ S=>cW cg 11 kr<|dP 3 [] (mc 1 U mn) ?_
 obtain ⟨z,hz⟩:=aC x.bB k I
 have v:=bO ct.cells hz
 refine dS (IA k U (show fY _ (rd xa.1 x.bB.length 3 (x.bB.map ct.cells)).holds from (bX 6 U (a_ hx a (by simp [ax.e_])))) nR dc I I)<|dS (jD k 0 (ct.cells z) U bU (show fY _ (rd xa.1 x.bB.length 3 (x.bB.map ct.cells)).holds from (bX 6 U (a_ hx a (by simp [ax.e_])))) v U dc U U)<|dP 3 [] (mc 0 U mn) ?_
 obtain ⟨u,hu⟩:=aC y.bB k I
 have s:=bO ct.cells hu
 refine dS (IA k U (show fY _ (rd ya.1 y.bB.length 3 (y.bB.map ct.cells)).holds from (bX 10 U (a_ hy b (by simp [ax.e_])))) nR dc I I)<|dS (jD k 0 (ct.cells u) U bU (show fY _ (rd ya.1 y.bB.length 3 (y.bB.map ct.cells)).holds from (bX 10 U (a_ hy b (by simp [ax.e_])))) s U dc U U)<|dS (BI U (KN _ _ z u))<|cx<|RK S<|bR U (aW fun D=>?_) (aX fun D=>?_)
 ·refine cj<|aP<|KK R<|aw<|rP 3 [] mn ?_
  refine aK ?_
  have Y:(vI (((k+1):Nat):Int))=(vI ((k:Int)+1)):=by exact cI I
  refine bu (J ⟨(k+1),⟨I,iX G hz hu D⟩⟩ _ _ _ U os (cP 5<|bw U Y<|dp.nil _) (aR [0,1,2,3,4,5,6,7,8,9,10,11]))
 refine WS fun _ T=>rP 1 [] mn ?_
 refine RK T<|ar<|Q1 hQ U U U ?_
 first|exact cB (bj (fun e=>by subst e; first|exact C rfl|omega)).symm|exact cB (bj (fun e=>by subst e; rw [hp] at hq; cases hq; exact E rfl)).symm|exact cB (bj (fun e=>by subst e; rw [hx] at hy; cases hy; first|(rw [hz] at hu; cases hu; exact D rfl)|omega)).symm|exact cB (cO (hE C I I I I (cR I B I) (cR I A I))).symm
end
section
variable {w w':cr}
theorem Cq {k:Int}:k∈l3 w↔ ∃ i:Nat,k=(i:Int)∧i≤w.n∧lM w (qx w i)=true:=by
 unfold l3 k9
 simp only [db,List.mem_filter,List.mem_range]
 constructor
 ·rintro ⟨i,⟨B,A⟩,rfl⟩; exact ⟨i,rfl,I,A⟩
 ·rintro ⟨i,rfl,B,A⟩; exact ⟨i,⟨I,A⟩,rfl⟩
variable {l l':bH} {r r':c_}
theorem GX {b:Nat} (hb:b<l.ab.length):fu l r (ke l b)=fu l r 0:=by rw [uW I]
theorem HR {b:Nat}:de (dx l r) b=if b<l.ab.length then eE l b else 0:=by
 unfold de dx cu
 split
 ·rename_i h
  simp [h]
 ·rename_i h
  simp [h]
theorem Gk {sg:List aF} {i:Nat} (h:i=0):kQ sg i=⟨-1,0⟩:=by subst h; rfl
theorem su {sg:List aF} {i:Nat} {y:aF} (h:0<i) (hy:sg[i-1]? =some y):kQ sg i=y:=by unfold kQ; rw [if_neg I,hy]; rfl
end
section
/-- where a sled may be after k beams more -/
def lq (w:cr):Nat→Nat→aQ×Int→List (aQ×Int)
 |0,_,p=>[p]
 |k+1,b,p=>(jV w b).flatMap fun o=>match m6 w b p o with
  |some q=>lq w k (b+1) q
  |none=>[]
variable {w:cr}
theorem o4 {k b:Nat} {p q:aQ×Int}:q∈lq w (k+1) b p↔ ∃ o∈jV w b,∃ p',m6 w b p o=some p'∧q∈lq w k (b+1) p':=by
 simp only [lq,List.mem_flatMap]
 constructor
 ·rintro ⟨o,ho,h⟩
  cases e:m6 w b p o with
  |none=>rw [e] at h; cases h
  |some p'=>rw [e] at h; exact ⟨o,ho,p',e,h⟩
 ·rintro ⟨o,ho,p',e,h⟩
  exact ⟨o,ho,by rw [e]; exact h⟩
theorem yV: ∀ (k b:Nat) (q:aQ×Int),q∈qx w (b+k)↔ ∃ p∈qx w b,q∈lq w k b p:=by
 intro k
 induction k with
 |zero=>
  intro b q
  simp only [Nat.add_zero,lq,cE]
  exact ⟨fun h=>⟨q,h,rfl⟩,fun ⟨p,hp,e⟩=>e▸hp⟩
 |succ k ih=>
  intro b q
  rw [show b+(k+1)=(b+1)+k by omega,ih]
  constructor
  ·rintro ⟨p',hp',h⟩
   obtain ⟨p,hp,o,ho,e⟩:=kF.1 hp'
   exact ⟨p,hp,o4.2 ⟨o,ho,p',e,h⟩⟩
  ·rintro ⟨p,hp,h⟩
   obtain ⟨o,ho,p',e,h'⟩:=o4.1 h
   exact ⟨p',kF.2 ⟨p,hp,o,ho,e⟩,h'⟩
theorem sk {b:Nat} {p q:aQ×Int} {o:Int×ai}:m6 w b p o=some q↔max (p.2+de w b) o.2.Lo≤min o.2.Hi w.gj∧q=(dL p.1 (gl o.1),max (p.2+de w b) o.2.Lo):=by
 unfold m6
 split
 ·rename_i h
  constructor
  ·intro e; cases e; exact ⟨h,rfl⟩
  ·rintro ⟨_,rfl⟩; rfl
 ·rename_i h
  constructor
  ·intro e; cases e
  ·rintro ⟨h',_⟩; exact absurd h' h
theorem ve {b:Nat} {p q:aQ×Int} {o:Int×ai}:pA w b p o=some q↔o.2.Lo≤min p.2 o.2.Hi∧q=(dL p.1 (gl o.1),min p.2 o.2.Hi-de w b):=by
 unfold pA
 split
 ·rename_i h
  constructor
  ·intro e; cases e; exact ⟨h,rfl⟩
  ·rintro ⟨_,rfl⟩; rfl
 ·rename_i h
  constructor
  ·intro e; cases e
  ·rintro ⟨h',_⟩; exact absurd h' h
theorem GJ {b:Nat} (hb:b≤w.n):((⟨0,0⟩:aQ),w.gj)∈back w b:=by
 rcases Nat.lt_or_ge b w.n with h|h
 ·exact (o9 h).2 (.inl U)
 ·rw [vr h]; simp
theorem nx (t:aQ):dL t ⟨0,0⟩=t:=by cases t; simp [dL]
theorem zJ (a o u:aQ):dL (dL a o) u=dL a (dL u o):=by simp only [dL,aQ.mk.injEq]; omega
theorem F2 (hl: ∀ b,0≤de w b): ∀ (k:Nat) (u:aQ×Int),u∈N9 w k→u.2≤w.gj:=by
 intro k
 induction k with
 |zero=>intro u hu; simp only [N9,cE] at hu; subst hu; exact Int.le_refl _
 |succ k ih=>
  intro u hu
  simp only [N9,b_,List.mem_flatMap,List.mem_filterMap] at hu
  rcases hu with rfl|⟨p,hp,o,ho,e⟩
  ·exact Int.le_refl _
  ·obtain ⟨_,rfl⟩:=ve.1 e
   have:=ih p hp
   have:=hl (w.n-(k+1))
   simp only; omega
/-- what follows a passing is told by the way back -/
theorem NC: ∀ (k b:Nat) (p q:aQ×Int),b+k≤w.n→p.2≤w.gj→q∈lq w k b p→ ∃ u∈back w b,p.2≤u.2∧q.1=dL p.1 u.1:=by
 intro k
 induction k with
 |zero=>
  intro b p q hb hp hq
  simp only [lq,cE] at hq
  subst hq
  exact ⟨_,GJ I,hp,(nx _).symm⟩
 |succ k ih=>
  intro b p q hb hp hq
  obtain ⟨o,ho,p',e,h⟩:=o4.1 hq
  obtain ⟨C,rfl⟩:=sk.1 e
  obtain ⟨u',hu',B,A⟩:=ih (b+1) _ q I (by simp only; omega) h
  simp only at B A
  refine ⟨(dL u'.1 (gl o.1),min u'.2 o.2.Hi-de w b),(o9 I).2 (.inr ⟨u',hu',o,ho,ve.2 ⟨I,U⟩⟩),by simp only; omega,?_⟩
  rw [A,zJ]
theorem JX (hl: ∀ b,0≤de w b): ∀ (d b:Nat) (p u:aQ×Int),w.n=b+d→p.2≤u.2→u∈back w b→ ∃ k,b+k≤w.n∧ ∃ q∈lq w k b p,q.1=dL p.1 u.1:=by
 intro d
 induction d with
 |zero=>
  intro b p u hd hp hu
  rw [vr I] at hu
  simp only [cE] at hu
  subst hu
  exact ⟨0,I,p,by simp [lq],(nx _).symm⟩
 |succ d ih=>
  intro b p u hd hp hu
  rcases (o9 I).1 hu with rfl|⟨u',hu',o,ho,e⟩
  ·exact ⟨0,I,p,by simp [lq],(nx _).symm⟩
  ·obtain ⟨B,rfl⟩:=ve.1 e
   have hn:u'.2≤w.gj:=F2 hl _ _ hu'
   simp only at hp
   obtain ⟨k,hk,q,hq,A⟩:=ih (b+1) (dL p.1 (gl o.1),max (p.2+de w b) o.2.Lo) u' I (by simp only; omega) hu'
   refine ⟨k+1,I,q,o4.2 ⟨o,ho,_,sk.2 ⟨I,U⟩,hq⟩,?_⟩
   rw [A]; simp only; rw [zJ]
end
section
section
variable {l:bH} {r:c_} {one at_:Int} {d:Nat} {f g m:Int} {rec:Int→Int→Int→Bool} {i:Int}
end
theorem vq {l:bH} {r:c_} {d:Nat} (hd:d<l.ab.length) {o:Int×ai}:o∈jV (dx l r) d↔o=(-1,⟨r.Start,r.gj⟩)∨ ∃ k,k<r.aa.length∧ ∃ s,r.aa[k]? =some s∧(s.fH=(d:Int)∧(cV l s).Lo≤(cV l s).Hi)∧o=((k:Int),cV l s):=by
 unfold jV wN
 show o∈(-1,(⟨r.Start,r.gj⟩:ai))::((cN l r.aa r.aa.length)[d]?).getD []↔_
 rw [o7 hd,Option.getD_some,b_,th]
theorem pR {l:bH} {r:c_} {d:Nat} (hd:d<l.ab.length):de (dx l r) d=eE l d:=by rw [HR,if_pos hd]
theorem vH {l:bH} {n d:Nat} {y:Int} (h:(cu l n)[d]? =some y):y=eE l d:=by
 unfold cu at h
 rw [gn] at h
 have hd:d<n:=by
  rcases Nat.lt_or_ge d n with q|q
  ·exact q
  ·rw [List.getElem?_eq_none (by simpa using q)] at h; cases h
 rw [List.getElem?_range hd] at h
 exact (Option.some.inj h).symm
end
section
/-- a truth goes on from here -/
def UG (w:cr) (b:Nat) (p:aQ×Int):Prop:= ∃ k,b+k≤w.n∧ ∃ q∈lq w k b p,m0 w q.1=true
section
variable {w:cr}
/-- a beam is passed at a time, by a signal -/
def HV (w:cr) (b:Nat) (s t:Int):Prop:= ∃ p∈qx w b,∃ o∈jV w b,o.1=s∧(max (p.2+de w b) o.2.Lo≤t∧t≤min o.2.Hi w.gj)∧UG w (b+1) (dL p.1 (gl o.1),t)
theorem M5 (hl: ∀ b,0≤de w b) {b:Nat} (hb:b<w.n) {s t:Int}:(∃ q∈q6 w b,q.1=s∧q.2.Lo≤t∧t≤q.2.Hi)↔HV w b s t:=by
 constructor
 ·rintro ⟨q,hq,hs,C,D⟩
  obtain ⟨o,ho,p,hp,u,hu,e⟩:=ju.1 hq
  obtain ⟨B,A,rfl⟩:=lj.1 e
  simp only [lx] at C D B
  have hn:u.2≤w.gj:=F2 hl _ _ hu
  obtain ⟨k,hk,q,hq',E⟩:=JX hl (w.n-(b+1)) (b+1) (dL p.1 (gl o.1),t) u I (by simp only; omega) hu
  refine ⟨p,hp,o,ho,hs,⟨I,I⟩,k,hk,q,hq',?_⟩
  rw [E]
  unfold zl at A
  rw [show dL (dL p.1 (gl o.1)) u.1=dL (dL p.1 u.1) (gl o.1) by simp only [dL,aQ.mk.injEq]; omega]
  exact A
 ·rintro ⟨p,hp,o,ho,hs,⟨C,D⟩,k,hk,q,hq,hm⟩
  obtain ⟨u,hu,B,A⟩:=NC k (b+1) _ q hk (by simp only; omega) hq
  simp only at B A
  refine ⟨(o.1,lx w b p u o),ju.2 ⟨o,ho,p,hp,u,hu,lj.2 ⟨by simp only [lx]; omega,?_,U⟩⟩,hs,by simp only [lx]; omega,by simp only [lx]; omega⟩
  unfold zl
  rw [A] at hm
  rw [show dL (dL p.1 u.1) (gl o.1)=dL (dL p.1 (gl o.1)) u.1 by simp only [dL,aQ.mk.injEq]; omega]
  exact hm
end
section
variable {w w':cr} {n:Int} {f g:Int→Int}
end
section
variable {l l':bH} {r r':c_} {n:Int} {f g:Int→Int}
end
end
section
theorem OM (a b:Int) (ha:0≤a) (hb:0<b):0≤a % b∧a % b<b:=⟨Int.emod_nonneg _ (Int.ne_of_gt hb),Int.emod_lt_of_pos _ hb⟩
theorem nB {l:bH} (ht:du l.aO=true) (h:lR l) {i:Nat} (hi:i<l.ab.length):1≤eE l i∧eE l i≤500000000:=by
 have A:=h.Ps i hi
 have B:=Cy ht h.vl i
 have hf:=h.head.1
 unfold eE o1
 refine ⟨(Int.le_ediv_iff_mul_le I).2 I,?_⟩
 have:(1000*lH l i+l.h_-1)/l.h_≤1000*lH l i+l.h_-1:=Int.ediv_le_self _ I
 omega
end
section
def dJ (good:List Int):aQ:=good.foldl (fun t g=>dL t (gl g)) ⟨0,0⟩
theorem ou {l:List Int} {g:Int}:dJ (l++[g])=dL (dJ l) (gl g):=by unfold dJ; rw [List.foldl_append]; rfl
section
variable {l:bH} {r:c_} {times good:List Int}
theorem sf {α:Type} {l:List α} {b:Nat} {x:α} (h:l[b]? =some x):l.take (b+1)=l.take b++[x]:=by rw [List.take_add_one,h]; rfl
end
end
section
def g4 (hi:Int→Int) (least:Nat→Int) (now:Int):Nat→List Int→List Int×Int
 |_,[]=>([],now)
 |b,x::xs=>((if 0≤x then min (g4 hi least now (b+1) xs).2 (hi x) else (g4 hi least now (b+1) xs).2)::(g4 hi least now (b+1) xs).1,(if 0≤x then min (g4 hi least now (b+1) xs).2 (hi x) else (g4 hi least now (b+1) xs).2)-least b)
def gG (t:Int):List Int→Int
 |[]=>t
 |x::xs=>gG x xs
def ks (w:cr):Nat→Int→List Int→List Int→Prop
 |_,_,[],[]=>True
 |b,t,x::rs,y::fs=>(∃ o∈jV w b,o.1=x∧max (t+de w b) o.2.Lo≤min o.2.Hi w.gj∧y=max (t+de w b) o.2.Lo)∧ks w (b+1) y rs fs
 |_,_,_,_=>False
section
variable {w:cr} {hi:Int→Int} {least:Nat→Int} {now:Int}
theorem sM: ∀ (b:Nat) (rs:List Int),(g4 hi least now b rs).1.length=rs.length
 |_,[]=>rfl
 |b,x::xs=>by simp only [g4,List.length_cons]; rw [sM]
theorem nF: ∀ (t:Int) (fs:List Int) (y:Int),gG t (fs++[y])=y
 |_,[],_=>rfl
 |t,x::fs,y=>nF x fs y
theorem CI: ∀ (t:Int) (fs:List Int) (y:Int),fs[fs.length-1]? =some y→gG t fs=y
 |t,[],y,h=>by simp at h
 |t,[x],y,h=>by simpa [gG] using h
 |t,x::x2::fs,y,h=>by
  show gG x (x2::fs)=y
  exact CI x (x2::fs) y (by simpa using h)
theorem uk: ∀ (b:Nat) (rs:List Int) (x:Int) (ss:List Int),(g4 hi least now b (rs++x::ss)).1[rs.length]? =some (if 0≤x then min (g4 hi least now (b+rs.length+1) ss).2 (hi x) else (g4 hi least now (b+rs.length+1) ss).2)
 |b,[],x,ss=>by simp [g4]
 |b,z::rs,x,ss=>by
  have:=uk (b+1) rs x ss
  simp only [List.cons_append,g4,List.length_cons,List.getElem?_cons_succ]
  rw [this,show b+1+rs.length+1=b+(rs.length+1)+1 by omega]
theorem kB: ∀ (b:Nat) (t:Int) (rs fs:List Int),ks w b t rs fs→fs.length=rs.length
 |_,_,[],[],_=>rfl
 |b,t,x::rs,y::fs,h=>by simp [kB _ _ rs fs h.2]
 |_,_,[],_::_,h=>h.elim
 |_,_,_::_,[],h=>h.elim
theorem si: ∀ (b:Nat) (t:Int) (rs fs ss gs:List Int),fs.length=rs.length→(ks w b t (rs++ss) (fs++gs)↔ks w b t rs fs∧ks w (b+rs.length) (gG t fs) ss gs)
 |b,t,[],[],ss,gs,_=>by simp [ks,gG]
 |b,t,x::rs,y::fs,ss,gs,h=>by
  have ih:=si (b+1) y rs fs ss gs (by simpa using h)
  simp only [List.cons_append,ks,List.length_cons,gG]
  rw [ih,show b+1+rs.length=b+(rs.length+1) by omega,and_assoc]
 |_,_,[],_::_,_,_,h=>by simp at h
 |_,_,_::_,[],_,_,h=>by simp at h
theorem Ex (b:List Int): ∀ t:aQ,b.foldl (fun t g=>dL t (gl g)) t=dL t (dJ b):=by
 induction b with
 |nil=>intro t; exact (nx t).symm
 |cons x b ih=>
  intro t
  show b.foldl (fun t g=>dL t (gl g)) (dL t (gl x))=dL t (b.foldl (fun t g=>dL t (gl g)) (dL ⟨0,0⟩ (gl x)))
  rw [ih,ih]; simp only [dL,aQ.mk.injEq]; omega
theorem rU (a b:List Int):dJ (a++b)=dL (dJ a) (dJ b):=by
 show (a++b).foldl _ _=_
 rw [List.foldl_append,Ex]; rfl
theorem rY:dJ []=(⟨0,0⟩:aQ):=rfl
theorem pX (l:List Int):dL (⟨0,0⟩:aQ) (dJ l)=dJ l:=by simp [dL]
theorem ti (x:Int) (l:List Int):dJ (x::l)=dL (gl x) (dJ l):=by
 rw [show x::l=[x]++l from rfl,rU,show dJ [x]=gl x from (ou (l:=[])).trans (by rw [rY]; simp [dL])]
theorem u0: ∀ l:List Int,0≤(dJ l).right∧0≤(dJ l).fB∧(dJ l).right+(dJ l).fB=(l.length:Int)
 |[]=>by rw [rY]; simp
 |x::l=>by
  rw [ti]
  have:=vG x
  have:=u0 l
  simp only [dL,List.length_cons]
  omega
/-- chains are what the watch goes through -/
theorem kg: ∀ (k b:Nat) (p q:aQ×Int),q∈lq w k b p↔ ∃ rs fs,rs.length=k∧ks w b p.2 rs fs∧q=(dL p.1 (dJ rs),gG p.2 fs):=by
 intro k
 induction k with
 |zero=>
  intro b p q
  simp only [lq,cE]
  constructor
  ·rintro rfl; exact ⟨[],[],rfl,trivial,by rw [rY,nx]; rfl⟩
  ·rintro ⟨rs,fs,A,B,rfl⟩
   have A:=kx A
   subst A
   have:=kx (kB _ _ _ _ B)
   subst this
   rw [rY,nx]; rfl
 |succ k ih=>
  intro b p q
  rw [o4]
  constructor
  ·rintro ⟨o,ho,p',e,h⟩
   obtain ⟨A,rfl⟩:=sk.1 e
   obtain ⟨rs,fs,B,C,rfl⟩:=(ih _ _ _).1 h
   refine ⟨o.1::rs,max (p.2+de w b) o.2.Lo::fs,by simp [B],⟨⟨o,ho,U,A,U⟩,C⟩,?_⟩
   rw [ti]
   simp only [gG,dL,Prod.mk.injEq,aQ.mk.injEq,and_true]; omega
  ·rintro ⟨rs,fs,A,B,rfl⟩
   cases rs with
   |nil=>simp at A
   |cons x rs=>
    cases fs with
    |nil=>exact B.elim
    |cons y fs=>
     obtain ⟨⟨o,ho,rfl,C,rfl⟩,D⟩:=B
     refine ⟨o,ho,_,sk.2 ⟨C,U⟩,(ih _ _ _).2 ⟨rs,fs,by simpa using A,D,?_⟩⟩
     rw [ti]
     simp only [gG,dL,Prod.mk.injEq,aQ.mk.injEq,and_true]; omega
/-- what the reference's rows of last times know -/
structure KE (w:cr) (hi:Int→Int) (least:Nat→Int) (now:Int):Prop where
 low: ∀ b,0≤de w b
 least: ∀ b,b<w.n→least b=de w b
 now:now=w.gj
 hi: ∀ b o,b<w.n→o∈jV w b→0≤o.1→o.2.Hi=hi o.1
 none_: ∀ b o,b<w.n→o∈jV w b→ ¬ 0≤o.1→o.2.Hi=w.gj
theorem xR (h:KE w hi least now): ∀ (b:Nat) (rs:List Int),b+rs.length≤w.n→(g4 hi least now b rs).2≤w.gj
 |_,[],_=>by simp only [g4]; exact Int.le_of_eq h.now
 |b,x::xs,hb=>by
  simp only [List.length_cons] at hb
  have B:=xR h (b+1) xs I
  have A:=h.low b
  rw [← h.least b I] at A
  simp only [g4]
  split<;>omega
theorem sj (h:KE w hi least now): ∀ (b:Nat) (t:Int) (rs fs:List Int),b+rs.length≤w.n→t≤w.gj→ks w b t rs fs→t≤(g4 hi least now b rs).2
 |_,t,[],[],_,ht,_=>by simp only [g4]; rw [h.now]; exact ht
 |b,t,x::rs,y::fs,hb,ht,hc=>by
  simp only [List.length_cons] at hb
  obtain ⟨⟨o,ho,rfl,D,rfl⟩,A⟩:=hc
  have B:=sj h (b+1) _ rs fs I I A
  have C:=h.least b I
  simp only [g4]
  split
  ·rename_i q
   have:=h.hi b o I ho q
   omega
  ·omega
 |_,_,[],_::_,_,_,hc=>hc.elim
 |_,_,_::_,[],_,_,hc=>hc.elim
theorem yn (h:KE w hi least now): ∀ (b:Nat) (t t':Int) (rs fs:List Int),b+rs.length≤w.n→t≤t'→t'≤(g4 hi least now b rs).2→ks w b t rs fs→ ∃ gs,ks w b t' rs gs
 |_,t,_,[],[],_,_,_,_=>⟨[],trivial⟩
 |b,t,t',x::rs,y::fs,hb,ht,he,hc=>by
  simp only [List.length_cons] at hb
  obtain ⟨⟨o,ho,rfl,E,rfl⟩,A⟩:=hc
  have C:=sj h (b+1) _ rs fs I I A
  have D:=h.least b I
  have F:=xR h (b+1) rs I
  simp only [g4] at he
  have B:max (t'+de w b) o.2.Lo≤min o.2.Hi w.gj∧max (t'+de w b) o.2.Lo≤(g4 hi least now (b+1) rs).2:=by
   split at he
   ·rename_i q
    have:=h.hi b o I ho q
    omega
   ·rename_i q
    have:=h.none_ b o I ho q
    omega
  obtain ⟨gs,hg⟩:=yn h (b+1) _ (max (t'+de w b) o.2.Lo) rs fs I I B.2 A
  exact ⟨_::gs,⟨o,ho,U,B.1,U⟩,hg⟩
 |_,_,_,[],_::_,_,_,_,hc=>hc.elim
 |_,_,_,_::_,[],_,_,_,hc=>hc.elim
theorem Cj (b:Nat) (t t':Int) (rs fs:List Int) (ht:t'≤t) (hc:ks w b t rs fs): ∃ gs,ks w b t' rs gs:=by
 have A:(dL ⟨0,0⟩ (dJ rs),gG t fs)∈lq w rs.length b (⟨0,0⟩,t):=(kg _ _ _ _).2 ⟨rs,fs,rfl,hc,rfl⟩
 clear A
 induction rs generalizing b t t' fs with
 |nil=>exact ⟨[],trivial⟩
 |cons x rs ih=>
  cases fs with
  |nil=>exact hc.elim
  |cons y fs=>
   obtain ⟨⟨o,ho,rfl,C,rfl⟩,B⟩:=hc
   obtain ⟨gs,hg⟩:=ih (b+1) _ (max (t'+de w b) o.2.Lo) fs I B
   exact ⟨_::gs,⟨o,ho,U,I,U⟩,hg⟩
/-- a way, as it is asked for -/
structure Ok (w:cr) (hi:Int→Int) (least:Nat→Int) (now:Int) (y:dA):Prop where
 chain:ks w 0 w.Start y.gQ y.ja
 len:y.gQ.length≤w.n
 last:y.mA=(g4 hi least now 0 y.gQ).1
 may:m0 w (dJ y.gQ)=true
theorem BK {k:Nat}:lM w (qx w k)=true↔ ∃ rs fs,rs.length=k∧ks w 0 w.Start rs fs∧m0 w (dJ rs)=true:=by
 unfold lM
 rw [List.any_eq_true]
 have e:=fun q=>(yV (w:=w) k 0 q)
 rw [Nat.zero_add] at e
 constructor
 ·rintro ⟨q,hq,hm⟩
  obtain ⟨p,hp,h⟩:=(e q).1 hq
  simp only [qx,cE] at hp
  subst hp
  obtain ⟨rs,fs,A,B,rfl⟩:=(kg _ _ _ _).1 h
  refine ⟨rs,fs,A,B,?_⟩
  rwa [pX] at hm
 ·rintro ⟨rs,fs,A,B,C⟩
  refine ⟨_,(e _).2 ⟨((⟨0,0⟩:aQ),w.Start),cE.2 U,(kg _ _ _ _).2 ⟨rs,fs,A,B,U⟩⟩,?_⟩
  simp only [pX]; exact C
theorem IU (h:KE w hi least now) (hs:w.Start≤w.gj) {b:Nat} (hb:b<w.n) {s t:Int}:HV w b s t↔ ∃ y,Ok w hi least now y∧ ∃ f e,y.gQ[b]? =some s∧y.ja[b]? =some f∧y.mA[b]? =some e∧f≤t∧t≤e:=by
 have ef:=fun q=>(yV (w:=w) b 0 q)
 rw [Nat.zero_add] at ef
 constructor
 ·rintro ⟨p,hp,o,ho,rfl,⟨C,L⟩,k,hk,q,hq,hm⟩
  obtain ⟨Y,AB,hp⟩:=(ef p).1 hp
  simp only [qx,cE] at AB
  subst AB
  obtain ⟨rs,fs,K,D,rfl⟩:=(kg _ _ _ _).1 hp
  obtain ⟨ss,gs,AA,E,rfl⟩:=(kg _ _ _ _).1 hq
  simp only at C L D E hm
  obtain ⟨gs',J⟩:=Cj (b+1) t (max (gG w.Start fs+de w b) o.2.Lo) ss gs C E
  have H:=kB _ _ _ _ D
  have T:=kB _ _ _ _ J
  have hc:ks w 0 w.Start (rs++o.1::ss) (fs++max (gG w.Start fs+de w b) o.2.Lo::gs'):=(si _ _ _ _ _ _ H).2 ⟨D,by rw [Nat.zero_add,K]; exact ⟨⟨o,ho,rfl,I,rfl⟩,J⟩⟩
  have he:=sj h (b+1) t ss gs I I E
  have A:=uk (hi:=hi) (least:=least) (now:=now) 0 rs o.1 ss
  rw [Nat.zero_add,K] at A
  refine ⟨⟨rs++o.1::ss,fs++max (gG w.Start fs+de w b) o.2.Lo::gs',(g4 hi least now 0 (rs++o.1::ss)).1⟩,⟨hc,by simp; omega,U,?_⟩,max (gG w.Start fs+de w b) o.2.Lo,_,?_,?_,A,C,?_⟩
  ·show m0 w (dJ (rs++o.1::ss))=true
   rw [show rs++o.1::ss=(rs++[o.1])++ss by simp,rU,ou]
   rwa [pX] at hm
  ·show (rs++o.1::ss)[b]? =some o.1
   rw [List.getElem?_append_right I,K,Nat.sub_self]; rfl
  ·show (fs++_::gs')[b]? =_
   rw [List.getElem?_append_right I,H,K,Nat.sub_self]; rfl
  ·split
   ·rename_i q
    have:=h.hi b o hb ho q
    omega
   ·exact he
 ·rintro ⟨y,hy,f,e,C,L,P,Q,V⟩
  obtain ⟨R,F,La⟩:=y
  obtain ⟨hc,hn,A,hm⟩:=hy
  simp only at C L P hc hn A hm
  have N:=(bf.1 C).1
  have S:=kB _ _ _ _ hc
  have eR:R=R.take b++s::R.drop (b+1):=by rw [← (bf.1 C).2]; exact (List.take_append_drop b R).symm.trans (by rw [List.drop_eq_getElem_cons N])
  have M:b<F.length:=by omega
  have eF:F=F.take b++f::F.drop (b+1):=by rw [← (bf.1 L).2]; exact (List.take_append_drop b F).symm.trans (by rw [List.drop_eq_getElem_cons M])
  rw [eR,eF,si _ _ _ _ _ _ (by simp only [List.length_take]; omega)] at hc
  have O:(R.take b).length=b:=by rw [List.length_take]; omega
  rw [O,Nat.zero_add] at hc
  obtain ⟨D,⟨o,ho,rfl,W,rfl⟩,E⟩:=hc
  have B:=uk (hi:=hi) (least:=least) (now:=now) 0 (R.take b) o.1 (R.drop (b+1))
  rw [← eR,O,Nat.zero_add,← A,P] at B
  have B:=Option.some.inj B
  have G:t≤(g4 hi least now (b+1) (R.drop (b+1))).2∧t≤min o.2.Hi w.gj:=by
   have X:=xR h (b+1) (R.drop (b+1)) (by rw [List.length_drop]; omega)
   split at B
   ·rename_i q
    have:=h.hi b o hb ho q
    omega
   ·rename_i q
    have:=h.none_ b o hb ho q
    omega
  obtain ⟨gs,J⟩:=yn h (b+1) _ t (R.drop (b+1)) (F.drop (b+1)) (by rw [List.length_drop]; omega) Q G.1 E
  refine ⟨(dL ⟨0,0⟩ (dJ (R.take b)),gG w.Start (F.take b)),(ef _).2 ⟨((⟨0,0⟩:aQ),w.Start),cE.2 U,(kg _ _ _ _).2 ⟨_,_,O,D,U⟩⟩,o,ho,U,⟨Q,G.2⟩,(R.drop (b+1)).length,by rw [List.length_drop]; omega,_,(kg _ _ _ _).2 ⟨_,gs,U,J,U⟩,?_⟩
  show m0 w (dL (dL (dL ⟨0,0⟩ (dJ (R.take b))) (gl o.1)) (dJ (R.drop (b+1))))=true
  rw [pX,← ou,← rU,show R.take b++[o.1]++R.drop (b+1)=R from by rw [List.append_assoc]; exact eR.symm]
  exact hm
end
noncomputable def L5 (l:bH) (r:c_) (x:Int):Int:=match r.aa[x.toNat]? with
 |some s=>(cV l s).Hi
 |none=>0
theorem Eu {l:bH} {r:c_} {x:Int} {s:aF} (h:r.aa[x.toNat]? =some s):L5 l r x=(cV l s).Hi:=by unfold L5; rw [h]
noncomputable def jC (l:bH) (r:c_) (rs:List Int):List Int:=(g4 (L5 l r) (eE l) r.gj 0 rs).1
noncomputable def py (l:bH) (r:c_) (n:Nat) (t i:Int):Option Int:=
 if i<0 then (if t≤r.gj then some t else none) else match r.aa[i.toNat]? with
  |some s=>if (s.fH=(n:Int)∧(cV l s).Lo≤(cV l s).Hi)∧max t (cV l s).Lo≤min r.gj (cV l s).Hi then some (max t (cV l s).Lo) else none
  |none=>none
noncomputable def ia (l:bH) (r:c_) (rs fs:List Int):List dA:=if (r.aa.length:Int)-(dJ rs).right≤l.fJ then [⟨rs,fs,jC l r rs⟩] else []
noncomputable def iE (l:bH) (r:c_):Nat→List Int→List Int→List dA
 |0,rs,fs=>if l.dC<(dJ rs).fB then [] else ia l r rs fs
 |k+1,rs,fs=>if l.dC<(dJ rs).fB then [] else ia l r rs fs++(List.range (r.aa.length+1)).flatMap fun (j:Nat)=>match py l r rs.length (gG r.Start fs+eE l rs.length) ((j:Int)-1) with
  |some t=>iE l r k (rs++[(j:Int)-1]) (fs++[t])
  |none=>[]
noncomputable def Dl (l:bH) (r:c_) (k:Nat) (rs fs:List Int) (j:Nat):List dA:=ia l r rs fs++(List.range j).flatMap fun (j:Nat)=>match py l r rs.length (gG r.Start fs+eE l rs.length) ((j:Int)-1) with
 |some t=>iE l r k (rs++[(j:Int)-1]) (fs++[t])
 |none=>[]
noncomputable def iG (l:bH) (r:c_) (k:Nat) (rs fs:List Int) (j:Nat):List dA:=(List.range j).flatMap fun (j:Nat)=>match py l r rs.length (gG r.Start fs+eE l rs.length) ((j:Int)-1) with
 |some t=>iE l r k (rs++[(j:Int)-1]) (fs++[t])
 |none=>[]
section
variable {l:bH} {r:c_} {k j:Nat} {rs fs:List Int} {t:Int}
theorem sD:Dl l r k rs fs j=ia l r rs fs++iG l r k rs fs j:=rfl
theorem nD (h:py l r rs.length (gG r.Start fs+eE l rs.length) ((j:Int)-1)=some t):iG l r k rs fs (j+1)=iG l r k rs fs j++iE l r k (rs++[(j:Int)-1]) (fs++[t]):=by
 unfold iG; rw [List.range_succ,List.flatMap_append]; simp [h]
theorem q7 (h:py l r rs.length (gG r.Start fs+eE l rs.length) ((j:Int)-1)=none):iG l r k rs fs (j+1)=iG l r k rs fs j:=by
 unfold iG; rw [List.range_succ,List.flatMap_append]; simp [h]
theorem nT (h:l.dC<(dJ rs).fB):iE l r k rs fs=[]:=by cases k<;>exact if_pos h
theorem oa (h: ¬ l.dC<(dJ rs).fB):iE l r 0 rs fs=ia l r rs fs:=if_neg h
theorem nI (h: ¬ l.dC<(dJ rs).fB):iE l r (k+1) rs fs=Dl l r k rs fs (r.aa.length+1):=if_neg h
theorem Cf {n:Nat} (hn:n<l.ab.length) (hl:0≤eE l n) (ht:r.Start≤t) {i y:Int} (hi: -1≤i):py l r n (t+eE l n) i=some y↔ ∃ o∈jV (dx l r) n,o.1=i∧max (t+de (dx l r) n) o.2.Lo≤min o.2.Hi (dx l r).gj∧y=max (t+de (dx l r) n) o.2.Lo:=by
 rw [pR hn]
 have hw:(dx l r).gj=r.gj:=rfl
 unfold py
 constructor
 ·intro h
  split at h
  ·rename_i B
   split at h
   ·cases h
    exact ⟨(-1,⟨r.Start,r.gj⟩),(vq hn).2 (.inl U),by simp only; omega,by simp only; omega,by simp only; omega⟩
   ·cases h
  ·rename_i B
   split at h
   ·rename_i s hs
    split at h
    ·rename_i q
     cases h
     exact ⟨((i.toNat:Nat),cV l s),(vq hn).2 (.inr ⟨i.toNat,(bf.1 hs).1,s,hs,q.1,U⟩),by simp only; omega,by simp only; omega,U⟩
    ·cases h
   ·cases h
 ·rintro ⟨o,ho,rfl,A,rfl⟩
  rcases (vq hn).1 ho with rfl|⟨k,hk,s,hs,q,rfl⟩
  ·simp only at A ⊢
   rw [if_pos I,if_pos I]
   congr 1; omega
  ·simp only at A ⊢
   rw [if_neg I,Int.toNat_natCast,hs]
   simp only
   rw [if_pos ⟨q,I⟩]
theorem IX (hl: ∀ n,n<l.ab.length→0≤eE l n): ∀ (k:Nat) (rs fs:List Int) (y:dA),rs.length+k=l.ab.length→fs.length=rs.length→r.Start≤gG r.Start fs→
 (y∈iE l r k rs fs↔ ∃ ss gs,ks (dx l r) rs.length (gG r.Start fs) ss gs∧ss.length≤k∧y=⟨rs++ss,fs++gs,jC l r (rs++ss)⟩∧m0 (dx l r) (dJ (rs++ss))=true):=by
 have D: ∀ (rs fs:List Int) (y:dA),¬ l.dC<(dJ rs).fB→(y∈ia l r rs fs↔y=⟨rs++[],fs++[],jC l r (rs++[])⟩∧m0 (dx l r) (dJ (rs++[]))=true):=by
  intro rs fs y hm
  unfold ia
  rw [List.append_nil,List.append_nil]
  have e:m0 (dx l r) (dJ rs)=true↔(r.aa.length:Int)-(dJ rs).right≤l.fJ:=by
   unfold m0
   rw [decide_eq_true_eq]
   exact ⟨fun q=>q.2,fun q=>⟨by have:(dx l r).dC=l.dC:=rfl; omega,q⟩⟩
  split
  ·rename_i q
   rw [cE]
   exact ⟨fun h=>⟨h,e.2 q⟩,fun h=>h.1⟩
  ·rename_i q
   exact ⟨fun h=>(by cases h),fun h=>absurd (e.1 h.2) q⟩
 have miss: ∀ (rs ss:List Int),l.dC<(dJ rs).fB→ ¬ m0 (dx l r) (dJ (rs++ss))=true:=by
  intro rs ss h q
  unfold m0 at q
  have:=(of_decide_eq_true q).1
  rw [rU] at this
  have C:=u0 ss
  simp only [dL] at this
  have:(dx l r).dC=l.dC:=rfl
  omega
 intro k
 induction k with
 |zero=>
  intro rs fs y hn hf hs
  by_cases hm:l.dC<(dJ rs).fB
  ·rw [nT hm]
   exact ⟨fun h=>(by cases h),fun ⟨ss,gs,_,_,_,q⟩=>absurd q (miss rs ss hm)⟩
  ·rw [oa hm,D _ _ _ hm]
   constructor
   ·rintro ⟨B,C⟩; exact ⟨[],[],trivial,sm,B,C⟩
   ·rintro ⟨ss,gs,B,C,E,F⟩
    have e:=kx (Nat.le_zero.1 C)
    subst e
    have e:=kx (kB _ _ _ _ B)
    subst e
    exact ⟨E,F⟩
 |succ k ih=>
  intro rs fs y hn hf hs
  by_cases hm:l.dC<(dJ rs).fB
  ·rw [nT hm]
   exact ⟨fun h=>(by cases h),fun ⟨ss,gs,_,_,_,q⟩=>absurd q (miss rs ss hm)⟩
  ·rw [nI hm]
   unfold Dl
   rw [gH,D _ _ _ hm,List.mem_flatMap]
   have A: ∀ (x y:Int),(rs++[x]).length+k=l.ab.length∧(fs++[y]).length=(rs++[x]).length:=fun x y=>by simp; omega
   constructor
   ·rintro (⟨B,C⟩|⟨j,hj,h⟩)
    ·exact ⟨[],[],trivial,sm,B,C⟩
    ·cases e:py l r rs.length (gG r.Start fs+eE l rs.length) ((j:Int)-1) with
     |none=>rw [e] at h; cases h
     |some t=>
      rw [e] at h
      simp only at h
      obtain ⟨o,ho,B,C,E⟩:=(Cf I (hl _ I) hs I).1 e
      have G:r.Start≤t:=by
       have:=hl rs.length I
       rw [pR I] at E
       omega
      obtain ⟨ss,gs,F,J,H,AA⟩:=(ih _ _ y (A _ t).1 (A _ t).2 (by rw [nF]; exact G)).1 h
      rw [nF,List.length_append] at F
      refine ⟨((j:Int)-1)::ss,t::gs,⟨⟨o,ho,B,C,E⟩,F⟩,by simp; omega,by simpa using H,by simpa using AA⟩
   ·rintro ⟨ss,gs,B,C,E,F⟩
    cases ss with
    |nil=>
     have e:=kx (kB _ _ _ _ B)
     subst e
     exact .inl ⟨E,F⟩
    |cons x ss=>
     cases gs with
     |nil=>exact B.elim
     |cons t gs=>
      obtain ⟨⟨o,ho,rfl,J,H⟩,AA⟩:=B
      right
      have hx: -1≤o.1∧o.1<(r.aa.length:Int):=by
       rcases (vq I).1 ho with rfl|⟨k,hk,s,hs,q,rfl⟩
       ·simp only; omega
       ·simp only; omega
      have G:r.Start≤t:=by
       have:=hl rs.length I
       rw [pR I] at H
       omega
      have K:((o.1+1).toNat:Int)-1=o.1:=by omega
      refine ⟨(o.1+1).toNat,List.mem_range.2 I,?_⟩
      rw [K,(Cf I (hl _ I) hs I).2 ⟨o,ho,rfl,J,H⟩]
      simp only
      refine (ih _ _ y (A _ t).1 (A _ t).2 (by rw [nF]; exact G)).2 ⟨ss,gs,?_,?_,?_,?_⟩
      ·rw [nF,List.length_append]; exact AA
      ·simp only [List.length_cons] at C; omega
      ·simpa using E
      ·simpa using F
end
theorem zR {l:bH} {r:c_} {rs fs:List Int} (h:(r.aa.length:Int)-(dJ rs).right≤l.fJ):ia l r rs fs=[⟨rs,fs,jC l r rs⟩]:=if_pos h
theorem w5 {l:bH} {r:c_} {rs fs:List Int} (h: ¬ (r.aa.length:Int)-(dJ rs).right≤l.fJ):ia l r rs fs=[]:=if_neg h
noncomputable def e8 (l:bH) (r:c_) (i:Nat):List ai:=(r.aa.take i).map (cV l)
noncomputable def fI (l:bH) (r:c_) (i:Nat):List Bool:=(r.aa.take i).map fun s=>decide ((cV l s).Lo≤(cV l s).Hi)
section
variable {l:bH} {r:c_} {i n:Nat} {s:aF} {rs:List Int}
theorem DR (h:r.aa[i]? =some s):e8 l r (i+1)=e8 l r i++[cV l s]:=by unfold e8; rw [List.take_add_one,h,List.map_append]; rfl
theorem Ea (h:r.aa[i]? =some s):fI l r (i+1)=fI l r i++[decide ((cV l s).Lo≤(cV l s).Hi)]:=by unfold fI; rw [List.take_add_one,h,List.map_append]; rfl
theorem r9 (h:i≤r.aa.length):(e8 l r i).length=i:=by unfold e8; rw [List.length_map,List.length_take]; omega
theorem vW (h:i≤r.aa.length):(fI l r i).length=i:=by unfold fI; rw [List.length_map,List.length_take]; omega
theorem Kb {k:Nat} {z:ai} (hs:r.aa[k]? =some s) (hz:(e8 l r r.aa.length)[k]? =some z):z=cV l s:=by
 unfold e8 at hz
 rw [List.take_length,gn,hs] at hz
 exact (Option.some.inj hz).symm
theorem Kj {k:Nat} {z:ai} (hz:(e8 l r r.aa.length)[k]? =some z): ∃ s,r.aa[k]? =some s∧z=cV l s:=by
 unfold e8 at hz
 rw [List.take_length,gn] at hz
 cases h:r.aa[k]? with
 |none=>rw [h] at hz; cases hz
 |some s=>rw [h] at hz; exact ⟨s,rfl,(Option.some.inj hz).symm⟩
theorem BR {k:Nat} {z:Bool} (hs:r.aa[k]? =some s) (hz:(fI l r r.aa.length)[k]? =some z):z=true↔(cV l s).Lo≤(cV l s).Hi:=by
 unfold fI at hz
 rw [List.take_length,gn,hs] at hz
 rw [← Option.some.inj hz]
 exact decide_eq_true_iff
theorem xK (l:bH) (s:aF):(0≤(cV l s).Lo∧(cV l s).Lo≤86400001)∧ -1≤(cV l s).Hi∧(cV l s).Hi≤86400000:=by
 have A:=iK (p:=gI (qw l s) s.Read) (n:=86400001)
 have B:=iK (p:=gJ (qw l s) s.Read) (n:=86400001)
 unfold cV rF
 simp only
 omega
/-- the last times from a beam on -/
noncomputable def j3 (l:bH) (r:c_) (rs:List Int) (j:Nat):List Int×Int:=g4 (L5 l r) (eE l) r.gj j (rs.drop j)
noncomputable def j2 (l:bH) (r:c_) (rs:List Int) (j:Nat):List Int:=List.replicate j 0++(j3 l r rs j).1
noncomputable def uR (l:bH) (r:c_) (rs:List Int) (j:Nat) (x:Int):Int:=if 0≤x then min (j3 l r rs j).2 (L5 l r x) else (j3 l r rs j).2
theorem vh:j3 l r rs rs.length=([],r.gj):=by unfold j3; rw [List.drop_length]; rfl
theorem Hg:j2 l r rs rs.length=List.replicate rs.length 0:=by unfold j2; rw [vh]; simp
theorem DO:j2 l r rs 0=jC l r rs:=by unfold j2 j3 jC; simp
theorem qk {j:Nat} {x:Int} (hj:0<j) (hx:rs[j-1]? =some x):j3 l r rs (j-1)=(uR l r rs j x::(j3 l r rs j).1,uR l r rs j x-eE l (j-1)):=by
 unfold j3 uR
 have hb:=(bf.1 hx).1
 rw [List.drop_eq_getElem_cons hb,(bf.1 hx).2,show j-1+1=j by omega]
 simp only [g4]
 rw [show j-1+1=j by omega]
 rfl
theorem Ha {j:Nat} (h:j≤rs.length):(j2 l r rs j).length=rs.length:=by unfold j2 j3; rw [List.length_append,List.length_replicate,sM,List.length_drop]; omega
theorem zb {j:Nat} {x:Int} (hj:0<j) (hx:rs[j-1]? =some x):(j2 l r rs j).set (j-1) (uR l r rs j x)=j2 l r rs (j-1):=by
 unfold j2
 rw [qk hj hx]
 simp only
 obtain ⟨k,rfl⟩: ∃ k,j=k+1:=⟨j-1,I⟩
 rw [Nat.add_sub_cancel,List.replicate_succ',List.append_assoc,List.set_append_right _ _ sm,List.length_replicate,Nat.sub_self]
 rfl
theorem FR (hr:0≤r.gj∧r.gj≤86400000) (hl: ∀ b,b<rs.length→0≤eE l b∧eE l b≤500000000) (hrs: ∀ x∈rs,0≤x→x<(r.aa.length:Int)): ∀ (d j:Nat),j+d=rs.length→(-1-500000000*(d:Int))≤(j3 l r rs j).2∧(j3 l r rs j).2≤86400000
 |0,j,h=>by
  obtain rfl:j=rs.length:=by omega
  rw [vh]; simp only; omega
 |d+1,j,h=>by
  have ih:=FR hr hl hrs d (j+1) I
  have hx:rs[j+1-1]? =some (rs[j]'I):=by rw [Nat.add_sub_cancel]; exact fV _
  have e:=qk (l:=l) (r:=r) (j:=j+1) I hx
  rw [Nat.add_sub_cancel] at e
  rw [e]
  simp only
  have A:=hl j I
  unfold uR
  split
  ·rename_i q
   have B:=hrs _ (List.getElem_mem (by omega:j<rs.length)) q
   obtain ⟨s,hs⟩: ∃ s,r.aa[(rs[j]'I).toNat]? =some s:=⟨r.aa[(rs[j]'I).toNat]'I,fV _⟩
   rw [Eu hs]
   have C:=xK l s
   omega
  ·omega
theorem HZ {t i:Int} (hi:i<0):(t≤r.gj→py l r n t i=some t)∧(¬ t≤r.gj→py l r n t i=none):=by
 unfold py; rw [if_pos hi]; exact ⟨fun h=>if_pos h,fun h=>if_neg h⟩
theorem IB {t i:Int} (hi: ¬ i<0) (hs:r.aa[i.toNat]? =some s) (hb:s.fH=(n:Int)) (hw:(cV l s).Lo≤(cV l s).Hi):(max t (cV l s).Lo≤min r.gj (cV l s).Hi→py l r n t i=some (max t (cV l s).Lo))∧(¬ max t (cV l s).Lo≤min r.gj (cV l s).Hi→py l r n t i=none):=by
 unfold py; rw [if_neg hi,hs]
 exact ⟨fun h=>if_pos ⟨⟨hb,hw⟩,h⟩,fun h=>if_neg fun q=>h q.2⟩
theorem x3 {t i:Int} (hi: ¬ i<0) (hs:r.aa[i.toNat]? =some s) (hb: ¬ (s.fH=(n:Int)∧(cV l s).Lo≤(cV l s).Hi)):py l r n t i=none:=by
 unfold py; rw [if_neg hi,hs]
 exact if_neg fun q=>hb q.1
theorem uw {x:Int} (hx:rs[i]? =some x):(dJ (rs.take (i+1))).right=(dJ (rs.take i)).right+(if 0≤x then 1 else 0):=by
 rw [sf hx,ou]
 unfold gl
 simp only [dL]
 by_cases h:x<0
 ·rw [if_pos h,if_neg I]
 ·rw [if_neg h,if_pos I]
end
theorem x7 {l:bH} {r:c_} {rs fs:List Int}:(ia l r rs fs).length≤1:=by unfold ia; split<;>simp
theorem xE {l:bH} {r:c_} (hr:r.aa.length≤10): ∀ (k:Nat) (rs fs:List Int),(iE l r k rs fs).length≤12^(k+1)
 |0,rs,fs=>by
  unfold iE
  split
  ·simp
  ·have:=x7 (l:=l) (r:=r) (rs:=rs) (fs:=fs); omega
 |k+1,rs,fs=>by
  unfold iE
  split
  ·simp
  ·rw [List.length_append]
   have B:=x7 (l:=l) (r:=r) (rs:=rs) (fs:=fs)
   have A: ∀ j,(iG l r k rs fs j).length≤j*12^(k+1):=by
    intro j
    induction j with
    |zero=>simp [iG]
    |succ j ih=>
     cases e:py l r rs.length (gG r.Start fs+eE l rs.length) ((j:Int)-1) with
     |none=>rw [q7 e,Nat.succ_mul]; exact Nat.le_trans ih (Nat.le_add_right _ _)
     |some t=>rw [nD e,List.length_append,Nat.succ_mul]; exact Nat.add_le_add ih (xE hr k (rs++[(j:Int)-1]) (fs++[t]))
   have C:=A (r.aa.length+1)
   have D:(r.aa.length+1)*12^(k+1)≤11*12^(k+1):=Nat.mul_le_mul_right _ I
   have E:0<12^(k+1):=Nat.pow_pos dc
   have F:12^(k+1+1)=12*12^(k+1):=by rw [Nat.pow_succ,Nat.mul_comm]
   show (ia l r rs fs).length+(iG l r k rs fs (r.aa.length+1)).length≤_
   omega
theorem Jh {l:bH} {r:c_} (hr:r.aa.length≤10) {k j:Nat} {rs fs:List Int} (hk:k≤5) (hj:j≤11):(iG l r k rs fs j).length≤40000000:=by
 have A: ∀ j,(iG l r k rs fs j).length≤j*12^(k+1):=by
  intro j
  induction j with
  |zero=>simp [iG]
  |succ j ih=>
   cases e:py l r rs.length (gG r.Start fs+eE l rs.length) ((j:Int)-1) with
   |none=>rw [q7 e,Nat.succ_mul]; exact Nat.le_trans ih (Nat.le_add_right _ _)
   |some t=>rw [nD e,List.length_append,Nat.succ_mul]; exact Nat.add_le_add ih (xE hr k (rs++[(j:Int)-1]) (fs++[t]))
 have C:=A j
 have B:12^(k+1)≤12^6:=Nat.pow_le_pow_right dc I
 have D:j*12^(k+1)≤11*12^6:=Nat.mul_le_mul hj B
 omega
theorem vV {l:bH} {r:c_} (hr:r.aa.length≤10) {k:Nat} {rs fs:List Int} (hk:k≤6):(iE l r k rs fs).length≤40000000:=by
 have A:=xE hr k rs fs (l:=l)
 have B:12^(k+1)≤12^7:=Nat.pow_le_pow_right dc I
 omega
noncomputable def qK (l:bH) (r:c_):List dA:=iE l r l.ab.length [] []
section
variable {l:bH} {r:c_}
theorem mF:(dx l r).n=l.ab.length:=dv
theorem OF (hle:eT l=0) (hr:fQ l r):KE (dx l r) (L5 l r) (eE l) r.gj:=by
 obtain ⟨ht,B⟩:=eh hle
 refine ⟨fun b=>((mI ht B hr).de b).1,fun b hb=>(pR (by rw [mF] at hb; exact hb)).symm,U,fun b o hb ho A=>?_,fun b o hb ho A=>?_⟩
 ·rw [mF] at hb
  rcases (vq hb).1 ho with rfl|⟨k,hk,s,hs,q,rfl⟩
  ·simp only at A; omega
  ·exact (Eu (by simpa using hs)).symm
 ·rw [mF] at hb
  rcases (vq hb).1 ho with rfl|⟨k,hk,s,hs,q,rfl⟩
  ·rfl
  ·simp only at A; omega
theorem qc (hle:eT l=0) (hr:fQ l r) {y:dA}:y∈qK l r↔Ok (dx l r) (L5 l r) (eE l) r.gj y:=by
 obtain ⟨ht,D⟩:=eh hle
 have hl: ∀ n,n<l.ab.length→0≤eE l n:=fun n hn=>by have:=nB ht D (i:=n) hn; omega
 unfold qK
 rw [IX hl _ _ _ _ sm rfl (Int.le_refl _)]
 constructor
 ·rintro ⟨ss,gs,B,A,rfl,C⟩
  exact ⟨B,by rw [mF]; exact A,U,C⟩
 ·rintro ⟨B,A,E,C⟩
  rw [mF] at A
  exact ⟨y.gQ,y.ja,B,A,by rw [List.nil_append,List.nil_append]; unfold jC; rw [← E],C⟩
theorem H6 (hle:eT l=0) (hr:fQ l r) {k:Nat} (hk:k≤l.ab.length):((qK l r).any fun y=>decide (y.gQ.length=k))=lM (dx l r) (qx (dx l r) k):=by
 rw [Bool.eq_iff_iff,BK,List.any_eq_true]
 constructor
 ·rintro ⟨y,hy,e⟩
  have h:=(qc hle hr).1 hy
  exact ⟨y.gQ,y.ja,of_decide_eq_true e,h.chain,h.may⟩
 ·rintro ⟨rs,fs,e,A,B⟩
  exact ⟨⟨rs,fs,(g4 (L5 l r) (eE l) r.gj 0 rs).1⟩,(qc hle hr).2 ⟨A,by rw [mF]; simp only; omega,U,B⟩,cO e⟩
theorem im (hle:eT l=0) (hr:fQ l r):qK l r=[]↔l3 (dx l r)=[]:=by
 constructor
 ·intro h
  apply List.eq_nil_iff_forall_not_mem.2
  intro x hx
  obtain ⟨k,rfl,hk,hm⟩:=Cq.1 hx
  rw [mF] at hk
  rw [← H6 hle hr hk,h] at hm
  cases hm
 ·intro h
  apply List.eq_nil_iff_forall_not_mem.2
  intro y hy
  have hw:=(qc hle hr).1 hy
  have:(y.gQ.length:Int)∈l3 (dx l r):=Cq.2 ⟨y.gQ.length,rfl,hw.len,BK.2 ⟨_,_,rfl,hw.chain,hw.may⟩⟩
  rw [h] at this; cases this
/-- the times at a beam, by all ways -/
def jk (b:Nat) (ws:List dA):List (Int×ai):=ws.filterMap fun y=>match y.gQ[b]?,y.ja[b]?,y.mA[b]? with
 |some s,some f,some e=>some (s,⟨f,e⟩)
 |_,_,_=>none
theorem nP {b:Nat} {ws:List dA} {q:Int×ai}:q∈jk b ws↔ ∃ y∈ws,y.gQ[b]? =some q.1∧y.ja[b]? =some q.2.Lo∧y.mA[b]? =some q.2.Hi:=by
 unfold jk
 rw [List.mem_filterMap]
 constructor
 ·rintro ⟨y,hy,h⟩
  cases e1:y.gQ[b]? with
  |none=>rw [e1] at h; cases h
  |some s=>
   cases e2:y.ja[b]? with
   |none=>rw [e1,e2] at h; cases h
   |some f=>
    cases e3:y.mA[b]? with
    |none=>rw [e1,e2,e3] at h; cases h
    |some e=>
     rw [e1,e2,e3] at h; cases h
     exact ⟨y,hy,e1,e2,e3⟩
 ·rintro ⟨y,hy,A,B,C⟩
  exact ⟨y,hy,by rw [A,B,C]⟩
theorem xM {b:Nat} {ws:List dA} {y:dA} (h:y.gQ.length≤b):jk b (ws++[y])=jk b ws:=by
 unfold jk; rw [List.filterMap_append]; simp [List.getElem?_eq_none h]
theorem qJ {b:Nat} {ws:List dA} {y:dA} {s f e:Int} (h1:y.gQ[b]? =some s) (h2:y.ja[b]? =some f) (h3:y.mA[b]? =some e):jk b (ws++[y])=jk b ws++[(s,⟨f,e⟩)]:=by
 unfold jk; rw [List.filterMap_append]; simp [h1,h2,h3]
theorem IJ (hle:eT l=0) (hr:fQ l r) {y:dA} (hy:y∈qK l r):y.ja.length=y.gQ.length∧y.mA.length=y.gQ.length∧y.gQ.length≤l.ab.length:=by
 have h:=(qc hle hr).1 hy
 exact ⟨kB _ _ _ _ h.chain,by rw [h.last,sM],by have:=h.len; rwa [mF] at this⟩
theorem uO (hle:eT l=0) (hr:fQ l r) {b:Nat} (hb:b<l.ab.length) {s t:Int}:(∃ q∈q6 (dx l r) b,q.1=s∧q.2.Lo≤t∧t≤q.2.Hi)↔ ∃ q∈jk b (qK l r),q.1=s∧q.2.Lo≤t∧t≤q.2.Hi:=by
 have hh:=OF hle hr
 rw [M5 hh.low (by rw [mF]; exact hb),IU hh hr.time.2.1 (by rw [mF]; exact hb)]
 constructor
 ·rintro ⟨y,hy,f,e,A,B,C,D,E⟩
  exact ⟨(s,⟨f,e⟩),nP.2 ⟨y,(qc hle hr).2 hy,A,B,C⟩,U,D,E⟩
 ·rintro ⟨q,hq,rfl,D,E⟩
  obtain ⟨y,hy,A,B,C⟩:=nP.1 hq
  exact ⟨y,(qc hle hr).1 hy,_,_,A,B,C,D,E⟩
/-- a way's span is none that is empty -/
theorem xu (hle:eT l=0) (hr:fQ l r) {b:Nat} {q:Int×ai} (hq:q∈jk b (qK l r)):q.2.Lo≤q.2.Hi:=by
 have hh:=OF hle hr
 obtain ⟨y,hy,C,D,H⟩:=nP.1 hq
 obtain ⟨hc,hn,B,hm⟩:=(qc hle hr).1 hy
 obtain ⟨R,F,La⟩:=y
 simp only at C D H hc hn B
 have G:=(bf.1 C).1
 have E:=(bf.1 D).1
 have L:=kB _ _ _ _ hc
 have eR:R=R.take b++q.1::R.drop (b+1):=by rw [← (bf.1 C).2]; exact (List.take_append_drop b R).symm.trans (by rw [List.drop_eq_getElem_cons G])
 have eF:F=F.take b++q.2.Lo::F.drop (b+1):=by rw [← (bf.1 D).2]; exact (List.take_append_drop b F).symm.trans (by rw [List.drop_eq_getElem_cons E])
 rw [eR,eF,si _ _ _ _ _ _ (by simp only [List.length_take]; omega)] at hc
 have AA:(R.take b).length=b:=by rw [List.length_take]; omega
 rw [AA,Nat.zero_add] at hc
 obtain ⟨M,⟨o,ho,K,N,O⟩,J⟩:=hc
 have A:=uk (hi:=L5 l r) (least:=eE l) (now:=r.gj) 0 (R.take b) q.1 (R.drop (b+1))
 rw [← eR,AA,Nat.zero_add,← B,H] at A
 have A:=Option.some.inj A
 have he:=sj hh (b+1) q.2.Lo (R.drop (b+1)) (F.drop (b+1)) (by rw [List.length_drop]; omega) I J
 rw [← K] at A
 split at A
 ·rename_i z
  have:=hh.hi b o I ho z
  omega
 ·omega
theorem Cs {a b:List (Int×ai)} {h k:ai} (ha:kJ a h) (hb:kJ b k) (hab: ∀ x∈b,(∃ y∈a,y.2.Lo≤x.2.Lo)∧ ∃ y∈a,x.2.Hi≤y.2.Hi) (hba: ∀ x∈a,(∃ y∈b,y.2.Lo≤x.2.Lo)∧ ∃ y∈b,x.2.Hi≤y.2.Hi):h=k:=by
 rcases ha with ⟨rfl,rfl⟩|ha
 ·rcases hb with ⟨rfl,rfl⟩|hb
  ·rfl
  ·obtain ⟨x,hx,_⟩:=hb.lo
   obtain ⟨⟨y,hy,_⟩,_⟩:=hab x hx
   cases hy
 ·rcases hb with ⟨rfl,rfl⟩|hb
  ·obtain ⟨x,hx,_⟩:=ha.lo
   obtain ⟨⟨y,hy,_⟩,_⟩:=hba x hx
   cases hy
  ·obtain ⟨M,E,AA⟩:=ha.lo
   obtain ⟨N,F,V⟩:=ha.hi
   obtain ⟨O,G,W⟩:=hb.lo
   obtain ⟨P,H,X⟩:=hb.hi
   obtain ⟨⟨AB,A,Y⟩,_⟩:=hba M E
   obtain ⟨_,J,B,Z⟩:=hba N F
   obtain ⟨⟨K,C,c⟩,_⟩:=hab O G
   obtain ⟨_,L,D,d⟩:=hab P H
   have Q:=hb.all AB A
   have R:=hb.all J B
   have S:=ha.all K C
   have T:=ha.all L D
   apply ai.ext
   ·omega
   ·omega
theorem Kn (hle:eT l=0) (hr:fQ l r) {b:Nat} (hb:b<l.ab.length) {h:ai} (hh:kJ (jk b (qK l r)) h):h=mU l r b:=by
 have hk:=vk (l:=q6 (dx l r) b) (fun q hq=>oJ hq)
 refine Cs hh hk (fun x hx=>?_) (fun x hx=>?_)
 ·have hle':=oJ hx
  obtain ⟨y,hy,_,A,C⟩:=(uO hle hr hb (s:=x.1) (t:=x.2.Lo)).1 ⟨x,hx,rfl,Int.le_refl _,hle'⟩
  obtain ⟨z,hz,_,D,B⟩:=(uO hle hr hb (s:=x.1) (t:=x.2.Hi)).1 ⟨x,hx,rfl,hle',Int.le_refl _⟩
  exact ⟨⟨y,hy,A⟩,z,hz,B⟩
 ·have hle':=xu hle hr hx
  obtain ⟨y,hy,_,A,C⟩:=(uO hle hr hb (s:=x.1) (t:=x.2.Lo)).2 ⟨x,hx,rfl,Int.le_refl _,hle'⟩
  obtain ⟨z,hz,_,D,B⟩:=(uO hle hr hb (s:=x.1) (t:=x.2.Hi)).2 ⟨x,hx,rfl,hle',Int.le_refl _⟩
  exact ⟨⟨y,hy,A⟩,z,hz,B⟩
end
def qh (ws:List dA) (b:Nat):Int:=if wc (jk b ws)=mX then 6 else 0
def p8 (ws:List dA) (b:Nat):ai:=if wc (jk b ws)=mX then ⟨0,0⟩ else wc (jk b ws)
theorem Nk {l:List (Int×ai)} {h:ai} (hh:kJ l h) (hl: ∀ q∈l,q.2.Lo≤q.2.Hi):wc l=h:=
 Cs (vk hl) hh (fun x hx=>⟨⟨x,hx,Int.le_refl _⟩,x,hx,Int.le_refl _⟩) (fun x hx=>⟨⟨x,hx,Int.le_refl _⟩,x,hx,Int.le_refl _⟩)
theorem D5 {ws:List dA} {b:Nat} (h:jk b ws=[]):qh ws b=6∧p8 ws b=⟨0,0⟩:=by
 unfold qh p8; rw [h]; exact ⟨if_pos rfl,if_pos rfl⟩
theorem Dx {ws:List dA} {b:Nat} {o:ai} (hl: ∀ q∈jk b ws,q.2.Lo≤q.2.Hi) (h:oU (jk b ws) o):qh ws b=0∧p8 ws b=o:=by
 have e:=Nk (.inr h) hl
 unfold qh p8; rw [e]; exact ⟨if_neg h.ne,if_neg h.ne⟩
/-- what was found until now -/
def n9 (b:Nat) (ws:List dA) (fd:Bool) (o:ai):Prop:=(fd=false∧jk b ws=[])∨(fd=true∧oU (jk b ws) o)
theorem GG {b:Nat} {o:ai}:n9 b [] false o:= .inl ⟨rfl,rfl⟩
theorem Bq {q:Int×ai} (hq:q.2.Lo≤q.2.Hi):oU [q] q.2:=⟨hq,⟨q,sm,rfl⟩,⟨q,sm,rfl⟩,fun x hx=>by simp at hx; subst hx; exact ⟨Int.le_refl _,Int.le_refl _⟩⟩
theorem As {l:List (Int×ai)} {h:ai} {q:Int×ai} (hh:oU l h) (hq:q.2.Lo≤q.2.Hi):oU (l++[q]) ⟨min q.2.Lo h.Lo,max q.2.Hi h.Hi⟩:=by
 have:=vj (.inr hh) hq
 unfold mT at this
 rw [if_neg hh.ne] at this
 rcases this with ⟨e,_⟩|this
 ·simp at e
 ·exact this
theorem D0 {b:Nat} {ws:List dA} {fd:Bool} {o:ai} {y:dA} (h:n9 b ws fd o) (hy:y.gQ.length≤b):n9 b (ws++[y]) fd o:=by
 unfold n9; rw [xM hy]; exact h
theorem Bg {b:Nat} {ws:List dA} {fd:Bool} {o:ai} {y:dA} {s f e:Int} (h:n9 b ws fd o) (hf:fd=false) (h1:y.gQ[b]? =some s) (h2:y.ja[b]? =some f) (h3:y.mA[b]? =some e) (hle:f≤e):n9 b (ws++[y]) true ⟨f,e⟩:=by
 rcases h with ⟨_,q⟩|⟨q,_⟩
 ·right
  rw [qJ h1 h2 h3,q]
  exact ⟨U,Bq hle⟩
 ·rw [q] at hf; cases hf
theorem Ei {b:Nat} {ws:List dA} {fd:Bool} {o:ai} {y:dA} {s f e:Int} (h:n9 b ws fd o) (hf:fd=true) (h1:y.gQ[b]? =some s) (h2:y.ja[b]? =some f) (h3:y.mA[b]? =some e) (hle:f≤e):n9 b (ws++[y]) true ⟨min f o.Lo,max e o.Hi⟩:=by
 rcases h with ⟨q,_⟩|⟨_,q⟩
 ·rw [q] at hf; cases hf
 ·right
  rw [qJ h1 h2 h3]
  exact ⟨U,As q hle⟩
theorem zh {b:Nat} {ws:List dA} {fd:Bool} {o:ai} (h:n9 b ws fd o) (hl: ∀ q∈jk b ws,q.2.Lo≤q.2.Hi):(fd=false→qh ws b=6∧p8 ws b=⟨0,0⟩)∧(fd=true→qh ws b=0∧p8 ws b=o):=by
 rcases h with ⟨q,h⟩|⟨q,h⟩
 ·exact ⟨fun _=>D5 h,fun e=>(by rw [q] at e; cases e)⟩
 ·exact ⟨fun e=>(by rw [q] at e; cases e),fun _=>Dx hl h⟩
section
variable {l:bH} {r:c_}
theorem Ix (he:fu l r 0=0) {b:Nat} (hb:b<l.ab.length):qh (qK l r) b=dW l r b∧p8 (qK l r) b=dN l r b:=by
 obtain ⟨A,hr,_,_⟩:=jh he
 have h:=Kn A hr hb (vk fun q hq=>xu A hr hq)
 have ho:fu l r (ke l b)=0:=by rw [GX hb]; exact he
 unfold qh p8
 rw [h]
 by_cases e:mU l r b=mX
 ·rw [if_pos e,if_pos e,(qR ho e).1,(qR ho e).2]; exact ⟨rfl,rfl⟩
 ·rw [if_neg e,if_neg e,(ot ho e).1,(ot ho e).2]; exact ⟨rfl,rfl⟩
theorem Pg (hle:eT l=0) (hr:fQ l r) {y:dA} (hy:y∈qK l r) {b:Nat} {f e:Int} (hb:b<y.gQ.length) (h2:y.ja[b]? =some f) (h3:y.mA[b]? =some e):f≤e:=
 xu hle hr (q:=(y.gQ[b],⟨f,e⟩)) (nP.2 ⟨y,hy,fV _,h2,h3⟩)
theorem BV:fu l r (ke l l.cf)=fu l r 0:=by
 by_cases h:eT l=0
 ·obtain ⟨_,A⟩:=eh h
  have hh:=A.head
  unfold eZ at hh
  rw [uW I]
 ·rw [mS h,mS h]
theorem v8 (h: ¬ fu l r 0=0):dW l r l.cf=fu l r 0:=by
 have:=(mB (b:=l.cf) (by rw [BV]; exact h)).1
 rw [this,BV]
/-- rows of times that are those of ways -/
structure NL (ws:List dA):Prop where
 lens: ∀ y∈ws,y.ja.length=y.gQ.length∧y.mA.length=y.gQ.length∧y.gQ.length≤6
 le: ∀ y∈ws,∀ (b:Nat) f e,b<y.gQ.length→y.ja[b]? =some f→y.mA[b]? =some e→f≤e
 num:ws.length≤40000000
theorem NL.FQ {ws:List dA} (h:NL ws) {b:Nat}: ∀ q∈jk b ws,q.2.Lo≤q.2.Hi:=fun q hq=>by
 obtain ⟨y,hy,A,B,C⟩:=nP.1 hq
 exact h.le y hy b _ _ (bf.1 A).1 B C
theorem Qz (hle:eT l=0) (hr:fQ l r):NL (qK l r):=by
 obtain ⟨ht,B⟩:=eh hle
 have hh:=B.head
 unfold eZ at hh
 refine ⟨fun y hy=>?_,fun y hy b f e hb A C=>Pg hle hr hy hb A C,vV hr.len I⟩
 obtain ⟨D,A,C⟩:=IJ hle hr hy
 exact ⟨D,A,I⟩
end
end
end Go.Proofs.YtkaenmjhfajbkaaGreatDoor
