/-
 The statement juryRules_said, part 7 of 9: V5, V6, Wh1, V4, V8, Wh2, Jw3, Jw4, Jw5, Rc1, Rc2, Rc3, Rc4, Rs1, S2, Rs2, Rs3, Rs4, Rt2, Jw6, Jw7, Jw8, Jw9.
 Conditions: none.
-/
import Derived.Test.YtkaenmjhfajbkaaGreatDoorTv1
import Derived.Test.YtkaenmjhfajbkaaGreatDoorTv2
import Derived.Test.YtkaenmjhfajbkaaGreatDoorTv3
import Derived.Test.YtkaenmjhfajbkaaGreatDoorTv4
import Derived.Test.YtkaenmjhfajbkaaGreatDoorTv5
import Derived.Test.YtkaenmjhfajbkaaGreatDoorTv6
namespace Go.Proofs.YtkaenmjhfajbkaaGreatDoor
set_option maxRecDepth 100000
set_option maxHeartbeats 4000000
set_option linter.unusedVariables false
section
open Go.RowKit
theorem Ct (ln:bW) (ri:de) (e:List Int) (tms:List TM) (e_A:OA) (e_C:Nat) (tb:List Nat) (t_A:OA) (t_C gw:Nat) (hw:Gu (cV ln ri e tms)) (hn:ln.aj.n=e.length) (htb:tb.length=tms.length):
 LF Tryz.prog 185 [(vP gw)] [(rd e_A e.length 1 (e.map iC)),(rd t_A tms.length 1 (List.zipWith gK tms tb)),(iH (bK p6 tms tb))] (cy gw 276 (ck.cells (ck.mk ln ri (bj.mk e_A e.length e_C) (bj.mk t_A tms.length t_C) (bj.mk none 0 0) (bj.mk none 0 0)))) (fun (x:(List FM)×(List Nat)×(OA)×Nat×(List FM)×(List Nat)×(OA)×Nat)=>(vT [])) (fun (x:(List FM)×(List Nat)×(OA)×Nat×(List FM)×(List Nat)×(OA)×Nat)=>wm (cV ln ri e tms) x.1∧tP (cV ln ri e tms) x.2.2.2.2.1∧x.2.1.length=x.1.length∧x.2.2.2.2.2.1.length=x.2.2.2.2.1.length) (fun (x:(List FM)×(List Nat)×(OA)×Nat×(List FM)×(List Nat)×(OA)×Nat)=>(bQ [(cy gw 276 (ck.cells (ck.mk ln ri (bj.mk e_A e.length e_C) (bj.mk t_A tms.length t_C) (bj.mk x.2.2.1 x.1.length x.2.2.2.1) (bj.mk x.2.2.2.2.2.2.1 x.2.2.2.2.1.length x.2.2.2.2.2.2.2)))),(own x.2.2.1 x.2.2.2.1 279 1 (List.zipWith gK x.1 x.2.1)),(bQ (bK ny x.1 x.2.1)),(own x.2.2.2.2.2.2.1 x.2.2.2.2.2.2.2 279 1 (List.zipWith gK x.2.2.2.2.1 x.2.2.2.2.2.1)),(bQ (bK ny x.2.2.2.2.1 x.2.2.2.2.2.1))])):=by
 have WT:e.length≤6:=hw.n
 have WU:tms.length=e.length:=hw.times
 refine vl kr Tryz.func185 U U fun w0 Q hQ hN=>?_
 try dsimp only
 refine WS fun _ C3=>wV U U fun W=>RK C3<|WS fun _ EQ=>dY 1 [] (mc 0 U I) U<|rS (SX (cv U U) U U)<|rP 5 [] (mc 1 U I) ?_
 refine RK EQ ?_
 refine oR (ι:={z:(OA)×(OA) // True}) [0,1,2] [0,2,3,4] U U (fun z=>[]) (fun z=>[(own z.1.1 (ln.aj.n+1) 279 1 (List.map oC (List.replicate (ln.aj.n+1) (none:Option Nat)))),(own z.1.2 (ln.aj.n+1) 279 1 (List.map oC (List.replicate (ln.aj.n+1) (none:Option Nat)))),(cy gw 276 (ck.cells (ck.mk ln ri (bj.mk e_A e.length e_C) (bj.mk t_A tms.length t_C) (bj.mk z.1.1 (ln.aj.n+1) (ln.aj.n+1)) (bj.mk z.1.2 (ln.aj.n+1) (ln.aj.n+1)))))]) (fun _=>rfl) (fun _=>rfl) ?_ fun K4 Eq=>?_
 ·rintro ⟨⟨fA,bA⟩,_⟩
  try dsimp only
  refine CY 6 U U fun wz Sz hz=>?_
  have WP:(List.replicate (ln.aj.n+1) (none:Option Nat)).length=(ln.aj.n+1):=List.length_replicate
  try dsimp only
  refine oR (ι:={z:Nat // True}) [0,1,2] [0,1,2,3,4,6] U U (fun z=>[]) (fun z=>[(bQ (bK ny [[((aQ.mk 0 0),ri.Start)]] [z.1])),(own fA (ln.aj.n+1) 279 1 (List.map oC (dJ [z.1] (ln.aj.n+1))))]) (fun _=>rfl) (fun _=>rfl) ?_ fun K5 VV=>?_
  ·rintro ⟨ga,_⟩
   try dsimp only
   refine ag fun _ FS=>WS fun _ Fd=>rP 2 [] I ?_
   refine RK Fd<|ax<|lx ?_
   have C:(0≤ln.aj.n)∧(([[((aQ.mk 0 0),ri.Start)]]).length=0+1)∧(([ga]).length=0+1)∧(qM (cV ln ri e tms) ([[((aQ.mk 0 0),ri.Start)]])):=by exact ⟨Nat.zero_le _,rfl,rfl,qM.first⟩
   refine wX (ι:={z:Nat×(List FM)×(List Nat)×(List Nat) // (z.1≤ln.aj.n)∧(z.2.1.length=z.1+1)∧(z.2.2.1.length=z.1+1)∧(qM (cV ln ri e tms) z.2.1)}) (fun z=>z.1.2.2.2.map jY) (fun z=>[(0,(vP gw)),(1,(vP W)),(2,(vI (ln.aj.n:Int))),(52,(vI (ln.aj.n:Int))),(53,(vI (z.1.1:Int)))]) (fun z=>[(bQ (z.1.2.2.2.map mI)),(cy gw 276 (ck.cells (ck.mk ln ri (bj.mk e_A e.length e_C) (bj.mk t_A tms.length t_C) (bj.mk fA (ln.aj.n+1) (ln.aj.n+1)) (bj.mk bA (ln.aj.n+1) (ln.aj.n+1))))).ro,(cy W 228 [(vP gw)]),(rd e_A e.length 1 (e.map iC)).ro,(rd t_A tms.length 1 (List.zipWith gK tms tb)).ro,(iH (bK p6 tms tb)).ro,(own bA (ln.aj.n+1) 279 1 (List.map oC (List.replicate (ln.aj.n+1) (none:Option Nat)))),(bQ (bK ny z.1.2.1 z.1.2.2.1)),(own fA (ln.aj.n+1) 279 1 (List.map oC (dJ z.1.2.2.1 (ln.aj.n+1))))]) (fun z=>ln.aj.n-z.1.1) ⟨(0,[[((aQ.mk 0 0),ri.Start)]],[ga],([]:List Nat)),C⟩ U (bf U) (aK [0,1,2,3,4,5,6,7,8]) ?_
   clear C
   rintro ⟨⟨b,fs,fb,VO⟩,⟨Jb,A3,Jk,M⟩⟩ J8 VU
   try dsimp only at Jb A3 Jk M
   try dsimp only
   have WQ:(dJ fb (ln.aj.n+1)).length=(ln.aj.n+1):=nH om
   refine WS fun _ Fk=>rP 1 [] I ?_
   refine RK Fk<|ag fun _ AO=>cb U (aN fun VS=>?_) (aO fun VS=>?_)
   ·refine WK AO<|ag fun _ LV=>ax<|WS fun _ La=>rP 1 [] I ?_
    refine AL U kR fun s=>MI U En U U<|RK La<|ag fun _ Li=>dp cj [6,8] [6] [0] [0,1,2,3,4,5,6,7,8] [0,1,2,3,4,5,6,7,8,9] U U U U U<|eS U (Ec 3 U bV U)<|eS U (SX (cv U U) U U)<|eS U (FA 12 U eD U)<|eS U (IQ (vS fA (ln.aj.n+1) (ln.aj.n+1)) 2 U bV U U)<|eS U (Ec 0 U bV U)<|eS U (BI U (oN ⟨om,om⟩)) ?_
    obtain ⟨V6,Uv⟩:=aA (dJ fb (ln.aj.n+1)) (b+1) om
    have hx17m:(List.map oC (dJ fb (ln.aj.n+1)))[(b+1)]? =some (oC V6):=by rw [f_,Uv]; rfl
    refine fS U (IA (b+1) U (ar (n:=(ln.aj.n+1)) 9 U sq) oU dc om om) ?_
    refine eg U<|g7 U fun T18 R1=>mZ (kV:=eJ) U U fun B=>?_
    try dsimp only
    refine aC (R1 _ _ (aK [1,2,3,4,5,6,7,8,9]) (aK [1,2,3,4,5,6,7,8,9,10]) ?_)
    refine cf U fun T20 R2=>?_
    have S1:((dJ fb (ln.aj.n+1)).set (b+1) (some B))=(dJ (fb++[B]) (ln.aj.n+1)):=by exact sw om om
    refine eo (k:=(b+1)) (o:=0) (vs:=[(Value.map (some B))]) (es':=(List.map oC (dJ (fb++[B]) (ln.aj.n+1)))) (C':=[_,_,_,_,_,_,_,_,_,_,(own fA (ln.aj.n+1) 279 1 (List.map oC (dJ (fb++[B]) (ln.aj.n+1))))]) 10 U U U Ig U U U U hx17m U dc (by exact (List.map_set (f:=oC) (l:=(dJ fb (ln.aj.n+1))) (i:=(b+1)) (a:=(some B))).symm.trans (congrArg _ S1)) U<|aC (R2 _ _ (aK [1,2,3,4,5,6,7,8,9]) ?_)
    refine e8 U<|KK Li<|ag fun _ Lk=>?_
    have VZ:(dJ (fb++[B]) (ln.aj.n+1)).length=(ln.aj.n+1):=nH (by simp; omega)
    obtain ⟨mb,N⟩:=aA fs b om
    obtain ⟨ga,Z⟩:=aA fb b om
    refine zV 9 N Z U U U ?_
    try dsimp only
    refine cS cj 7 kr<|kf 1 [] (mc 6 U I) U<|dS (SX (cv U U) U U)<|dP 3 [0,1] (mr 5 U (mc 3 U I)) ?_
    have T4:(List.map oC (dJ (fb++[B]) (ln.aj.n+1)))[b]? =some (oC (some ga)):=qO (m_ (Ii Z))
    refine dS (IA b U (ar (n:=(ln.aj.n+1)) 11 U sq) oU dc om om) ?_
    refine dS (gv b 0 (Value.map (some ga)) U bV (ar (n:=(dJ (fb++[B]) (ln.aj.n+1)).length) 11 U sm) T4 U dc U)<|cu<|zW 0 U U pP U U fun Ba=>?_
    try dsimp only
    refine RK Lk<|ax ?_
    have C:(∀ p∈mb,p∈mb)∧(xU (cV ln ri e tms) b ([]:FM))∧(kj (cV ln ri e tms) b mb ([]:FM) mb):=by exact ⟨fun p hp=>hp,xU.start,kj.start⟩
    refine wX (ι:={z:FM×FM×(List Nat) // (∀ p∈z.1,p∈mb)∧(xU (cV ln ri e tms) b z.2.1)∧(kj (cV ln ri e tms) b mb z.2.1 z.1)}) (fun z=>z.1.2.2.map jY) (fun z=>[(0,(vP gw)),(1,(vP W)),(2,(vI (ln.aj.n:Int))),(3,(vP s)),(52,(vI (ln.aj.n:Int))),(53,(vI (b:Int))),(71,(vP Ba))]) (fun z=>[(AY eJ Ba ga (cT iV mb) (cT iV z.1.1) none),(bQ (gU ny fs fb b)),(kx eJ B (cT iV z.1.2.1)),(cy s 3 [(vI (b:Int))]),(bQ (z.1.2.2.map mI)),(cy gw 276 (ck.cells (ck.mk ln ri (bj.mk e_A e.length e_C) (bj.mk t_A tms.length t_C) (bj.mk fA (ln.aj.n+1) (ln.aj.n+1)) (bj.mk bA (ln.aj.n+1) (ln.aj.n+1))))).ro,(cy W 228 [(vP gw)]),(rd e_A e.length 1 (e.map iC)).ro,(rd t_A tms.length 1 (List.zipWith gK tms tb)).ro,(iH (bK p6 tms tb)).ro,(own bA (ln.aj.n+1) 279 1 (List.map oC (List.replicate (ln.aj.n+1) (none:Option Nat)))),(own fA (ln.aj.n+1) 279 1 (List.map oC (dJ (fb++[B]) (ln.aj.n+1))))]) (fun z=>z.1.1.length) ⟨(mb,([]:FM),VO),C⟩ U (bf U) (aK [0,1,2,3,4,5,6,7,8,9,10,11]) ?_
    clear C
    rintro ⟨⟨left,m,A4⟩,⟨c,d,g⟩⟩ J26 LE
    try dsimp only at c d g
    try dsimp only
    refine WS fun _ CB=>yz pA.inj (f:=iV) 0 U U U U (fun VT=>?_) (fun t v hm J2=>?_)
    ·refine bp 1 U<|RK CB<|ag fun _ WE=>bT U<|bM<|ab<|ab<|aF<|aJ<|KK LV<|ao<|rP 2 [] I ?_
     refine aC<|Ir (C':=[(kx eJ ga (cT iV mb)),(bQ (gU ny fs fb b)),(kx eJ B (cT iV m)),(cy s 3 [(vI (b:Int))]),(bQ (A4.map mI)),(cy gw 276 (ck.cells (ck.mk ln ri (bj.mk e_A e.length e_C) (bj.mk t_A tms.length t_C) (bj.mk fA (ln.aj.n+1) (ln.aj.n+1)) (bj.mk bA (ln.aj.n+1) (ln.aj.n+1))))).ro,(cy W 228 [(vP gw)]),(rd e_A e.length 1 (e.map iC)).ro,(rd t_A tms.length 1 (List.zipWith gK tms tb)).ro,(iH (bK p6 tms tb)).ro,(own bA (ln.aj.n+1) 279 1 (List.map oC (List.replicate (ln.aj.n+1) (none:Option Nat)))),(own fA (ln.aj.n+1) 279 1 (List.map oC (dJ (fb++[B]) (ln.aj.n+1))))]) 0 U Kt U<|K7 1 0 N Z U U U ?_
     try dsimp only
     refine yS (X':=bK ny (fs++[m]) (fb++[B])) 0 1 U U (zh om U) ?_
     try dsimp only
     have S2:(vI (((b+1):Nat):Int))=(vI ((b:Int)+1)):=by exact cI om
     refine a_ (VU ⟨((b+1),(fs++[m]),(fb++[B]),A4),⟨om,by simp; omega,by simp; omega,M.add A3 N d g VT⟩⟩ _ _ _ U os (cz 4<|aU U S2<|cR.nil _) (aK [2,3,4,5,6,7,8,0,9]))
    try dsimp only
    refine bp 1 U<|RK CB<|ag fun _ L2=>aL U<|WK L2<|ax<|WS fun _ L3=>rS (SX (yu 0 U U U) U U)<|bp 2 U<|AL U uM fun J5=>AL U kR fun J6=>pV U tf U<|MI U En U U<|RK L3<|WS fun _ Mg=>rP 2 [0,1] (mc 8 U (mc 5 U I)) ?_
    refine cX (vJ gw b) (aS) U fun V_ WH=>?_
    obtain ⟨Cp,C0⟩:=V_
    try dsimp only
    refine RK Mg<|ax<|jv 11 U (by exact fun _ h=>h)<|jv 13 U (by exact fun _ h=>h)<|jv 15 U (by exact fun _ h=>h)<|jv 12 U (by exact fun _ h=>h) ?_
    refine tY (L0:=[(0,(vP gw)),(1,(vP W)),(2,(vI (ln.aj.n:Int))),(3,(vP s)),(4,(vP J5)),(5,(vP J6)),(52,(vI (ln.aj.n:Int))),(53,(vI (b:Int))),(71,(vP Ba))]) (F:=[(rd e_A e.length 1 (e.map iC)).ro,(rd t_A tms.length 1 (List.zipWith gK tms tb)).ro,(iH (bK p6 tms tb)).ro,(cy gw 276 (ck.cells (ck.mk ln ri (bj.mk e_A e.length e_C) (bj.mk t_A tms.length t_C) (bj.mk fA (ln.aj.n+1) (ln.aj.n+1)) (bj.mk bA (ln.aj.n+1) (ln.aj.n+1))))).ro,(cy Cp 228 [(vP gw)]),(cy C0 3 [(vI (b:Int))])]) (fun k (y:FM)=>(oi (cV ln ri e tms) b mb left y (t,v) k)) (fun k y=>[(cy J6 3 [(vI v)]),(cy J5 281 (aQ.cells t)),(AY eJ Ba ga (cT iV mb) (cT iV (fz left t)) (some (t,(vI v)))),(bQ (gU ny fs fb b)),(kx eJ B (cT iV y)),(cy s 3 [(vI (b:Int))]),(bQ (A4.map mI)),(cy gw 276 (ck.cells (ck.mk ln ri (bj.mk e_A e.length e_C) (bj.mk t_A tms.length t_C) (bj.mk fA (ln.aj.n+1) (ln.aj.n+1)) (bj.mk bA (ln.aj.n+1) (ln.aj.n+1))))).ro,(cy W 228 [(vP gw)]),(rd e_A e.length 1 (e.map iC)).ro,(rd t_A tms.length 1 (List.zipWith gK tms tb)).ro,(iH (bK p6 tms tb)).ro,(own bA (ln.aj.n+1) 279 1 (List.map oC (List.replicate (ln.aj.n+1) (none:Option Nat)))),(own fA (ln.aj.n+1) 279 1 (List.map oC (dJ (fb++[B]) (ln.aj.n+1))))]) (fun _ (_:Unit)=>False) (fun _ _=>[]) [6,7,8,9,10,11,12,13,14,15,16,17,18,19] [3,2,1,0,4,5] m rfl rfl (tn ln ri e tms e_A e_C tb t_A t_C fA (ln.aj.n+1) (ln.aj.n+1) bA (ln.aj.n+1) (ln.aj.n+1) gw b Cp C0 om om) rfl rfl rfl (by exact oi.start d g) (by simp only [List.forall_mem_cons,List.not_mem_nil,false_imp_iff,implies_true,and_true]; exact ⟨⟨_,aP (i:=0) rfl,(dM (b_ _))⟩,⟨_,aP (i:=1) rfl,(dM (b_ _))⟩,⟨_,aP (i:=2) rfl,(dM (b_ _))⟩,⟨_,aP (i:=3) rfl,(dM (b_ _))⟩,⟨_,aP (i:=4) rfl,(b_ _)⟩,⟨_,aP (i:=5) rfl,(b_ _)⟩⟩) (by rintro k x k2 ⟨o,_,rfl,_⟩; rfl) rfl (bf rfl) ?_ ?_ (fun _ _ _ h=>h.elim) (fun _ _ h=>h.elim)
    rotate_left 1
    ·rintro V5 k O A2 IR
     have D:=IR
     try dsimp only
     refine aJ<|aJ<|Kx (X:=A4.map mI) 13 0 U U ?_
     try dsimp only
     refine rT 9 U C5 U ?_
     refine a_ (LE ⟨((fz left t),O,(V5::A4)),⟨m7 c,D.on,D.next J2 hm A2⟩⟩ _ _ _ U (mY hm) (bf U) (aK [9,10,11,12,0,4,14,1,2,3,18,19]))
    rintro k x k2 O l ra rb S w1 K39 Qr40 V2 hx IO M2 H V8 WB
    obtain ⟨o,ho,rfl,rfl⟩:=hx
    have D:=IO
    try dsimp only
    refine WS fun _ NE=>rP 1 [] I ?_
    refine RK NE<|ao<|AL U eh fun WL=>e7 U cW U<|aC<|j6 (fun _ _ h=>h) (aK [1,0,2,3,4,5,6,7,8,9,10,11,12,13,14,15])<|a_ (M2 _ _ ?_)
    refine ax<|ag fun _ Ne=>dp cj [16,18] [] [] [0,1,2,3,4,5,6,7,8,9,10,11,12,13,14,15] [] U U U U U<|eS U (Ec 2 U bV U)<|eS U (Ec 10 U bV U)<|eS U (SX (cv U U) U U)<|eS U (FA 10 U eD U)<|eS U (IQ (vS e_A e.length e_C) 9 U bV U U)<|eS U (Ec 7 U bV U) ?_
    obtain ⟨y,hy⟩:=aA e b om
    have J3:=bH iC hy
    refine eS U (IA b U (av 11 U) dI dc om om)<|eS U (gv b 0 (vI y) U bV (av 11 U) J3 U dc U) ?_
    have VY:=hw.least y (aP hy)
    have hp:=M.mem N (c _ hm)
    have VX:=IV hw _ _ hp
    have V0:=vZ o.1
    have V1:=hw.opt ho
    have WR:=hw.now
    dsimp only at VX
    refine eS U (BI U (oN ⟨om,om⟩))<|eS U (FA 0 U eD U)<|eS U (L1 (vI o.2.Lo) 1 U bV U U)<|eS U (MX U)<|eS U (LW 3 U bV U U)<|eS U (MV U)<|eS U (CL (H6 o.1) (aS) U)<|eS U (CL (wR t (gF o.1) om om) (aS) U)<|eS U (AG U)<|eg U<|cf U fun T45 R3=>AL U uM fun WM=>aC (R3 _ _ (aK [1,2,3,4,5,6,7,8,9,10,11,12,13,14,15,16]) ?_)
    refine cf U fun T47 R4=>e7 U tf U<|aC (R4 _ _ (aK [1,2,3,4,5,6,7,8,9,10,11,12,13,14,15,16]) ?_)
    refine e8 U<|KK Ne<|ag fun _ Nm=>cS cj 15 kr<|kf 1 [] (mc 11 U I) U<|dS (SX (cv U U) U U)<|dP 4 [0,1] (mr 10 U (mc 8 U I)) ?_
    have T6:(List.map oC (dJ (fb++[B]) (ln.aj.n+1)))[(b+1)]? =some (oC (some B)):=qO (m_ (Ai om))
    refine dS (IA (b+1) U (ar (n:=(ln.aj.n+1)) 16 U sq) oU dc om om) ?_
    refine dS (gv (b+1) 0 (Value.map (some B)) U bV (ar (n:=(dJ (fb++[B]) (ln.aj.n+1)).length) 16 U sm) T6 U dc U)<|kf 1 [] (mc 0 U I) U<|dS (SX (tI (kV:=eJ) (x:=(dR t (gF o.1))) (l:=O) (f:=iV) (z:=0) U U U pP pA Vs (by exact av 7 U)) U U)<|kI 5 U<|cu<|RK Nm<|ag fun _ AU=>cS cj 19 kr<|kf 4 [0,1] (mc 2 U (mc 11 U I)) U<|dS (SX (cv U U) U U)<|kf 3 [] (mr 10 U I) U<|dS (MN U)<|dP 2 [] I ?_
    refine jm (t:=121) U (aO fun P=>?_) (aN fun P=>?_)
    ·refine dP 8 [] I ?_
     refine cu<|RK AU<|bT U<|cg<|aJ ?_
     exact H O _ _ (by exact D.skip (Lc hy P)) (aK [1,3,4,5,6,7,8,9,10,11,12,13,14,15,16])
    refine dP 3 [] I ?_
    refine ic (t:=124) U (fun R=>?_) (fun R=>?_)
    ·rw [Bool.not_eq_true'] at R
     refine kI 5 U<|cu<|RK AU<|aL U<|cS cj 10 kr<|kf 1 [] (mc 11 U I) U<|dS (SX (cv U U) U U)<|dP 4 [0,1] (mr 10 U (mc 8 U I)) ?_
     have UJ:(List.map oC (dJ (fb++[B]) (ln.aj.n+1)))[(b+1)]? =some (oC (some B)):=qO (m_ (Ai om))
     refine dS (IA (b+1) U (ar (n:=(ln.aj.n+1)) 16 U sq) oU dc om om) ?_
     refine dS (gv (b+1) 0 (Value.map (some B)) U bV (ar (n:=(dJ (fb++[B]) (ln.aj.n+1)).length) 16 U sm) UJ U dc U)<|dP 2 [] (mc 0 U I) ?_
     refine cu<|je (kV:=eJ) (x:=(dR t (gF o.1))) (C':=[_,_,_,_,_,_,_,(kx eJ B (cT iV (eC O (dR t (gF o.1)) (max (v+y) o.2.Lo)))),_,_,_,_,_,_,_,_,_]) 7 U U U U pP pA U (gX _ _ _ _).symm U<|aC<|aJ ?_
     exact H (eC O (dR t (gF o.1)) (max (v+y) o.2.Lo)) _ _ (by exact D.set hp ho (AI hy P) (.inl (by simpa using R))) (aK [1,3,4,5,6,7,8,9,10,11,12,13,14,15,16])
    rw [Bool.not_eq_false'] at R
    refine dP 5 [] I ?_
    refine cu<|RK AU<|bO U (aO fun u=>?_) (aN fun u=>?_)
    ·refine cg<|aJ ?_
     exact H O _ _ (by exact D.px (AI hy P) (by simpa using R) u) (aK [1,3,4,5,6,7,8,9,10,11,12,13,14,15,16])
    refine cS cj 10 kr<|kf 1 [] (mc 11 U I) U<|dS (SX (cv U U) U U)<|dP 4 [0,1] (mr 10 U (mc 8 U I)) ?_
    have UV:(List.map oC (dJ (fb++[B]) (ln.aj.n+1)))[(b+1)]? =some (oC (some B)):=qO (m_ (Ai om))
    refine dS (IA (b+1) U (ar (n:=(ln.aj.n+1)) 16 U sq) oU dc om om) ?_
    refine dS (gv (b+1) 0 (Value.map (some B)) U bV (ar (n:=(dJ (fb++[B]) (ln.aj.n+1)).length) 16 U sm) UV U dc U)<|dP 2 [] (mc 0 U I) ?_
    refine cu<|je (kV:=eJ) (x:=(dR t (gF o.1))) (C':=[_,_,_,_,_,_,_,(kx eJ B (cT iV (eC O (dR t (gF o.1)) (max (v+y) o.2.Lo)))),_,_,_,_,_,_,_,_,_]) 7 U U U U pP pA U (gX _ _ _ _).symm U<|aC<|aJ ?_
    exact H (eC O (dR t (gF o.1)) (max (v+y) o.2.Lo)) _ _ (by exact D.set hp ho (AI hy P) (.inr u)) (aK [1,3,4,5,6,7,8,9,10,11,12,13,14,15,16])
   refine bM<|ab<|ab<|aF<|KK FS<|WS fun _ Ag=>rP 1 [] I ?_
   refine AL U kR fun VQ=>MI U En U U<|RK Ag<|ax ?_
   rw [GD]
   refine lx ?_
   have C:(0≤ln.aj.n+1)∧(([]:List FM).length=0)∧(([]:List Nat).length=0)∧(iP (cV ln ri e tms) (ln.aj.n+1-0) ([]:List FM)):=by exact ⟨Nat.zero_le _,rfl,rfl,iP.none_⟩
   refine wX (ι:={z:Nat×(List FM)×(List Nat)×Nat×(List Nat) // (z.1≤ln.aj.n+1)∧(z.2.1.length=z.1)∧(z.2.2.1.length=z.1)∧(iP (cV ln ri e tms) (ln.aj.n+1-z.1) z.2.1)}) (fun z=>z.1.2.2.2.2.map jY) (fun z=>[(0,(vP gw)),(1,(vP W)),(2,(vI (ln.aj.n:Int))),(12,(Value.pointer (some ⟨z.1.2.2.2.1,0,none⟩)))]) (fun z=>[(bQ (bK ny z.1.2.1 z.1.2.2.1)),(cy z.1.2.2.2.1 3 [(vI ((ln.aj.n:Int)-(z.1.1:Int)))]),(bQ (z.1.2.2.2.2.map mI)),(cy gw 276 (ck.cells (ck.mk ln ri (bj.mk e_A e.length e_C) (bj.mk t_A tms.length t_C) (bj.mk fA (ln.aj.n+1) (ln.aj.n+1)) (bj.mk bA (ln.aj.n+1) (ln.aj.n+1))))).ro,(cy W 228 [(vP gw)]),(rd e_A e.length 1 (e.map iC)).ro,(rd t_A tms.length 1 (List.zipWith gK tms tb)).ro,(iH (bK p6 tms tb)).ro,(own bA (ln.aj.n+1) 279 1 (List.map oC (iI z.1.2.2.1 (ln.aj.n+1)))),(bQ (bK ny fs fb)),(own fA (ln.aj.n+1) 279 1 (List.map oC (dJ fb (ln.aj.n+1))))]) (fun z=>ln.aj.n+1-z.1.1) ⟨(0,([]:List FM),([]:List Nat),VQ,VO),C⟩ U (bf U) (aK [0,1,2,3,4,5,6,7,8,9,10]) ?_
   clear C
   rintro ⟨⟨j,bs,bb,gq,q⟩,⟨A7,A8,A9,E⟩⟩ J57 B9
   try dsimp only at A7 A8 A9 E
   try dsimp only
   refine ag fun _ Ax=>WS fun _ A0=>rP 2 [] (mc 1 U I) ?_
   refine RK A0<|bO U (aO fun K6=>?_) (aN fun K6=>?_)
   ·refine bM<|ab<|ab<|aF ?_
    rw [show (List.map oC (dJ fb (ln.aj.n+1)))=(List.zipWith gK fs fb) from by rw [zS om]; exact (AQ om).symm]
    rw [show (List.map oC (iI bb (ln.aj.n+1)))=(List.zipWith gK bs bb) from by rw [Gr om]; exact (AQ om).symm]
    refine AM (C1:=[(own fA (ln.aj.n+1) 279 1 (List.zipWith gK fs fb)),(bQ (bK ny fs fb)),(own bA (ln.aj.n+1) 279 1 (List.zipWith gK bs bb)),(bQ (bK ny bs bb)),(bQ (q.map mI))]) hz [10,9,8,0,2] U U (by simp only [fV,List.all_nil,Gf,Nl,Bool.and_true]; rfl) ?_
    rw [show (cy gw 276 (ck.cells (ck.mk ln ri (bj.mk e_A e.length e_C) (bj.mk t_A tms.length t_C) (bj.mk fA (ln.aj.n+1) (ln.aj.n+1)) (bj.mk bA (ln.aj.n+1) (ln.aj.n+1)))))=(cy gw 276 (ck.cells (ck.mk ln ri (bj.mk e_A e.length e_C) (bj.mk t_A tms.length t_C) (bj.mk fA fs.length (ln.aj.n+1)) (bj.mk bA bs.length (ln.aj.n+1))))) from by rw [show fs.length=(ln.aj.n+1) from by omega,show bs.length=(ln.aj.n+1) from by omega]]
    refine QD [(cy gw 276 (ck.cells (ck.mk ln ri (bj.mk e_A e.length e_C) (bj.mk t_A tms.length t_C) (bj.mk fA fs.length (ln.aj.n+1)) (bj.mk bA bs.length (ln.aj.n+1))))),(own fA (ln.aj.n+1) 279 1 (List.zipWith gK fs fb)),(bQ (bK ny fs fb)),(own bA (ln.aj.n+1) 279 1 (List.zipWith gK bs bb)),(bQ (bK ny bs bb))] [(bQ (q.map mI))] ?_
    refine hN _ _ _ (Iy 1 U U<|j4 (vs:=[]) trivial fun w hs=>Tu (fs,fb,fA,(ln.aj.n+1),bs,bb,bA,(ln.aj.n+1)) 0 ?_ ?_ U (by show List.all _ _=true; simp only [fV,List.all_nil,Gf,Bool.and_true]; rfl) hs)
    ·clear hs w hQ hN A0 Ax Ag AO Fk Fd FS EQ C3; rfl
    ·clear hs w hQ hN A0 Ax Ag AO Fk Fd FS EQ C3; exact ⟨M.ok (by show fs.length=e.length+1; omega),iP.ok (by have:=E; rwa [show ln.aj.n+1-j=0 by omega] at this) (by show bs.length=e.length+1; omega),dso,dso⟩
   refine WK Ax<|ag fun _ Ci=>ax<|ag fun _ Op=>?_
   obtain ⟨b,WO⟩: ∃ b:Nat,b+j=ln.aj.n:=⟨ln.aj.n-j,om⟩
   rw [show (ln.aj.n:Int)-(j:Int)=(b:Int) from by omega]
   have WG:(iI bb (ln.aj.n+1)).length=(ln.aj.n+1):=zB om
   refine dp cj [5,12,13,15] [11] [0,1,2] [0,1,2,3,4,5,6,7,9,10] [0,1,2,3,4,5,6,7,8,9,10] U U U U U<|eS U (Ec 4 U bV U)<|eS U (SX (cv U U) U U)<|eS U (FA 13 U eD U)<|eS U (IQ (vS bA (ln.aj.n+1) (ln.aj.n+1)) 3 U bV U U)<|eS U (Ec 1 U bV U)<|eS U (SX (bE (xs:=[]) (cs:=(aQ.cells (aQ.mk 0 0))) U U (bD BV U)) U U)<|eS U (Ec 4 U bV U)<|eS U (SX (cv U U) U U)<|eS U (FA 7 U eD U)<|eS U (FA 8 U eD U)<|eS U (IQ (vI ri.gL) 3 U bV U U) ?_
   obtain ⟨V7,U2⟩:=aA (iI bb (ln.aj.n+1)) b om
   have hx63m:(List.map oC (iI bb (ln.aj.n+1)))[b]? =some (oC V7):=by rw [f_,U2]; rfl
   refine fS U (IA b U (ar (n:=(ln.aj.n+1)) 8 U sq) oU dc om om) ?_
   refine eg U<|g7 U fun T64 R5=>mZ (kV:=eJ) U U fun A=>?_
   try dsimp only
   refine aC (R5 _ _ (aK [1,2,3,4,5,6,7,8,10,11]) (aK [1,2,3,4,5,6,7,8,9,10,11]) ?_)
   refine g7 U fun T66 R6=>?_
   have To:(eC ([]:List (aQ×Int)) (aQ.mk 0 0) ri.gL)=[((aQ.mk 0 0),ri.gL)]:=by rfl
   refine zQ (kV:=eJ) (x:=(aQ.mk 0 0)) (C':=[(kx eJ A (cT iV ([((aQ.mk 0 0),ri.gL)]))),_,_,_,_,_,_,_,_,_,_,_]) 0 U U U U pP pA U ((gX _ _ _ _).symm.trans (congrArg _ To)) U<|aC (R6 _ _ (aK [1,2,3,4,5,6,7,8,10,11]) (aK [1,2,3,4,5,6,7,8,9,10,11]) ?_)
   refine g7 U fun T68 R7=>rS (MV U)<|aC (R7 _ _ (aK [1,2,3,4,5,6,7,8,10,11]) (aK [1,2,3,4,5,6,7,8,9,10,11]) ?_)
   refine cf U fun T69 R8=>?_
   have T0:((iI bb (ln.aj.n+1)).set b (some A))=(iI (A::bb) (ln.aj.n+1)):=by exact Hc om
   refine eo (k:=b) (o:=0) (vs:=[(Value.map (some A))]) (es':=(List.map oC (iI (A::bb) (ln.aj.n+1)))) (C':=[_,_,_,_,_,_,_,_,_,(own bA (ln.aj.n+1) 279 1 (List.map oC (iI (A::bb) (ln.aj.n+1)))),_,_]) 9 U U U Ig U U U U hx63m U dc (by exact (List.map_set (f:=oC) (l:=(iI bb (ln.aj.n+1))) (i:=b) (a:=(some A))).symm.trans (congrArg _ T0)) U<|aC (R8 _ _ (aK [1,2,3,4,5,6,7,8,10,11]) ?_)
   refine e8 U<|KK Op<|ag fun _ Or=>WS fun _ Os=>rP 3 [] (mc 2 U I) ?_
   refine RK Os<|cb U (aN fun K8=>?_) (aO fun K8=>?_)
   ·refine bM<|ab<|aF<|KK Ci<|ag fun _ O4=>WS fun _ O5=>dY 1 [] (mc 2 U I) U<|RK O5<|ao<|AL U kR fun VR=>MI U En U U<|RK O4<|ao<|rP 2 [] (mc 0 U I) ?_
    refine MI U En U U<|aC ?_
    rw [show (b:Int)-1=(ln.aj.n:Int)-(((j+1):Nat):Int) from by omega]
    refine zq (ms:=bs) (m:=[((aQ.mk 0 0),ri.gL)]) (a:=A) 2 1 U U U ?_
    try dsimp only
    refine a_ (B9 ⟨((j+1),([((aQ.mk 0 0),ri.gL)]::bs),(A::bb),VR,q),⟨om,by simp; omega,by simp; omega,by exact iP.end_ (b:=b) E om om (by show e.length≤b; omega)⟩⟩ _ _ _ U os (bf U) (aK [0,1,3,4,5,6,7,8,9,10,11]))
   refine WK Or<|ag fun _ PE=>?_
   have Vx:(iI (A::bb) (ln.aj.n+1)).length=(ln.aj.n+1):=zB (by simp; omega)
   obtain ⟨mb,N⟩:=aA bs 0 om
   obtain ⟨ga,Z⟩:=aA bb 0 om
   refine zV 1 N Z U U U ?_
   try dsimp only
   refine cS cj 8 kr<|kf 1 [] (mc 6 U I) U<|dS (SX (cv U U) U U)<|dP 4 [0,1] (mr 5 U (mc 3 U I)) ?_
   have Uh:(List.map oC (iI (A::bb) (ln.aj.n+1)))[(b+1)]? =some (oC (some ga)):=qO (uj (i:=1) (by simpa using Z) (by simp; omega))
   refine dS (IA (b+1) U (ar (n:=(ln.aj.n+1)) 10 U sq) oU dc om om) ?_
   refine dS (gv (b+1) 0 (Value.map (some ga)) U bV (ar (n:=(iI (A::bb) (ln.aj.n+1)).length) 10 U sm) Uh U dc U)<|cu<|zW 0 U U pP U U fun B3=>?_
   try dsimp only
   refine RK PE<|ax ?_
   have C:(∀ p∈mb,p∈mb)∧(wN (cV ln ri e tms) b ([((aQ.mk 0 0),ri.gL)]))∧(jW (cV ln ri e tms) b mb ([((aQ.mk 0 0),ri.gL)]) mb):=by exact ⟨fun p hp=>hp,wN.start (by show b<e.length; omega),jW.start⟩
   refine wX (ι:={z:FM×FM×(List Nat) // (∀ p∈z.1,p∈mb)∧(wN (cV ln ri e tms) b z.2.1)∧(jW (cV ln ri e tms) b mb z.2.1 z.1)}) (fun z=>z.1.2.2.map jY) (fun z=>[(0,(vP gw)),(1,(vP W)),(2,(vI (ln.aj.n:Int))),(12,(vP gq)),(171,(vP B3))]) (fun z=>[(AY eJ B3 ga (cT iV mb) (cT iV z.1.1) none),(bQ (gU ny bs bb 0)),(kx eJ A (cT iV z.1.2.1)),(cy gq 3 [(vI (b:Int))]),(bQ (z.1.2.2.map mI)),(cy gw 276 (ck.cells (ck.mk ln ri (bj.mk e_A e.length e_C) (bj.mk t_A tms.length t_C) (bj.mk fA (ln.aj.n+1) (ln.aj.n+1)) (bj.mk bA (ln.aj.n+1) (ln.aj.n+1))))).ro,(cy W 228 [(vP gw)]),(rd e_A e.length 1 (e.map iC)).ro,(rd t_A tms.length 1 (List.zipWith gK tms tb)).ro,(iH (bK p6 tms tb)).ro,(own bA (ln.aj.n+1) 279 1 (List.map oC (iI (A::bb) (ln.aj.n+1)))),(bQ (bK ny fs fb)),(own fA (ln.aj.n+1) 279 1 (List.map oC (dJ fb (ln.aj.n+1))))]) (fun z=>z.1.1.length) ⟨(mb,[((aQ.mk 0 0),ri.gL)],q),C⟩ U (bf U) (aK [0,1,2,3,4,5,6,7,8,9,10,11,12]) ?_
   clear C
   rintro ⟨⟨left,m,V⟩,⟨J,K,L⟩⟩ J80 LT
   try dsimp only at J K L
   try dsimp only
   refine WS fun _ Ck=>yz pA.inj (f:=iV) 0 U U U U (fun LA=>?_) (fun t v hm J2=>?_)
   ·refine bp 1 U<|RK Ck<|ag fun _ WF=>bT U<|bM<|ab<|ab<|aF<|aJ<|KK Ci<|ag fun _ PP=>WS fun _ PV=>dY 1 [] (mc 3 U I) U<|RK PV<|ao<|AL U kR fun J7=>MI U En U U<|RK PP<|ao<|rP 2 [] (mc 0 U I) ?_
    refine MI U En U U<|aC<|Ir (C':=[(cy J7 3 [(vI ((b:Int)-1))]),(kx eJ ga (cT iV mb)),(bQ (gU ny bs bb 0)),(kx eJ A (cT iV m)),(cy gq 3 [(vI (b:Int))]),(bQ (V.map mI)),(cy gw 276 (ck.cells (ck.mk ln ri (bj.mk e_A e.length e_C) (bj.mk t_A tms.length t_C) (bj.mk fA (ln.aj.n+1) (ln.aj.n+1)) (bj.mk bA (ln.aj.n+1) (ln.aj.n+1))))).ro,(cy W 228 [(vP gw)]),(rd e_A e.length 1 (e.map iC)).ro,(rd t_A tms.length 1 (List.zipWith gK tms tb)).ro,(iH (bK p6 tms tb)).ro,(own bA (ln.aj.n+1) 279 1 (List.map oC (iI (A::bb) (ln.aj.n+1)))),(bQ (bK ny fs fb)),(own fA (ln.aj.n+1) 279 1 (List.map oC (dJ fb (ln.aj.n+1))))]) 1 U Kt U<|K7 2 1 N Z U U U ?_
    try dsimp only
    rw [show (b:Int)-1=(ln.aj.n:Int)-(((j+1):Nat):Int) from by omega]
    refine zq (ms:=bs) (m:=m) (a:=A) 0 2 U U U ?_
    try dsimp only
    refine a_ (B9 ⟨((j+1),(m::bs),(A::bb),J7,V),⟨om,by simp; omega,by simp; omega,by exact iP.more (b:=b) E om om (by show b<e.length; omega) N K L LA⟩⟩ _ _ _ U os (bf U) (aK [0,1,3,4,5,6,7,8,9,10,11]))
   try dsimp only
   refine bp 1 U<|RK Ck<|ag fun _ PZ=>aL U<|WK PZ<|ax<|WS fun _ Pi=>rS (SX (yu 0 U U U) U U)<|bp 2 U<|AL U uM fun J9=>AL U kR fun K0=>pV U tf U<|MI U En U U<|RK Pi<|WS fun _ Pl=>rP 2 [0,1] (mc 8 U (mc 5 U I)) ?_
   refine cX (vJ gw b) (aS) U fun WA WI=>?_
   obtain ⟨Cx,C2⟩:=WA
   try dsimp only
   refine RK Pl<|ax<|jv 11 U (by exact fun _ h=>h)<|jv 13 U (by exact fun _ h=>h)<|jv 15 U (by exact fun _ h=>h)<|jv 12 U (by exact fun _ h=>h) ?_
   refine tY (L0:=[(0,(vP gw)),(1,(vP W)),(2,(vI (ln.aj.n:Int))),(12,(vP gq)),(13,(vP J9)),(14,(vP K0)),(171,(vP B3))]) (F:=[(rd e_A e.length 1 (e.map iC)).ro,(rd t_A tms.length 1 (List.zipWith gK tms tb)).ro,(iH (bK p6 tms tb)).ro,(cy gw 276 (ck.cells (ck.mk ln ri (bj.mk e_A e.length e_C) (bj.mk t_A tms.length t_C) (bj.mk fA (ln.aj.n+1) (ln.aj.n+1)) (bj.mk bA (ln.aj.n+1) (ln.aj.n+1))))).ro,(cy Cx 228 [(vP gw)]),(cy C2 3 [(vI (b:Int))])]) (fun k (y:FM)=>(nV (cV ln ri e tms) b mb left y (t,v) k)) (fun k y=>[(cy K0 3 [(vI v)]),(cy J9 281 (aQ.cells t)),(AY eJ B3 ga (cT iV mb) (cT iV (fz left t)) (some (t,(vI v)))),(bQ (gU ny bs bb 0)),(kx eJ A (cT iV y)),(cy gq 3 [(vI (b:Int))]),(bQ (V.map mI)),(cy gw 276 (ck.cells (ck.mk ln ri (bj.mk e_A e.length e_C) (bj.mk t_A tms.length t_C) (bj.mk fA (ln.aj.n+1) (ln.aj.n+1)) (bj.mk bA (ln.aj.n+1) (ln.aj.n+1))))).ro,(cy W 228 [(vP gw)]),(rd e_A e.length 1 (e.map iC)).ro,(rd t_A tms.length 1 (List.zipWith gK tms tb)).ro,(iH (bK p6 tms tb)).ro,(own bA (ln.aj.n+1) 279 1 (List.map oC (iI (A::bb) (ln.aj.n+1)))),(bQ (bK ny fs fb)),(own fA (ln.aj.n+1) 279 1 (List.map oC (dJ fb (ln.aj.n+1))))]) (fun _ (_:Unit)=>False) (fun _ _=>[]) [6,7,8,9,10,11,12,13,14,15,16,17,18,19,20] [3,2,1,0,4,5] m rfl rfl (tn ln ri e tms e_A e_C tb t_A t_C fA (ln.aj.n+1) (ln.aj.n+1) bA (ln.aj.n+1) (ln.aj.n+1) gw b Cx C2 om om) rfl rfl rfl (by exact nV.start K L) (by simp only [List.forall_mem_cons,List.not_mem_nil,false_imp_iff,implies_true,and_true]; exact ⟨⟨_,aP (i:=0) rfl,(dM (b_ _))⟩,⟨_,aP (i:=1) rfl,(dM (b_ _))⟩,⟨_,aP (i:=2) rfl,(dM (b_ _))⟩,⟨_,aP (i:=3) rfl,(dM (b_ _))⟩,⟨_,aP (i:=4) rfl,(b_ _)⟩,⟨_,aP (i:=5) rfl,(b_ _)⟩⟩) (by rintro k x k2 ⟨o,_,rfl,_⟩; rfl) rfl (bf rfl) ?_ ?_ (fun _ _ _ h=>h.elim) (fun _ _ h=>h.elim)
   rotate_left 1
   ·rintro U8 k O A2 A6
    have D:=A6
    try dsimp only
    refine aJ<|aJ<|Kx (X:=V.map mI) 13 0 U U ?_
    try dsimp only
    refine rT 9 U C5 U ?_
    refine a_ (LT ⟨((fz left t),O,(U8::V)),⟨m7 J,D.on,D.next J2 hm A2⟩⟩ _ _ _ U (mY hm) (bf U) (aK [9,10,11,12,0,4,14,1,2,3,18,19,20]))
   rintro k x k2 O l ra rb S w1 K95 Qr96 V2 hx Id P3 AB V9 WC
   obtain ⟨o,ho,rfl,rfl⟩:=hx
   have D:=Id
   try dsimp only
   refine WS fun _ QI=>rP 1 [] I ?_
   refine RK QI<|ao<|AL U eh fun WN=>e7 U cW U<|aC<|j6 (fun _ _ h=>h) (aK [1,0,2,3,4,5,6,7,8,9,10,11,12,13,14,15,16])<|a_ (P3 _ _ ?_)
   refine ax<|ag fun _ Di=>dp cj [16,18] [] [] [0,1,2,3,4,5,6,7,8,9,10,11,12,13,14,15,16] [] U U U U U<|eS U (Ec 2 U bV U)<|eS U (FA 1 U eD U)<|eS U (L1 (vI o.2.Hi) 1 U bV U U) ?_
   have hp:=E.U1 (b:=b) om N (J _ hm)
   have VW:=Lu hw hp
   have V0:=vZ o.1
   have V1:=hw.opt ho
   dsimp only at VW
   refine eS U (MN U)<|eS U (Ec 10 U bV U)<|eS U (SX (cv U U) U U)<|eS U (FA 10 U eD U)<|eS U (IQ (vS e_A e.length e_C) 9 U bV U U)<|eS U (Ec 7 U bV U) ?_
   obtain ⟨y,hy⟩:=aA e b om
   have J3:=bH iC hy
   refine eS U (IA b U (av 11 U) dI dc om om)<|eS U (gv b 0 (vI y) U bV (av 11 U) J3 U dc U) ?_
   have VY:=hw.least y (aP hy)
   refine eS U (BI U (yE ⟨om,om⟩))<|eS U (LW 3 U bV U U)<|eS U (MV U)<|eS U (CL (H6 o.1) (aS) U)<|eS U (CL (wR t (gF o.1) om om) (aS) U)<|eS U (AG U)<|eg U<|cf U fun T101 Fn=>AL U uM fun WD=>aC (Fn _ _ (aK [1,2,3,4,5,6,7,8,9,10,11,12,13,14,15,16,17]) ?_)
   refine cf U fun T103 GE=>e7 U tf U<|aC (GE _ _ (aK [1,2,3,4,5,6,7,8,9,10,11,12,13,14,15,16,17]) ?_)
   refine e8 U<|KK Di<|ag fun _ Do=>cS cj 14 kr<|kf 1 [] (mc 11 U I) U<|dS (SX (cv U U) U U)<|dP 3 [0,1] (mr 10 U (mc 8 U I)) ?_
   have If:(List.map oC (iI (A::bb) (ln.aj.n+1)))[b]? =some (oC (some A)):=qO (uj (i:=0) rfl (by simp; omega))
   refine dS (IA b U (ar (n:=(ln.aj.n+1)) 15 U sq) oU dc om om) ?_
   refine dS (gv b 0 (Value.map (some A)) U bV (ar (n:=(iI (A::bb) (ln.aj.n+1)).length) 15 U sm) If U dc U)<|kf 1 [] (mc 0 U I) U<|dS (SX (tI (kV:=eJ) (x:=(dR t (gF o.1))) (l:=O) (f:=iV) (z:=0) U U U pP pA Vs (by exact av 7 U)) U U)<|kI 5 U<|cu<|RK Do<|WS fun _ Y=>dY 3 [0,1] (mc 3 U (mc 2 U I)) U<|rS (MN U)<|rP 4 [] (mc 2 U I) ?_
   refine cx (t:=217) U (aO fun T=>?_) (aN fun T=>?_)
   ·refine rP 8 [] I ?_
    refine RK Y<|bT U<|cg<|aJ ?_
    exact AB O _ _ (by exact D.skip (Nu T)) (aK [1,3,4,5,6,7,8,9,10,11,12,13,14,15,16,17])
   refine rP 3 [] I ?_
   refine bS (t:=220) U (fun AA=>?_) (fun AA=>?_)
   ·rw [Bool.not_eq_true'] at AA
    refine bp 5 U<|RK Y<|aL U<|cS cj 9 kr<|kf 1 [] (mc 11 U I) U<|dS (SX (cv U U) U U)<|dP 3 [0,1] (mr 10 U (mc 8 U I)) ?_
    have In:(List.map oC (iI (A::bb) (ln.aj.n+1)))[b]? =some (oC (some A)):=qO (uj (i:=0) rfl (by simp; omega))
    refine dS (IA b U (ar (n:=(ln.aj.n+1)) 15 U sq) oU dc om om) ?_
    refine dS (gv b 0 (Value.map (some A)) U bV (ar (n:=(iI (A::bb) (ln.aj.n+1)).length) 15 U sm) In U dc U)<|dP 2 [] (mc 0 U I) ?_
    refine cu<|je (kV:=eJ) (x:=(dR t (gF o.1))) (C':=[_,_,_,_,_,_,_,(kx eJ A (cT iV (eC O (dR t (gF o.1)) ((min v o.2.Hi)-y)))),_,_,_,_,_,_,_,_,_,_]) 7 U U U U pP pA U (gX _ _ _ _).symm U<|aC<|aJ ?_
    exact AB (eC O (dR t (gF o.1)) ((min v o.2.Hi)-y)) _ _ (by exact D.set (by show b<e.length; omega) hp ho (Bc hy T) (.inl (by simpa using AA))) (aK [1,3,4,5,6,7,8,9,10,11,12,13,14,15,16,17])
   rw [Bool.not_eq_false'] at AA
   refine rP 5 [] I ?_
   refine RK Y<|bO U (aO fun AC=>?_) (aN fun AC=>?_)
   ·refine cg<|aJ ?_
    exact AB O _ _ (by exact D.px (Bc hy T) (by simpa using AA) AC) (aK [1,3,4,5,6,7,8,9,10,11,12,13,14,15,16,17])
   refine cS cj 9 kr<|kf 1 [] (mc 11 U I) U<|dS (SX (cv U U) U U)<|dP 3 [0,1] (mr 10 U (mc 8 U I)) ?_
   have JJ:(List.map oC (iI (A::bb) (ln.aj.n+1)))[b]? =some (oC (some A)):=qO (uj (i:=0) rfl (by simp; omega))
   refine dS (IA b U (ar (n:=(ln.aj.n+1)) 15 U sq) oU dc om om) ?_
   refine dS (gv b 0 (Value.map (some A)) U bV (ar (n:=(iI (A::bb) (ln.aj.n+1)).length) 15 U sm) JJ U dc U)<|dP 2 [] (mc 0 U I) ?_
   refine cu<|je (kV:=eJ) (x:=(dR t (gF o.1))) (C':=[_,_,_,_,_,_,_,(kx eJ A (cT iV (eC O (dR t (gF o.1)) ((min v o.2.Hi)-y)))),_,_,_,_,_,_,_,_,_,_]) 7 U U U U pP pA U (gX _ _ _ _).symm U<|aC<|aJ ?_
   exact AB (eC O (dR t (gF o.1)) ((min v o.2.Hi)-y)) _ _ (by exact D.set (by show b<e.length; omega) hp ho (Bc hy T) (.inr AC)) (aK [1,3,4,5,6,7,8,9,10,11,12,13,14,15,16,17])
  refine dp cj [4,11,12,14] [10] [0,1,2] [0,1,2,3,4,6] [0,1,2,3,4,5,6] U U U U U<|eS U (Ec 1 U bV U)<|eS U (SX (cv U U) U U)<|eS U (FA 12 U eD U)<|eS U (IQ (vS fA (ln.aj.n+1) (ln.aj.n+1)) 0 U bV U U)<|eS U (SX (bE (xs:=[]) (cs:=(aQ.cells (aQ.mk 0 0))) U U (bD BV U)) U U)<|eS U (Ec 1 U bV U)<|eS U (SX (cv U U) U U)<|eS U (FA 7 U eD U)<|eS U (FA 7 U eD U)<|eS U (IQ (vI ri.Start) 0 U bV U U) ?_
  obtain ⟨x6,V3⟩:=aA (List.replicate (ln.aj.n+1) (none:Option Nat)) 0 om
  have hx7m:(List.map oC (List.replicate (ln.aj.n+1) (none:Option Nat)))[0]? =some (oC x6):=by rw [f_,V3]; rfl
  refine fS U (IA 0 U (ar (n:=(ln.aj.n+1)) 5 U sq) oU dc U om) ?_
  refine eg U<|g7 U fun T8 Go=>mZ (kV:=eJ) U U fun r=>?_
  try dsimp only
  refine aC (Go _ _ (aK [1,2,3,4,5,7]) (aK [1,2,3,4,5,6,7]) ?_)
  refine g7 U fun T10 G=>?_
  have R9:(eC ([]:List (aQ×Int)) (aQ.mk 0 0) ri.Start)=[((aQ.mk 0 0),ri.Start)]:=by rfl
  refine zQ (kV:=eJ) (x:=(aQ.mk 0 0)) (C':=[(kx eJ r (cT iV ([((aQ.mk 0 0),ri.Start)]))),_,_,_,_,_,_,_]) 0 U U U U pP pA U ((gX _ _ _ _).symm.trans (congrArg _ R9)) U<|aC (G _ _ (aK [1,2,3,4,5,7]) (aK [1,2,3,4,5,6,7]) ?_)
  refine g7 U fun T12 Qr=>rS (MV U)<|aC (Qr _ _ (aK [1,2,3,4,5,7]) (aK [1,2,3,4,5,6,7]) ?_)
  refine cf U fun T13 R0=>?_
  have ST:((List.replicate (ln.aj.n+1) (none:Option Nat)).set 0 (some r))=(dJ [r] (ln.aj.n+1)):=by rw [vk]; exact sw rfl sm
  refine eo (k:=0) (o:=0) (vs:=[(Value.map (some r))]) (es':=(List.map oC (dJ [r] (ln.aj.n+1)))) (C':=[_,_,_,_,_,_,(own fA (ln.aj.n+1) 279 1 (List.map oC (dJ [r] (ln.aj.n+1)))),_]) 6 U U U Ig U U U U hx7m U dc (by exact (List.map_set (f:=oC) (l:=(List.replicate (ln.aj.n+1) (none:Option Nat))) (i:=0) (a:=(some r))).symm.trans (congrArg _ ST)) U<|aC (R0 _ _ (aK [1,2,3,4,5,7]) ?_)
  refine e8 U<|Eu<|yS (X:=[]) (X':=bK ny [[((aQ.mk 0 0),ri.Start)]] [r]) 0 1 U U U ?_
  try dsimp only
  refine a_ (j6 (bf U) (aK [1,2,3,4,5,7,0,6]) (VV ⟨r,trivial⟩))
 refine mO cj [0,1,2,3,5,6,8,9,11,12] [4,7,10,13] [false,false,false,false,false,false,false,false,false,false] [] [(cy W 228 [(vP gw)]),(rd e_A e.length 1 (e.map iC)).ro,(rd t_A tms.length 1 (List.zipWith gK tms tb)).ro,(iH (bK p6 tms tb)).ro] [] kr (aK [0,2,3,4]) (aK [])<|eS U (Ec 0 U bV U)<|eS U (Ec 0 U bV U)<|eS U (MV U)<|eS U (BI U (oN ⟨om,om⟩))<|eS U (MV U)<|eS U (BI U (oN ⟨om,om⟩))<|eS U (SX (cv U U) U U)<|eS U (FA 12 U eD U)<|eS U (SX (cv U U) U U)<|eS U (FA 13 U eD U)<|eg U<|mG [4,7] kr (iF ?_<|iF ?_<|pL)
 rotate_left 1
 ·refine NO U U [4,10,13] fun T5 GT=>?_
  refine sS (n:=(ln.aj.n+1)) (es:=(List.map oC (List.replicate (ln.aj.n+1) (none:Option Nat)))) U U U Bw om om (by simp only [maxLen]; omega) (by rw [List.map_replicate]; rfl) U fun b6=>?_
  try dsimp only
  refine aC (GT _ _ (aK [1,3,4,5]) ?_)
  refine N1 4<|NO U U [10,13] fun T7 A1=>?_
  refine sS (n:=(ln.aj.n+1)) (es:=(List.map oC (List.replicate (ln.aj.n+1) (none:Option Nat)))) U U U Bw om om (by simp only [maxLen]; omega) (by rw [List.map_replicate]; rfl) U fun b8=>?_
  try dsimp only
  refine aC (A1 _ _ (aK [2,4,5,6]) ?_)
  refine N1 10<|NO U U [13] fun T9 H1=>PY (ck.cells (ck.mk ln ri (bj.mk e_A e.length e_C) (bj.mk t_A tms.length t_C) (bj.mk (some ⟨b8,0,none⟩) (ln.aj.n+1) (ln.aj.n+1)) (bj.mk none 0 0))) U zT U U<|aC (H1 _ _ (aK [2,4,5,6]) ?_)
  refine N1 13<|NO U U [] fun T10 G=>PY (ck.cells (ck.mk ln ri (bj.mk e_A e.length e_C) (bj.mk t_A tms.length t_C) (bj.mk (some ⟨b8,0,none⟩) (ln.aj.n+1) (ln.aj.n+1)) (bj.mk (some ⟨b6,0,none⟩) (ln.aj.n+1) (ln.aj.n+1)))) U zT U U<|aC (G _ _ (aK [2,4,5,6]) ?_)
  refine lK ?_
  refine a_ (j6 (bf U) (aK [2,4,5,6,0,1,3]) (Eq ⟨((some ⟨b8,0,none⟩),(some ⟨b6,0,none⟩)),trivial⟩))
 refine NO U U [7,10,13] fun T5 GT=>?_
 refine sS (n:=(ln.aj.n+1)) (es:=(List.map oC (List.replicate (ln.aj.n+1) (none:Option Nat)))) U U U Bw om om (by simp only [maxLen]; omega) (by rw [List.map_replicate]; rfl) U fun b6=>?_
 try dsimp only
 refine aC (GT _ _ (aK [1,3,4,5]) ?_)
 refine mG [7,10] kr (iF ?_<|iF ?_<|pL)
 rotate_left 1
 ·refine NO U U [7,13] fun T7 A1=>UL (ck.cells (ck.mk ln ri (bj.mk e_A e.length e_C) (bj.mk t_A tms.length t_C) (bj.mk (some ⟨b6,0,none⟩) (ln.aj.n+1) (ln.aj.n+1)) (bj.mk none 0 0))) U zT U U<|aC (A1 _ _ (aK [1,3,4,5]) ?_)
  refine N1 7<|NO U U [13] fun T8 Go=>?_
  refine sS (n:=(ln.aj.n+1)) (es:=(List.map oC (List.replicate (ln.aj.n+1) (none:Option Nat)))) U U U Bw om om (by simp only [maxLen]; omega) (by rw [List.map_replicate]; rfl) U fun r=>?_
  try dsimp only
  refine aC (Go _ _ (aK [2,4,5,6]) ?_)
  refine N1 13<|NO U U [] fun T10 G=>PY (ck.cells (ck.mk ln ri (bj.mk e_A e.length e_C) (bj.mk t_A tms.length t_C) (bj.mk (some ⟨b6,0,none⟩) (ln.aj.n+1) (ln.aj.n+1)) (bj.mk (some ⟨r,0,none⟩) (ln.aj.n+1) (ln.aj.n+1)))) U zT U U<|aC (G _ _ (aK [2,4,5,6]) ?_)
  refine lK ?_
  refine a_ (j6 (bf U) (aK [2,4,5,6,1,0,3]) (Eq ⟨((some ⟨b6,0,none⟩),(some ⟨r,0,none⟩)),trivial⟩))
 refine NO U U [10,13] fun T7 A1=>?_
 refine sS (n:=(ln.aj.n+1)) (es:=(List.map oC (List.replicate (ln.aj.n+1) (none:Option Nat)))) U U U Bw om om (by simp only [maxLen]; omega) (by rw [List.map_replicate]; rfl) U fun b8=>?_
 try dsimp only
 refine aC (A1 _ _ (aK [2,4,5,6]) ?_)
 refine N1 10<|NO U U [13] fun T9 H1=>PY (ck.cells (ck.mk ln ri (bj.mk e_A e.length e_C) (bj.mk t_A tms.length t_C) (bj.mk (some ⟨b6,0,none⟩) (ln.aj.n+1) (ln.aj.n+1)) (bj.mk none 0 0))) U zT U U<|aC (H1 _ _ (aK [2,4,5,6]) ?_)
 refine N1 13<|NO U U [] fun T10 G=>PY (ck.cells (ck.mk ln ri (bj.mk e_A e.length e_C) (bj.mk t_A tms.length t_C) (bj.mk (some ⟨b6,0,none⟩) (ln.aj.n+1) (ln.aj.n+1)) (bj.mk (some ⟨b8,0,none⟩) (ln.aj.n+1) (ln.aj.n+1)))) U zT U U<|aC (G _ _ (aK [2,4,5,6]) ?_)
 refine lK ?_
 refine a_ (j6 (bf U) (aK [2,4,5,6,1,0,3]) (Eq ⟨((some ⟨b6,0,none⟩),(some ⟨b8,0,none⟩)),trivial⟩))
end
section
open Go.RowKit
theorem DC (l:bq) (kA:OA) (kC:Nat) (az:List RA) (cA:OA) (cC:Nat) (bA:OA) (bC g1:Nat) (bm:Int) (g2:Nat) (hin:ed l az):
 dG Tryz.prog 148 [(vP g1),(vP g2)] ((o7 l kA az cA bA)++[(cy g1 28 (bW.cells (jx l kA kC cA cC bA bC))),(cy g2 3 [(vI bm)])]) (vI (fQ l bm)):=by
 have K:=hin.qI
 have J:=hin.qG
 have H:=hin.lS
 have AA:=hin.qD
 refine bG kr Tryz.func148 U U fun L Q hQ hN=>?_
 try dsimp only
 refine WS fun _ B=>bp 1 U<|RK B<|ag fun _ C=>WS fun _ D=>rP 5 [0,1] (mr 4 U (mr 5 U I)) ?_
 refine e9 (xs:=[.tmp 7]) (cs:=[(vI bm)]) U dI kR U U U U (by simp [Value.cells]) U U fun G=>?_
 refine rS (CL (dG.eq (iy 0 ((l.aj.length:Int)-1) ([bm]) (some ⟨G,0,none⟩) 1 (by (simp; done))) cK) (aw (bo 0 U U (by simp [bX]) U)<|aS) U) ?_
 refine rP 1 [] I ?_
 refine RK D<|cb U (aX fun A=>?_) (aW fun A=>?_)
 ·refine WS fun _ E=>rP 1 [] I ?_
  refine RK E<|ak<|Q1 hQ U U U ?_
  exact cI (if_neg om).symm
 refine WK C<|WS fun _ F=>rP 1 [] I ?_
 refine RK F<|ak<|Q1 hQ U U U ?_
 exact cI (if_pos om).symm
theorem Nb (l:bq) (kA:OA) (kC:Nat) (az:List RA) (cA:OA) (cC:Nat) (bA:OA) (bC:Nat) (r:cQ) (sgA:OA) (sgC:Nat) (hin:ed l az) (hsl:r.aa.length≤1000000):
 lR Tryz.prog 147 [(vA (bW.cells (jx l kA kC cA cC bA bC))),(vA (de.cells (g8 r sgA sgC))),(vS none 0 0)] ((o7 l kA az cA bA)++[(rd sgA r.aa.length 2 (r.aa.map aH.cells))]) (fun (x:Bool×Int×Nat×(OA)×Nat×(OA)×Nat×(List Nat)×(List FM)×(List Nat)×(OA)×Nat×(List FM)×(List Nat)×(OA)×Nat)=>bif x.1 then (vT [(Value.pointer (some ⟨x.2.2.1,0,none⟩)),(vI 0)]) else (vT [(Value.pointer none),(vI x.2.1)])) (fun (x:Bool×Int×Nat×(OA)×Nat×(OA)×Nat×(List Nat)×(List FM)×(List Nat)×(OA)×Nat×(List FM)×(List Nat)×(OA)×Nat)=>(x.1=true→(fq l r 0=0∧wm (di l r) x.2.2.2.2.2.2.2.2.1∧tP (di l r) x.2.2.2.2.2.2.2.2.2.2.2.2.1∧x.2.2.2.2.2.2.2.2.2.1.length=x.2.2.2.2.2.2.2.2.1.length∧x.2.2.2.2.2.2.2.2.2.2.2.2.2.1.length=x.2.2.2.2.2.2.2.2.2.2.2.2.1.length∧x.2.2.2.2.2.2.2.1.length=(cM l r.aa r.aa.length).length))∧(x.1=false→(x.2.1=fq l r 0∧ ¬ fq l r 0=0))) (fun (x:Bool×Int×Nat×(OA)×Nat×(OA)×Nat×(List Nat)×(List FM)×(List Nat)×(OA)×Nat×(List FM)×(List Nat)×(OA)×Nat)=>bif x.1 then [(cy x.2.2.1 276 (ck.cells (ck.mk (jx l kA kC cA cC bA bC) (g8 r sgA sgC) (bj.mk x.2.2.2.1 ((cp l l.aj.length).length) x.2.2.2.2.1) (bj.mk x.2.2.2.2.2.1 ((cM l r.aa r.aa.length).length) x.2.2.2.2.2.2.1) (bj.mk x.2.2.2.2.2.2.2.2.2.2.1 x.2.2.2.2.2.2.2.2.1.length x.2.2.2.2.2.2.2.2.2.2.2.1) (bj.mk x.2.2.2.2.2.2.2.2.2.2.2.2.2.2.1 x.2.2.2.2.2.2.2.2.2.2.2.2.1.length x.2.2.2.2.2.2.2.2.2.2.2.2.2.2.2)))),(own x.2.2.2.1 x.2.2.2.2.1 3 1 ((cp l l.aj.length).map iC)),(own x.2.2.2.2.2.1 x.2.2.2.2.2.2.1 123 1 (List.zipWith gK (cM l r.aa r.aa.length) x.2.2.2.2.2.2.2.1)),(bQ (bK p6 (cM l r.aa r.aa.length) x.2.2.2.2.2.2.2.1)),(own x.2.2.2.2.2.2.2.2.2.2.1 x.2.2.2.2.2.2.2.2.2.2.2.1 279 1 (List.zipWith gK x.2.2.2.2.2.2.2.2.1 x.2.2.2.2.2.2.2.2.2.1)),(bQ (bK ny x.2.2.2.2.2.2.2.2.1 x.2.2.2.2.2.2.2.2.2.1)),(own x.2.2.2.2.2.2.2.2.2.2.2.2.2.2.1 x.2.2.2.2.2.2.2.2.2.2.2.2.2.2.2 279 1 (List.zipWith gK x.2.2.2.2.2.2.2.2.2.2.2.2.1 x.2.2.2.2.2.2.2.2.2.2.2.2.2.1)),(bQ (bK ny x.2.2.2.2.2.2.2.2.2.2.2.2.1 x.2.2.2.2.2.2.2.2.2.2.2.2.2.1))] else []):=by
 have To:=hin.qI
 have S1:=hin.qG
 have ST:=hin.lS
 have Sz:=hin.qD
 have S2:=hin.side
 refine dL kr Tryz.func147 U U fun w0 Q hQ hN=>?_
 try dsimp only
 refine WS fun _ NE=>dV U fun b2=>dV U fun b3=>bp 2 U<|RK NE<|ag fun _ Ne=>WS fun _ Nm=>dY 1 [] (mc 1 U I) U<|rS (CL (x8 l kA kC az cA cC bA bC hin) (aY [2,3,4,5]) U)<|bp 1 U<|RK Nm<|WS fun _ Op=>rP 2 [] I ?_
 refine RK Op<|cb U (aX fun d=>?_) (aW fun d=>?_)
 ·refine WS fun _ Or=>rP 3 [] I ?_
  refine RK Or<|ak<|LX hQ (false,(e_ l),0,none,0,none,0,[],[],[],none,0,[],[],none,0) [] [] I U (by rfl) U U ?_
  exact o9<|QJ (iQ (r:=r) (me:=0) d) d
 refine WK Ne<|ag fun _ Os=>WS fun _ s=>?_
 have E:e_ l=0:=d
 obtain ⟨K8,Z⟩:=dw E
 have O5:=Z.head
 unfold eL at O5
 refine rP 2 [] (mc 0 U I) ?_
 refine e9 (xs:=[.tmp 24]) (cs:=[(vI r.Start)]) U dI kR U U U U (by simp [Value.cells]) U U fun LV=>?_
 refine rS (CL (dG.eq (iy 0 86400000 ([r.Start]) (some ⟨LV,0,none⟩) 1 (by (simp; done))) cK) (aw (bo 0 U U (by simp [bX]) U)<|aS) U) ?_
 refine rP 2 [] I ?_
 refine bS (t:=28) U (aX fun Lo=>?_) (aW fun Lo=>?_)
 ·refine bp 14 U<|RK s<|aL U<|WS fun _ A2=>rP 2 [] I ?_
  refine RK A2<|ak<|LX hQ (false,51,0,none,0,none,0,[],[],[],none,0,[],[],none,0) [] [] I U (by rfl) U U ?_
  exact o9<|qT (ep (me:=0) E (fun q:fW l r=>by have q1:=q.time; have q2:=q.len; omega))
 refine rP 4 [] (mc 1 U I) ?_
 refine e9 (xs:=[.tmp 32]) (cs:=[(vI r.gL)]) U dI kR U U U U (by simp [Value.cells]) U U fun La=>?_
 refine rS (CL (dG.eq (iy r.Start 86400000 ([r.gL]) (some ⟨La,0,none⟩) 1 (by (simp; done))) cK) (aw (bo 0 U U (by simp [bX]) U)<|aS) U) ?_
 refine rP 3 [] I ?_
 refine bS (t:=37) U (aX fun L2=>?_) (aW fun L2=>?_)
 ·refine bp 5 U<|RK s<|aL U<|WS fun _ A3=>rP 2 [] I ?_
  refine RK A3<|ak<|LX hQ (false,51,0,none,0,none,0,[],[],[],none,0,[],[],none,0) [] [] I U (by rfl) U U ?_
  exact o9<|qT (ep (me:=0) E (fun q:fW l r=>by have q1:=q.time; have q2:=q.len; omega))
 refine rP 5 [] (mc 2 U I) ?_
 refine RK s<|cb U (aN fun L3=>?_) (aO fun L3=>?_)
 ·refine WS fun _ A4=>rP 2 [] I ?_
  refine RK A4<|ak<|LX hQ (false,51,0,none,0,none,0,[],[],[],none,0,[],[],none,0) [] [] I U (by rfl) U U ?_
  exact o9<|qT (ep (me:=0) E (fun q:fW l r=>by have q1:=q.time; have q2:=q.len; omega))
 refine WK Os<|WS fun _ A5=>rS (SX (bE (xs:=[(0,.const (vI (-1)))]) (cs:=(aH.cells (aH.mk (-1) 0))) U U (bD Ov U)) U U)<|AL U BY fun AA=>e7 U pE U<|RK A5<|ag fun _ A6=>dp cj [5,6,7,8] [] [] [0,1,2,3,4,5,6,7,8,9] [] U U U U U<|eS U (LW 4 U bV U U)<|eS U (LW 3 U bV U U)<|eS U (FA 3 U eD U)<|eS U (L1 (vS bA l.aj.length bC) 4 U bV U U)<|eS U (LN U NK)<|eg U<|cf U fun T18 Hi=>?_
 refine sS (n:=l.aj.length) (es:=(List.map oC (List.replicate l.aj.length (none:Option Nat)))) U U U Og om om (by simp only [maxLen]; omega) (by rw [List.map_replicate]; rfl) U fun B=>?_
 try dsimp only
 refine aC (Hi _ _ (aK [1,2,3,4,5,6,7,8,9,10]) ?_)
 refine cf U fun T20 H1=>rS (SX (bE (xs:=[(0,.tmp 44),(1,.tmp 45),(3,.tmp 49)]) (cs:=(ck.cells (ck.mk (jx l kA kC cA cC bA bC) (g8 r sgA sgC) (bj.mk none 0 0) (bj.mk (some ⟨B,0,none⟩) l.aj.length l.aj.length) (bj.mk none 0 0) (bj.mk none 0 0)))) U U (bD OL U)) U U)<|aC (H1 _ _ (aK [1,2,3,4,5,6,7,8,9,10]) ?_)
 refine cf U fun T21 IO=>dV U fun J=>aC (IO _ _ (aK [2,3,4,5,6,7,8,9,10,11]) ?_)
 refine cf U fun T23 IR=>rS (AG U)<|aC (IR _ _ (aK [2,3,4,5,6,7,8,9,10,11]) ?_)
 refine e8 U<|KK A6<|ag fun _ A7=>WS fun _ A8=>rP 4 [] (mc 6 U I) ?_
 refine RK A8<|ax ?_
 rw [vk]
 refine fu 3 1<|lx ?_
 have D:(0≤l.aj.length)∧(([]:List Nat).length=0):=by exact ⟨Nat.zero_le _,rfl⟩
 refine bP (ι:={z:Nat×(OA)×Nat×(List Nat) // (z.1≤l.aj.length)∧(z.2.2.2.length=z.1)}) [2,3,4,6,7,9,10,54] [4,7,8,9,10,11,12,13] U U (fun z=>[(55,(vI (z.1.1:Int)))]) (fun z=>[(bQ (bK p6 (List.replicate z.1.1 ([]:TM)) z.1.2.2.2)),(own z.1.2.1 z.1.2.2.1 3 1 ((cp l z.1.1).map iC)),(cy J 276 (ck.cells (ck.mk (jx l kA kC cA cC bA bC) (g8 r sgA sgC) (bj.mk z.1.2.1 ((cp l z.1.1).length) z.1.2.2.1) (bj.mk (some ⟨B,0,none⟩) l.aj.length l.aj.length) (bj.mk none 0 0) (bj.mk none 0 0)))),(own (some ⟨B,0,none⟩) l.aj.length 123 1 (List.map oC (dJ z.1.2.2.2 l.aj.length)))]) (fun _=>rfl) (fun _=>rfl) (fun z=>l.aj.length-z.1.1) ⟨(0,none,0,([]:List Nat)),D⟩ (bf U) (aK [4,7,8,9,10,11,12,13,0,1,2,3]) ?_
 clear D
 rintro ⟨⟨b,a,c,fb⟩,⟨u,W⟩⟩ J26 A1
 try dsimp only at u W
 try dsimp only
 have PE:(dJ fb l.aj.length).length=l.aj.length:=nH om
 refine WS fun _ A9=>rP 1 [] I ?_
 refine RK A9<|ag fun _ Ba=>cb U (aN fun L0=>?_) (aO fun L0=>?_)
 ·refine WK Ba<|ag fun _ B3=>ax<|WS fun _ B9=>rP 2 [] I ?_
  refine RK B9<|ag fun _ CB=>dp cj [12,13,16] [4] [0] [0,1,2,3,4,5,6,7,8,11] [0,1,2,3,4,5,6,7,8,9,10,11] U U U U U<|eS U (MV U)<|eS U (MV U)<|eS U (SX (cv U U) U U)<|eS U (FA 10 U eD U)<|fS U (L1 (vS a ((cp l b).length) c) 10 U bV U U)<|eS U (LW 2 U bV U U)<|eS U (MV U)<|eS U (CL (Ij l kA kC az cA cC bA bC (b:Int) hin asm (by exact Z.v_) om) (aY [3,4,5,6]) U) ?_
  have T0:=CE K8 Z.v_ b
  have T4:=Z.P3 b om
  simp only [Int.toNat_natCast]
  refine eS U (BI U (sW ⟨om,om⟩))<|eS U (FA 1 U eD U)<|eS U (L1 (vI l.gl) 2 U bV U U) ?_
  refine eS U (CL (IF (1000*(mN l (b:Int).toNat)) l.gl om (by (simp; omega))) (aS) U) ?_
  refine eS U (SX (cv U U) U U)<|eS U (FA 10 U eD U)<|eg U<|g7 U fun T33 Id=>e9 (xs:=[.tmp 69]) (cs:=[(vI (o_ (1000*(mN l (b:Int).toNat)) l.gl))]) U dI kR U U U U (by simp [Value.cells]) U U fun R5=>aC (Id _ _ (aK [1,2,3,4,5,6,7,8,9,12]) (aK [1,2,3,4,5,6,7,8,9,10,11,12]) ?_)
  refine cf U fun T35 If=>?_
  refine cP (es2:=(List.map iC (cp l (b+1)))) (m':=(cp l (b+1)).length) 10 U U U pg U U (by simp [dy]) (bo (es:=List.map iC [(o_ (1000*(mN l (b:Int).toNat)) l.gl)]) 0 U U (by simp [bX]) U) (jN _) (by have:=dy (l:=l) (n:=b); first|omega|(simp; omega)) (by simp only [maxLen,dy]; omega) (by rw [q9]; simp [eH]) (by simp [dy]) U fun AC AO=>?_
  try dsimp only
  refine aC (If _ _ (aK [1,2,3,4,5,6,7,8,9,12]) ?_)
  refine cf U fun T38 In=>Sk (ck.cells (ck.mk (jx l kA kC cA cC bA bC) (g8 r sgA sgC) (bj.mk AC ((cp l (b+1)).length) AO) (bj.mk (some ⟨B,0,none⟩) l.aj.length l.aj.length) (bj.mk none 0 0) (bj.mk none 0 0))) U Bs U U<|aC (In _ _ (aK [1,2,3,4,5,6,7,8,9,12]) ?_)
  refine e8 U<|KK CB<|ao<|bp 1 U<|rS (SX (cv U U) U U)<|rP 3 [] (mc 11 U I) ?_
  refine mZ (kV:=iV) U U fun H=>?_
  try dsimp only
  obtain ⟨PZ,LE⟩:=aA (dJ fb l.aj.length) b om
  have hx41m:(List.map oC (dJ fb l.aj.length))[b]? =some (oC PZ):=by rw [f_,LE]; rfl
  refine rS (IA b U (ar (n:=l.aj.length) 13 U sq) x3 dc om om) ?_
  have JJ:((dJ fb l.aj.length).set b (some H))=(dJ (fb++[H]) l.aj.length):=by exact sw om om
  refine eo (k:=b) (o:=0) (vs:=[(Value.map (some H))]) (es':=(List.map oC (dJ (fb++[H]) l.aj.length))) (C':=[_,_,_,_,_,_,_,_,_,_,_,_,_,(own (some ⟨B,0,none⟩) l.aj.length 123 1 (List.map oC (dJ (fb++[H]) l.aj.length)))]) 13 U U U F_ U U U U hx41m U dc (by exact (List.map_set (f:=oC) (l:=(dJ fb l.aj.length)) (i:=b) (a:=(some H))).symm.trans (congrArg _ JJ)) U<|aC<|aJ<|KK B3<|ao<|rP 2 [] I ?_
  refine aC<|yS (X':=bK p6 (List.replicate (b+1) ([]:TM)) (fb++[H])) 10 0 U U (FP W) ?_
  try dsimp only
  have Jb:(vI (((b+1):Nat):Int))=(vI ((b:Int)+1)):=by exact cI om
  refine a_ (A1 ⟨((b+1),AC,AO,(fb++[H])),⟨om,by simp; omega⟩⟩ _ _ _ U os (cz 8<|aU U Jb<|cR.nil _) (aK [2,3,4,5,6,7,8,9,0,10,11,12]))
 refine bM<|ab<|ab<|aF<|KK A7<|ag fun _ Ci=>WS fun _ Ck=>rP 4 [] (mc 1 U I) ?_
 refine RK Ck<|ax ?_
 rw [show (List.replicate b ([]:TM))=cM l r.aa 0 from by rw [xS,show b=l.aj.length by omega]]
 rw [show cp l b=cp l l.aj.length from by rw [show b=l.aj.length by omega]]
 have D:(0≤r.aa.length)∧(o1 l r.aa 0):=by exact ⟨Nat.zero_le _,v9⟩
 refine bP (ι:={z:Nat // (z≤r.aa.length)∧(o1 l r.aa z)}) [2,3,4,6,7,9,10,83,84] [1,2,3,4,5,6,7,9,10,11] U U (fun z=>[(85,(vI (z.1:Int)))]) (fun z=>[(cy AA 113 (aH.cells (mj r.aa z.1))),(bQ (bK p6 (cM l r.aa z.1) fb))]) (fun _=>rfl) (fun _=>rfl) (fun z=>r.aa.length-z.1) ⟨0,D⟩ (bf U) (aK [1,2,3,4,5,6,7,9,10,11,0,8]) ?_
 clear D
 rintro ⟨i,⟨LT,A⟩⟩ J46 S
 try dsimp only
 have PP:(cM l r.aa i).length=l.aj.length:=gW
 have PE:(dJ fb l.aj.length).length=l.aj.length:=nH om
 refine WS fun _ Cp=>rP 1 [] I ?_
 refine RK Cp<|ag fun _ Cx=>bO U (aO fun Mg=>?_) (aN fun Mg=>?_)
 ·refine bM<|ab<|ab<|aF<|KK Ci<|ag fun _ Fd=>ag fun _ Fk=>?_
  have w:fW l r:=xz om om A om
  refine ao<|rP 3 [] I ?_
  refine RK Fk<|ax<|rL 1<|lf fun R81 Qr=>WS fun _ Fn=>rS (SX (eQ (r:= .bool false) U U U qE) U U)<|RK Fn<|ag fun _ QI=>bT U<|bM<|ab<|ab<|aF<|KK Fd<|ag fun _ GE=>?_
  rw [show cM l r.aa i=cM l r.aa r.aa.length from by rw [show i=r.aa.length by omega]]
  have y:(cM l r.aa r.aa.length).length=l.aj.length:=gW
  rw [show (List.map oC (dJ fb l.aj.length))=(List.zipWith gK (cM l r.aa r.aa.length) fb) from Tv om y]
  rw [show (cy J 276 (ck.cells (ck.mk (jx l kA kC cA cC bA bC) (g8 r sgA sgC) (bj.mk a ((cp l l.aj.length).length) c) (bj.mk (some ⟨B,0,none⟩) l.aj.length l.aj.length) (bj.mk none 0 0) (bj.mk none 0 0))))=(cy J 276 (ck.cells (ck.mk (jx l kA kC cA cC bA bC) (g8 r sgA sgC) (bj.mk a ((cp l l.aj.length).length) c) (bj.mk (some ⟨B,0,none⟩) ((cM l r.aa r.aa.length).length) l.aj.length) (bj.mk none 0 0) (bj.mk none 0 0)))) from by rw [y]]
  have LA:=mT K8 Z w
  have R0:(cp l l.aj.length).length=l.aj.length:=dy
  refine ao<|rP 1 [] I ?_
  refine oS 8 U U U U (Ct (jx l kA kC cA cC bA bC) (g8 r sgA sgC) (cp l l.aj.length) (cM l r.aa r.aa.length) a c fb (some ⟨B,0,none⟩) l.aj.length J (by exact LA) (by exact dy.symm) (by rw [y]; omega)) U (eE 7 U U (jH sm) (eE 9 U U (jH (by rw [List.length_zipWith]; omega)) (eE 11 U U q7 re))) U (fun Pi O4=>?_)
  obtain ⟨G,R,O,P,F,N,L,M⟩:=Pi
  refine FX (X:=[(cy J 276 (ck.cells (ck.mk (jx l kA kC cA cC bA bC) (g8 r sgA sgC) (bj.mk a ((cp l l.aj.length).length) c) (bj.mk (some ⟨B,0,none⟩) ((cM l r.aa r.aa.length).length) l.aj.length) (bj.mk O G.length P) (bj.mk L F.length M)))),(own O P 279 1 (List.zipWith gK G R)),(bQ (bK ny G R)),(own L M 279 1 (List.zipWith gK F N)),(bQ (bK ny F N))]) 8 U U ?_
  try dsimp only
  obtain ⟨v,K4,K5,K6⟩:=O4
  dsimp only at v K4 K5 K6
  refine RK GE<|ag fun _ GT=>WS fun _ Go=>rP 1 [] I ?_
  refine cX (vU (jx l kA kC cA cC bA bC) (g8 r sgA sgC) (cp l l.aj.length) (cM l r.aa r.aa.length) a c fb (some ⟨B,0,none⟩) l.aj.length G F R O P N L M J (by exact LA) (by (simp; omega)) (by exact dy.symm) (by exact v) asm) (aw (ar (n:=(cp l l.aj.length).length) 12 U sm)<|aw (ar (n:=(cM l r.aa r.aa.length).length) 13 U (by rw [List.length_zipWith]; omega))<|aw (eO 15 U l4)<|aw (ar (n:=G.length) 1 U (by rw [List.length_zipWith]; omega))<|aw (eO 2 U l4)<|aw (ar (n:=F.length) 3 U (by rw [List.length_zipWith]; omega))<|aw (eO 4 U l4)<|eG 0 U U<|aS) U fun Pl R1=>?_
  obtain ⟨R4,R9⟩:=Pl
  try dsimp only
  refine rP 2 [] I ?_
  refine RK Go<|bO U (aO fun V=>?_) (aN fun V=>?_)
  ·refine WK GT<|WS fun _ p=>rP 3 [] I ?_
   refine RK p<|ak ?_
   refine LX hQ (true,0,J,a,c,(some ⟨B,0,none⟩),l.aj.length,fb,G,R,O,P,F,N,L,M) [1,13,14,16,2,3,4,5] [] I U (by (show List.all _ _=true; simp only [cond_true,fV,List.all_nil,Gf,OB,Bool.and_true]; rfl)) U U ?_
   exact ⟨fun _=>⟨vC E w (by first|rfl|exact h156) (fun q=>V (congrArg (fun z:List Int=>(z.length:Int)) q)),v,K4,K5,K6,dso⟩,Oj⟩
  refine WS fun _ j=>rP 2 [] I ?_
  refine RK j<|ak<|LX hQ (false,8,0,none,0,none,0,[],[],[],none,0,[],[],none,0) [] [] I U (by rfl) U U ?_
  exact o9<|qT (tJ (me:=0) E w (by first|rfl|exact h156) (show lY (di l r)=[] from kE (Int.natCast_eq_zero.1 V)))
 refine WK Cx<|ag fun _ T=>ax<|WS fun _ C0=>rP 1 [] I ?_
 obtain ⟨x,hx⟩:=aA r.aa i om
 have PV:=bH aH.cells hx
 refine rS (IA i U (av 6 U) wG dc om om)<|rS (jL i 0 (aH.cells x) U bV (av 6 U) PV U dc U U)<|AL U BY fun R6=>bp 1 U<|e7 U pE U<|RK C0<|ag fun _ e=>WS fun _ AB=>rP 6 [0,1] (mc 2 U (mc 0 U I)) ?_
 refine e9 (xs:=[.tmp 95]) (cs:=[(vI x.fI)]) U dI kR U U U U (by simp [Value.cells]) U U fun Li=>?_
 refine rS (CL (dG.eq (iy 0 ((l.aj.length:Int)-1) ([x.fI]) (some ⟨Li,0,none⟩) 1 (by (simp; done))) cK) (aw (bo 0 U U (by simp [bX]) U)<|aS) U) ?_
 refine rP 2 [] I ?_
 refine bS (t:=99) U (aX fun M2=>?_) (aW fun M2=>?_)
 ·refine bp 27 U<|RK AB<|aL U<|WS fun _ C1=>rP 2 [] I ?_
  refine RK C1<|ak<|LX hQ (false,51,0,none,0,none,0,[],[],[],none,0,[],[],none,0) [] [] I U (by rfl) U U ?_
  exact o9<|qT (ep (me:=0) E (ox hx (by unfold jB j2; omega)))
 refine rP 2 [] (mc 1 U I) ?_
 refine e9 (xs:=[.tmp 101]) (cs:=[(vI x.Read)]) U dI kR U U U U (by simp [Value.cells]) U U fun Lk=>?_
 refine rS (CL (dG.eq (iy 0 86400000 ([x.Read]) (some ⟨Lk,0,none⟩) 1 (by (simp; done))) cK) (aw (bo 0 U U (by simp [bX]) U)<|aS) U) ?_
 refine rP 3 [] I ?_
 refine bS (t:=106) U (aX fun AU=>?_) (aW fun AU=>?_)
 ·refine bp 20 U<|RK AB<|aL U<|WS fun _ C2=>rP 2 [] I ?_
  refine RK C2<|ak<|LX hQ (false,51,0,none,0,none,0,[],[],[],none,0,[],[],none,0) [] [] I U (by rfl) U U ?_
  exact o9<|qT (ep (me:=0) E (ox hx (by unfold jB j2; omega)))
 refine rP 7 [0,1] (mc 2 U (mc 13 U I)) ?_
 refine bS (t:=113) U (aN fun Ag=>?_) (aO fun Ag=>?_)
 ·refine bp 13 U<|RK AB<|aL U<|WS fun _ C3=>rP 2 [] I ?_
  refine RK C3<|ak<|LX hQ (false,51,0,none,0,none,0,[],[],[],none,0,[],[],none,0) [] [] I U (by rfl) U U ?_
  exact o9<|qT (ep (me:=0) E (ox hx (by unfold jB j2; omega)))
 refine rP 6 [0,1] (mc 2 U (mc 13 U I)) ?_
 refine cx (t:=119) U (aO fun Ax=>?_) (aN fun Ax=>?_)
 ·refine bp 7 U<|RK AB<|bT U<|WK e<|ag fun _ h=>WS fun _ Eq=>dY 2 [0,1] (mc 4 U (mc 2 U I)) U<|rS (CL (AJ l kA kC az cA cC bA bC x hin asm om) (aY [5,6,7,8]) U)<|AL U eh fun R8=>e7 U cW U<|RK Eq<|WS fun _ FS=>rP 5 [] (mc 0 U I) ?_
  refine RK FS<|bO U (aO fun C=>?_) (aN fun C=>?_)
  ·refine WK h<|ao<|rP 1 [] (mc 3 U I) ?_
   refine hU (vs:=(aH.cells x)) (cs':=(aH.cells x)) (C':=[_,_,_,_,_,_,_,_,_,_,_,_,_,_,(cy AA 113 (aH.cells x)),_]) 14 U U U pE U U U U U U U<|aC<|aJ<|KK T ?_
   have J7:(aH.cells x)=(aH.cells (mj r.aa (i+1))):=by rw [kg hx]
   rw [J7]
   refine ao<|rP 2 [] I ?_
   refine aC ?_
   rw [show (cM l r.aa i)=(cM l r.aa (i+1)) from (qn hx C).symm]
   have J8:(vI (((i+1):Nat):Int))=(vI ((i:Int)+1)):=by exact cI om
   refine a_ (S ⟨(i+1),⟨om,jC A hx (by unfold jB j2; omega)⟩⟩ _ _ _ U os (cz 9<|aU U J8<|cR.nil _) (aK [4,5,6,7,8,9,10,11,12,13,14,15]))
  obtain ⟨mb,Y⟩:=aA (cM l r.aa i) ((x.fI).toNat) om
  obtain ⟨ga,K⟩:=aA fb ((x.fI).toNat) om
  refine zV 15 Y K U U U ?_
  try dsimp only
  refine cS cj 10 kr<|kI 1 U<|dS (SX (cv U U) U U)<|dP 4 [0,1] (mc 14 U (mc 5 U I)) ?_
  have K0:(List.map oC (dJ fb l.aj.length))[(x.fI).toNat]? =some (oC (some ga)):=qO (m_ K)
  refine dS (IA ((x.fI).toNat) U (ar (n:=l.aj.length) 15 U sq) x3 dc om om) ?_
  refine dS (gv ((x.fI).toNat) 0 (Value.map (some ga)) U bV (ar (n:=(dJ fb l.aj.length).length) 15 U sm) K0 U dc U)<|kf 2 [] (mc 2 U I) U<|cu<|je (kV:=iV) (x:=(i:Int)) (C':=[(kx iV ga (cT j5 (eC mb (i:Int) (dq l x)))),_,_,_,_,_,_,_,_,_,_,_,_,_,_,_,_]) 0 U U U U sZ (iW oV) U (gX _ _ _ _).symm U<|RK h<|ao<|rP 1 [] (mc 5 U I) ?_
  refine hU (vs:=(aH.cells x)) (cs':=(aH.cells x)) (C':=[_,_,_,_,_,_,_,_,_,_,_,_,_,_,_,_,(cy AA 113 (aH.cells x))]) 16 U U U pE U U U U U U U<|aC<|aJ<|KK T ?_
  have J5:(aH.cells x)=(aH.cells (mj r.aa (i+1))):=by rw [kg hx]
  rw [J5]
  refine ao<|rP 2 [] I ?_
  refine aC ?_
  refine AW (f:=p6) (ms:=(cM l r.aa i)) (m:=(eC mb (i:Int) (dq l x))) 1 0 (by rw [gW]; omega) K U U U ?_
  rw [sG hx om C Y]
  have J6:(vI (((i+1):Nat):Int))=(vI ((i:Int)+1)):=by exact cI om
  refine a_ (S ⟨(i+1),⟨om,jC A hx (by unfold jB j2; omega)⟩⟩ _ _ _ U os (cz 9<|aU U J6<|cR.nil _) (aK [5,6,7,8,9,10,11,12,13,14,15,0]))
 refine rP 7 [0,1] (mc 2 U (mc 13 U I)) ?_
 refine RK AB<|cb U (aN fun A0=>?_) (aO fun A0=>?_)
 ·refine WS fun _ Di=>rP 2 [] I ?_
  refine RK Di<|ak<|LX hQ (false,51,0,none,0,none,0,[],[],[],none,0,[],[],none,0) [] [] I U (by rfl) U U ?_
  exact o9<|qT (ep (me:=0) E (ox hx (by unfold jB j2; omega)))
 refine WK e<|ag fun _ g=>WS fun _ Do=>dY 2 [0,1] (mc 4 U (mc 2 U I)) U<|rS (CL (AJ l kA kC az cA cC bA bC x hin asm om) (aY [5,6,7,8]) U)<|AL U eh fun R7=>e7 U cW U<|RK Do<|WS fun _ EQ=>rP 5 [] (mc 0 U I) ?_
 refine RK EQ<|bO U (aO fun C=>?_) (aN fun C=>?_)
 ·refine WK g<|ao<|rP 1 [] (mc 3 U I) ?_
  refine hU (vs:=(aH.cells x)) (cs':=(aH.cells x)) (C':=[_,_,_,_,_,_,_,_,_,_,_,_,_,_,(cy AA 113 (aH.cells x)),_]) 14 U U U pE U U U U U U U<|aC<|aJ<|KK T ?_
  have J3:(aH.cells x)=(aH.cells (mj r.aa (i+1))):=by rw [kg hx]
  rw [J3]
  refine ao<|rP 2 [] I ?_
  refine aC ?_
  rw [show (cM l r.aa i)=(cM l r.aa (i+1)) from (qn hx C).symm]
  have J4:(vI (((i+1):Nat):Int))=(vI ((i:Int)+1)):=by exact cI om
  refine a_ (S ⟨(i+1),⟨om,jC A hx (by unfold jB j2; omega)⟩⟩ _ _ _ U os (cz 9<|aU U J4<|cR.nil _) (aK [4,5,6,7,8,9,10,11,12,13,14,15]))
 obtain ⟨mb,Y⟩:=aA (cM l r.aa i) ((x.fI).toNat) om
 obtain ⟨ga,K⟩:=aA fb ((x.fI).toNat) om
 refine zV 15 Y K U U U ?_
 try dsimp only
 refine cS cj 10 kr<|kI 1 U<|dS (SX (cv U U) U U)<|dP 4 [0,1] (mc 14 U (mc 5 U I)) ?_
 have J9:(List.map oC (dJ fb l.aj.length))[(x.fI).toNat]? =some (oC (some ga)):=qO (m_ K)
 refine dS (IA ((x.fI).toNat) U (ar (n:=l.aj.length) 15 U sq) x3 dc om om) ?_
 refine dS (gv ((x.fI).toNat) 0 (Value.map (some ga)) U bV (ar (n:=(dJ fb l.aj.length).length) 15 U sm) J9 U dc U)<|kf 2 [] (mc 2 U I) U<|cu<|je (kV:=iV) (x:=(i:Int)) (C':=[(kx iV ga (cT j5 (eC mb (i:Int) (dq l x)))),_,_,_,_,_,_,_,_,_,_,_,_,_,_,_,_]) 0 U U U U sZ (iW oV) U (gX _ _ _ _).symm U<|RK g<|ao<|rP 1 [] (mc 5 U I) ?_
 refine hU (vs:=(aH.cells x)) (cs':=(aH.cells x)) (C':=[_,_,_,_,_,_,_,_,_,_,_,_,_,_,_,_,(cy AA 113 (aH.cells x))]) 16 U U U pE U U U U U U U<|aC<|aJ<|KK T ?_
 have Jk:(aH.cells x)=(aH.cells (mj r.aa (i+1))):=by rw [kg hx]
 rw [Jk]
 refine ao<|rP 2 [] I ?_
 refine aC ?_
 refine AW (f:=p6) (ms:=(cM l r.aa i)) (m:=(eC mb (i:Int) (dq l x))) 1 0 (by rw [gW]; omega) K U U U ?_
 rw [sG hx om C Y]
 have J2:(vI (((i+1):Nat):Int))=(vI ((i:Int)+1)):=by exact cI om
 refine a_ (S ⟨(i+1),⟨om,jC A hx (by unfold jB j2; omega)⟩⟩ _ _ _ U os (cz 9<|aU U J2<|cR.nil _) (aK [5,6,7,8,9,10,11,12,13,14,15,0]))
end
section
open Go.RowKit
theorem NR (l:bq) (kA:OA) (kC:Nat) (az:List RA) (cA:OA) (cC:Nat) (bA:OA) (bC:Nat) (r:cQ) (sgA:OA) (sgC:Nat) (hin:ed l az) (hsl:r.aa.length≤1000000):
 lR Tryz.prog 121 [(vA (bW.cells (jx l kA kC cA cC bA bC))),(vA (de.cells (g8 r sgA sgC)))] ((o7 l kA az cA bA)++[(rd sgA r.aa.length 2 (r.aa.map aH.cells))]) (fun (x:(OA)×Nat)=>(vT [(vS x.1 ((hH l r).length) x.2),(vI (fq l r 0))])) (fun (x:(OA)×Nat)=>True) (fun (x:(OA)×Nat)=>[(own x.1 x.2 3 1 ((hH l r).map iC))]):=by
 have A2:=hin.qI
 have AC:=hin.qG
 have w:=hin.lS
 have y:=hin.qD
 have A1:=hin.side
 refine dL kr Tryz.func121 U U fun w0 Q hQ hN=>?_
 try dsimp only
 refine WS fun _ g=>dV U fun b2=>dV U fun b3=>bp 2 U<|RK g<|WS fun _ P=>rP 2 [0,1] (mc 1 U (mc 0 U I)) ?_
 refine cX (Nb l kA kC az cA cC bA bC r sgA sgC hin hsl) (aY [2,3,4,5,6]) U fun y5 AA=>?_
 obtain ⟨V,v,e,d,F,Y,Z,a,B,AB,G,H,A,E,W,X⟩:=y5
 cases V
 ·obtain ⟨S,he⟩:=AA.2 rfl
  try dsimp only at S he
  subst S
  try dsimp only [cond_true,cond_false,List.cons_append,List.nil_append]
  refine bp 5 U<|RK P<|ag fun _ q=>WS fun _ K=>rP 2 [] I ?_
  refine RK K<|bO U (aW fun J=>?_) (aX fun J=>?_)
  ·exact absurd J he
  refine WS fun _ L=>gn 3 1 ?_
  rw [show (own none 0 3 1 ([]:List (List Value)))=own none 0 3 1 ((hH l r).map iC) from by rw [pk he]; rfl]
  refine bp 1 U<|rP 2 [] I ?_
  refine RK L<|ak ?_
  refine LX hQ (none,0) [0] [] I U U U ?_ ?_
  ·(rw [pk he]; rfl)
  ·trivial
 obtain ⟨he,C,R,i,h,k⟩:=AA.1 rfl
 try dsimp only [cond_true,cond_false,List.cons_append,List.nil_append]
 dsimp only at C R i h k
 obtain ⟨f,D,AU,Ag⟩:=iD he
 obtain ⟨m,T⟩:=dw f
 have j:=T.head
 unfold eL at j
 have o:=mT m T D
 have A0:=D.time
 have Ax:=D.len
 have s:(cp l l.aj.length).length=l.aj.length:=dy
 have t:(cM l r.aa r.aa.length).length=l.aj.length:=gW
 have AO:B.length=l.aj.length+1:=by have:=C.len; rw [show (di l r).n=l.aj.length from dy] at this; exact this
 have z:A.length=l.aj.length+1:=by have:=R.len; rw [show (di l r).n=l.aj.length from dy] at this; exact this
 refine bp 5 U<|RK P<|ag fun _ M=>WS fun _ N=>bp 1 U<|rS (SX (eQ (r:= .bool false) U U U s7) U U)<|RK N<|bT U<|WK M<|WS fun _ O=>rP 1 [] I ?_
 refine cX (vU (jx l kA kC cA cC bA bC) (g8 r sgA sgC) (cp l l.aj.length) (cM l r.aa r.aa.length) d F a Y Z B A AB G H E W X e (by exact o) (by (simp; omega)) (by exact dy.symm) (by exact C) asm) (aw (ar (n:=(cp l l.aj.length).length) 1 U sm)<|aw (ar (n:=(cM l r.aa r.aa.length).length) 2 U (by rw [List.length_zipWith]; omega))<|aw (eO 3 U l4)<|aw (ar (n:=B.length) 4 U (by rw [List.length_zipWith]; omega))<|aw (eO 5 U l4)<|aw (ar (n:=A.length) 6 U (by rw [List.length_zipWith]; omega))<|aw (eO 7 U l4)<|eG 0 U U<|aS) U fun p u=>?_
 obtain ⟨b,c⟩:=p
 try dsimp only
 rw [show (lY (cV (jx l kA kC cA cC bA bC) (g8 r sgA sgC) (cp l l.aj.length) (cM l r.aa r.aa.length)))=hH l r from (si he).symm]
 refine rP 2 [] I ?_
 refine RK O<|ak ?_
 refine LX hQ (b,c) [0] [] I U U U ?_ ?_
 ·(rw [he]; rfl)
 ·trivial
end
section
open Go.RowKit
theorem Ho (ln:bW) (ri:de) (e:List Int) (tms:List TM) (e_A:OA) (e_C:Nat) (tb:List Nat) (t_A:OA) (t_C:Nat) (fs:List FM) (bs:List FM) (fb:List Nat) (f_A:OA) (f_C:Nat) (bb:List Nat) (b_A:OA) (b_C gw:Nat) (b g1 g2:Nat) (mf:FM) (mb:FM) (hb:b<e.length) (hw:Gu (cV ln ri e tms)) (htb:tb.length=tms.length) (hfw:wm (cV ln ri e tms) fs) (hfb:fb.length=fs.length) (hbw:tP (cV ln ri e tms) bs) (hbb:bb.length=bs.length) (hsg:ri.aa.n≤1000) (hm1:fs[b]? =some mf) (hm2:bs[b+1]? =some mb):
 MJ Tryz.prog 186 [] [(vP g1),(vP g2)] [(rd e_A e.length 1 (e.map iC)),(rd t_A tms.length 1 (List.zipWith gK tms tb)),(iH (bK p6 tms tb)),(rd f_A fs.length 1 (List.zipWith gK fs fb)),(iH (bK ny fs fb)),(rd b_A bs.length 1 (List.zipWith gK bs bb)),(iH (bK ny bs bb)),(cy gw 276 (ck.cells (ck.mk ln ri (bj.mk e_A e.length e_C) (bj.mk t_A tms.length t_C) (bj.mk f_A fs.length f_C) (bj.mk b_A bs.length b_C)))),(cy g1 228 [(vP gw)]),(cy g2 3 [(vI (b:Int))])] ([]:List (Int×ai)) (fun ys x ys'=> ∃ q,q∈qF (cV ln ri e tms) b mf mb∧x=OO q∧ys'=ys++[q]) (fun ys=> ∀ q∈qF (cV ln ri e tms) b mf mb,q∈ys):=by
 have K6:e.length≤6:=hw.n
 have LA:tms.length=e.length:=hw.times
 have J7:fs.length=e.length+1:=hfw.len
 have J6:bs.length=e.length+1:=hbw.len
 refine E6 kr Tryz.func186 U U fun l J Z A0 w0 Q hY FS Eq hQ hN=>?_
 try dsimp only
 refine WS fun _ Fd=>wV U U fun b2=>RK Fd<|WS fun _ Fk=>rP 2 [0,1] (mr 10 U (mr 11 U I)) ?_
 refine cX (vJ gw b) (aS) U fun y4 LE=>?_
 obtain ⟨C1,C2⟩:=y4
 try dsimp only
 refine RK Fk<|ax<|jv 4 U (by exact fun _ h=>h)<|jv 6 U (by exact fun _ h=>h)<|jv 8 U (by exact fun _ h=>h)<|jv 14 U (by exact fun _ h=>h) ?_
 refine tY (L0:=[(0,(Value.func (.yield l) #[] #[])),(1,(vP g1)),(2,(vP g2)),(3,(vP b2))]) (F:=[(rd e_A e.length 1 (e.map iC)).ro,(rd t_A tms.length 1 (List.zipWith gK tms tb)).ro,(iH (bK p6 tms tb)).ro,(cy gw 276 (ck.cells (ck.mk ln ri (bj.mk e_A e.length e_C) (bj.mk t_A tms.length t_C) (bj.mk f_A fs.length f_C) (bj.mk b_A bs.length b_C)))).ro,(cy C1 228 [(vP gw)]),(cy C2 3 [(vI (b:Int))])]) (fun k (y:(List (Int×ai))×ay)=>(mg (cV ln ri e tms) b mf mb k y.1)∧(J y.1 y.2)∧(Fo A0 w0 y.2)) (fun k y=>[(cy b2 278 [(Value.func (.yield l) #[] #[])]),y.2,(rd e_A e.length 1 (e.map iC)).ro,(rd t_A tms.length 1 (List.zipWith gK tms tb)).ro,(iH (bK p6 tms tb)).ro,(rd f_A fs.length 1 (List.zipWith gK fs fb)).ro,(iH (bK ny fs fb)).ro,(rd b_A bs.length 1 (List.zipWith gK bs bb)).ro,(iH (bK ny bs bb)).ro,(cy gw 276 (ck.cells (ck.mk ln ri (bj.mk e_A e.length e_C) (bj.mk t_A tms.length t_C) (bj.mk f_A fs.length f_C) (bj.mk b_A bs.length b_C)))).ro,(cy g1 228 [(vP gw)]).ro,(cy g2 3 [(vI (b:Int))]).ro]) (fun c (z:ay)=>(c= .ret∧(Z z)∧(Fo A0 w0 z))) (fun _ z=>[(cy b2 278 [(Value.func (.yield l) #[] #[])]),z,(rd e_A e.length 1 (e.map iC)).ro,(rd t_A tms.length 1 (List.zipWith gK tms tb)).ro,(iH (bK p6 tms tb)).ro,(rd f_A fs.length 1 (List.zipWith gK fs fb)).ro,(iH (bK ny fs fb)).ro,(rd b_A bs.length 1 (List.zipWith gK bs bb)).ro,(iH (bK ny bs bb)).ro,(cy gw 276 (ck.cells (ck.mk ln ri (bj.mk e_A e.length e_C) (bj.mk t_A tms.length t_C) (bj.mk f_A fs.length f_C) (bj.mk b_A bs.length b_C)))).ro,(cy g1 228 [(vP gw)]).ro,(cy g2 3 [(vI (b:Int))]).ro]) [6,7,8,9,10,11,12,13,14,15,16,17] [3,2,1,0,4,5] (([]:List (Int×ai)),A0) rfl rfl (tn ln ri e tms e_A e_C tb t_A t_C f_A fs.length f_C b_A bs.length b_C gw b C1 C2 om om) rfl rfl rfl (by exact ⟨mg.nil,FS,Eq⟩) (by simp only [List.forall_mem_cons,List.not_mem_nil,false_imp_iff,implies_true,and_true]; exact ⟨⟨_,aP (i:=0) rfl,(dM (b_ _))⟩,⟨_,aP (i:=1) rfl,(dM (b_ _))⟩,⟨_,aP (i:=2) rfl,(dM (b_ _))⟩,⟨_,aP (i:=3) rfl,(dM (b_ _))⟩,⟨_,aP (i:=4) rfl,(b_ _)⟩,⟨_,aP (i:=5) rfl,(b_ _)⟩⟩) (by rintro k x k2 ⟨o,_,rfl,_⟩; rfl) rfl (bf rfl) ?_ ?_ ?_ ?_
 rotate_left 1
 ·rintro LV k ⟨ys,A⟩ Ci AU
  obtain ⟨X,Y,a⟩:=AU
  try dsimp only at X Y a
  try dsimp only
  refine aJ ?_
  refine hN _ _ _ (rh 0 U U<|j4 (vs:=[]) trivial fun w hs=>Qx 8 U (by exact mg.fin X Ci) Y a hs)
 ·rintro La id A Cx
  simp at Cx
 ·rintro Li A C0
  obtain ⟨hc,Go,H1⟩:=C0
  try dsimp only
  refine hQ _ _ _ (rh 0 U U<|j4 (vs:=[]) trivial fun w hs=>FB 8 U Go H1 hs)
 rintro k x k2 ⟨ys,A⟩ lr ra rb S w1 K8 Qr9 IO hx AO Fn B3 Jk C3
 obtain ⟨o,ho,rfl,rfl⟩:=hx
 obtain ⟨X,Y,a⟩:=AO
 try dsimp only at X Y a
 try dsimp only
 refine WS fun _ A3=>rP 1 [] I ?_
 refine RK A3<|ao<|AL U eh fun J2=>e7 U cW U<|aC<|j6 (fun _ _ h=>h) (aK [1,0,2,3,4,5,6,7,8,9,10,11,12,13])<|a_ (Fn _ _ ?_)
 refine ax<|ag fun _ A4=>cS cj 7 kr<|kf 1 [] (mr 12 U I) U<|dS (SX (cv U U) U U)<|dP 3 [0,1] (mr 11 U (mr 13 U I)) ?_
 obtain ⟨ga,s⟩:=aA fb b om
 have Ck:(List.zipWith gK fs fb)[b]? =some (gK mf ga):=cG hm1 s
 refine dS (IA b U (av 7 U) oU dc om om)<|dS (gv b 0 (Value.map (some ga)) U bV (av 7 U) Ck U dc U)<|cu<|qu (kV:=eJ) (m:=cT iV mf) 8 U U pP U ⟨⟨(kx eJ ga (cT iV mf)),(bB hm1 s (by simp [ny])),U⟩,fun h=>h⟩ (show g9 _ (kx eJ ga (cT iV mf)).holds from cd 8 U (bB hm1 s (by simp [ny]))) U fun If=>?_
 try dsimp only
 refine RK A4<|ax ?_
 have C:(∀ p∈mf,p∈mf)∧(nZ (cV ln ri e tms) b mf mb o mf ys)∧(mg (cV ln ri e tms) b mf mb k ys)∧(J ys A)∧(Fo A0 w0 A):=by exact ⟨fun p hp=>hp,nZ.start,X,Y,a⟩
 refine bP (ι:={z:FM×(List (Int×ai))×ay // (∀ p∈z.1,p∈mf)∧(nZ (cV ln ri e tms) b mf mb o z.1 z.2.1)∧(mg (cV ln ri e tms) b mf mb k z.2.1)∧(J z.2.1 z.2.2)∧(Fo A0 w0 z.2.2)}) [0,1,2,3,4,5,23] [1,2,3,5,6,7,8,9,10,11,12,13,14] U U (fun z=>[]) (fun z=>[(Dr eJ If ga (cT iV mf) (cT iV z.1.1) none),z.1.2.2]) (fun _=>rfl) (fun _=>rfl) (fun z=>z.1.1.length) ⟨(mf,ys,A),C⟩ (cR.nil _) (aK [1,2,3,5,6,7,8,9,10,11,12,13,14,0,4]) ?_
 clear C
 rintro ⟨⟨left,ys,A⟩,⟨K,M,N,O,P⟩⟩ J15 A1
 try dsimp only at K M N O P
 try dsimp only
 refine WS fun _ j=>oL pA.inj (f:=iV) 13 U U U U (fun Do=>?_) (fun t v hm hn=>?_)
 ·refine rP 1 [] I ?_
  refine RK j<|ag fun _ JJ=>bT U<|bM<|ab<|ab<|aF<|aJ ?_
  exact B3 (ys,A) _ _ (by exact ⟨mg.next N M Do,O,P⟩) (aK [0,2,14,3,4,5,6,7,8,9,10,11,12])
 try dsimp only
 refine bp 1 U<|RK j<|ag fun _ A5=>aL U<|WK A5<|ax<|WS fun _ A6=>rS (SX (oT 13 U U U) U U)<|bp 2 U<|AL U uM fun J3=>e7 U tf U<|bp 1 U<|RK A6<|ag fun _ A7=>cS cj 8 kr<|kf 1 [] (mr 12 U I) U<|dS (SX (cv U U) U U)<|dP 4 [0,1] (mr 11 U (mr 13 U I)) ?_
 obtain ⟨gb,AC⟩:=aA bb (b+1) om
 have Cp:(List.zipWith gK bs bb)[(b+1)]? =some (gK mb gb):=cG hm2 AC
 refine dS (IA (b+1) U (av 9 U) oU dc om om)<|dS (gv (b+1) 0 (Value.map (some gb)) U bV (av 9 U) Cp U dc U)<|cu<|qu (kV:=eJ) (m:=cT iV mb) 10 U U pP U ⟨⟨(kx eJ gb (cT iV mb)),(bB hm2 AC (by simp [ny])),U⟩,fun h=>h⟩ (show g9 _ (kx eJ gb (cT iV mb)).holds from cd 10 U (bB hm2 AC (by simp [ny]))) U fun In=>?_
 try dsimp only
 refine RK A7<|ax ?_
 have C:(∀ p∈mb,p∈mb)∧(nR (cV ln ri e tms) b mb o (t,v) mb ys)∧(nZ (cV ln ri e tms) b mf mb o left ys)∧(mg (cV ln ri e tms) b mf mb k ys)∧(J ys A)∧(Fo A0 w0 A):=by exact ⟨fun p hp=>hp,nR.start,M,N,O,P⟩
 refine bP (ι:={z:FM×(List (Int×ai))×ay // (∀ p∈z.1,p∈mb)∧(nR (cV ln ri e tms) b mb o (t,v) z.1 z.2.1)∧(nZ (cV ln ri e tms) b mf mb o left z.2.1)∧(mg (cV ln ri e tms) b mf mb k z.2.1)∧(J z.2.1 z.2.2)∧(Fo A0 w0 z.2.2)}) [0,1,2,3,4,5,6,7,23,37] [1,2,3,4,5,6,7,8,9,10,11,12,13,14,15] U U (fun z=>[]) (fun z=>[(Dr eJ In gb (cT iV mb) (cT iV z.1.1) none),z.1.2.2]) (fun _=>rfl) (fun _=>rfl) (fun z=>z.1.1.length) ⟨(mb,ys,A),C⟩ (cR.nil _) (aK [1,2,3,4,5,6,7,8,9,10,11,12,13,14,15,0,16]) ?_
 clear C
 rintro ⟨⟨l2,T,A2⟩,⟨B,D,E,G,H,AB⟩⟩ J23 V
 try dsimp only at B D E G H AB
 try dsimp only
 refine WS fun _ r=>oL pA.inj (f:=iV) 15 U U U U (fun EQ=>?_) (fun u z L Ag=>?_)
 ·refine rP 1 [] I ?_
  refine RK r<|ag fun _ Jb=>bT U<|bM<|ab<|ab<|aF<|aJ<|rT 14 U pB U ?_
  refine a_ (A1 ⟨((fz left t),T,A2),⟨m7 K,nZ.next hn hm E D EQ,G,H,AB⟩⟩ _ _ _ U (mY hm) (bf U) (aK [1,2,3,4,5,6,7,8,9,10,11,12,13,14,16]))
 try dsimp only
 refine bp 1 U<|RK r<|ag fun _ A8=>aL U<|WK A8<|ax<|WS fun _ A9=>rS (SX (oT 15 U U U) U U)<|bp 2 U<|AL U uM fun J4=>e7 U tf U<|rP 1 [] I ?_
 refine RK A9<|ag fun _ Ba=>dp cj [17,18] [] [] [0,1,2,3,4,5,6,7,8,9,10,11,12,13,14,15,16,17] [] U U U U U<|eS U (MV U)<|eS U (Vu 13 U bV U)<|eS U (SX (cv U U) U U)<|eS U (FA 10 U eD U)<|eS U (IQ (vS e_A e.length e_C) 12 U bV U U)<|eS U (Vu 14 U bV U) ?_
 obtain ⟨y,hy⟩:=aA e b om
 have IR:=bH iC hy
 refine eS U (IA b U (av 5 U) dI dc om om)<|eS U (gv b 0 (vI y) U bV (av 5 U) IR U dc U) ?_
 have J8:=hw.least y (aP hy)
 have GT:=IV hw _ _ (hfw.mem hm1 (K _ hm))
 have GE:=Lu hw (hbw.mem hm2 (B _ L))
 have J9:=vZ o.1
 have K0:=hw.opt ho
 dsimp only at GT GE
 refine eS U (BI U (oN ⟨om,om⟩))<|eS U (FA 0 U eD U)<|eS U (L1 (vI o.2.Lo) 3 U bV U U)<|eS U (MX U)<|eS U (MV U)<|eS U (FA 1 U eD U)<|eS U (L1 (vI o.2.Hi) 3 U bV U U)<|eS U (MN U)<|eS U (SX (bE (xs:=[(0,.tmp 54),(1,.tmp 58)]) (cs:=(ai.cells (ai.mk (max (v+y) o.2.Lo) (min z o.2.Hi)))) U U (bD g6 U)) U U)<|eg U<|cf U fun T30 B9=>AL U eh fun J5=>aC (B9 _ _ (aK [1,2,3,4,5,6,7,8,9,10,11,12,13,14,15,16,17,18]) ?_)
 refine cf U fun T32 CB=>e7 U cW U<|aC (CB _ _ (aK [1,2,3,4,5,6,7,8,9,10,11,12,13,14,15,16,17,18]) ?_)
 refine e8 U<|KK Ba<|ag fun _ R=>cS cj 19 kr<|dP 6 [] (mc 0 U I) ?_
 refine jm (t:=65) U (aO fun d=>?_) (aN fun d=>?_)
 ·refine kI 3 U<|kI 10 U<|cu<|rP 3 [] I ?_
  refine RK R<|bT U<|cg<|aJ<|rT 17 U pB U ?_
  refine a_ (V ⟨((fz l2 u),T,A2),⟨m7 B,nR.skip Ag L D (by exact HN hy d),E,G,H,AB⟩⟩ _ _ _ U (mY L) (bf U) (aK [2,3,4,5,6,7,8,9,10,11,12,13,14,15,16,17,18]))
 refine dP 3 [0,1,2] (mr 14 U (mc 2 U (mc 1 U I))) ?_
 have K5:(0≤(dR t u).right∧(dR t u).right≤1000)∧0≤(dR t u).fB∧(dR t u).fB≤1000:=by simp only [dR]; omega
 have K4:(0≤(dR (dR t u) (gF o.1)).right∧(dR (dR t u) (gF o.1)).right≤1000)∧0≤(dR (dR t u) (gF o.1)).fB∧(dR (dR t u) (gF o.1)).fB≤1000:=by simp only [dR]; omega
 refine dS (CL (wR t u om om) (aS) U)<|kI 1 U<|dS (CL (H6 o.1) (aS) U)<|dS (CL (wR (dR t u) (gF o.1) asm om) (aS) U)<|dS (CL (OQ ln ri e tms e_A e_C tb t_A t_C fs bs fb f_A f_C bb b_A b_C gw (dR (dR t u) (gF o.1)) asm hsg) (aY [6,7,8,9,10,11,12,13]) U)<|dP 2 [] I ?_
 refine jm (t:=75) U (fun g=>?_) (fun g=>?_)
 ·refine kI 3 U<|cu<|rP 3 [] I ?_
  refine RK R<|bT U<|cg<|aJ<|rT 17 U pB U ?_
  refine a_ (V ⟨((fz l2 u),T,A2),⟨m7 B,nR.skip Ag L D (by exact GZ g),E,G,H,AB⟩⟩ _ _ _ U (mY L) (bf U) (aK [2,3,4,5,6,7,8,9,10,11,12,13,14,15,16,17,18]))
 refine dP 3 [0,1] (mc 5 U (mc 0 U I)) ?_
 refine cu<|x7 (k:=T) (k':=(T++[(o.1,(ai.mk (max (v+y) o.2.Lo) (min z o.2.Hi)))])) 18 (by first|exact IO|exact Nat.le_refl _) hY H AB U U U (by exact ⟨(o.1,_),jF.2 ⟨o,ho,(t,v),K _ hm,(u,z),B _ L,(B8 hy d g)⟩,U,U⟩) U U (fun B34 W AA=>?_) (fun B34 W AA=>?_)
 rotate_left 1
 ·refine rP 2 [] I ?_
  refine RK R<|aL U<|ak ?_
  exact C3 B34 _ _ (by exact ⟨U,W,AA⟩) (aK [3,5,18,6,7,8,9,10,11,12,13,14,15])
 refine rP 2 [] I ?_
 refine RK R<|bT U<|cg<|aJ<|rT 17 U pB U ?_
 refine a_ (V ⟨((fz l2 u),(T++[(o.1,(ai.mk (max (v+y) o.2.Lo) (min z o.2.Hi)))]),B34),⟨m7 B,nR.Uv Ag L D (B8 hy d g),E.app,G.app,W,AA⟩⟩ _ _ _ U (mY L) (bf U) (aK [2,3,4,5,6,7,8,9,10,11,12,13,14,15,16,17,18]))
end
section
open Go.RowKit
theorem ML (l:bq) (kA:OA) (kC:Nat) (az:List RA) (cA:OA) (cC:Nat) (bA:OA) (bC:Nat) (r:cQ) (sgA:OA) (sgC:Nat) (f:Value) (X:ay) (me:Int) (gm:Nat) (hf:Dy Tryz.prog f [] [X] (.int .i64 me)) (hin:ed l az) (hsl:r.aa.length≤1000000):
 lR Tryz.prog 147 [(vA (bW.cells (jx l kA kC cA cC bA bC))),(vA (de.cells (g8 r sgA sgC))),(vS (some ⟨gm,0,none⟩) 1 1)] ((o7 l kA az cA bA)++[(rd sgA r.aa.length 2 (r.aa.map aH.cells)),X,(cy gm 231 [f])]) (fun (x:Bool×Int×Nat×(OA)×Nat×(OA)×Nat×(List Nat)×(List FM)×(List Nat)×(OA)×Nat×(List FM)×(List Nat)×(OA)×Nat)=>bif x.1 then (vT [(Value.pointer (some ⟨x.2.2.1,0,none⟩)),(vI 0)]) else (vT [(Value.pointer none),(vI x.2.1)])) (fun (x:Bool×Int×Nat×(OA)×Nat×(OA)×Nat×(List Nat)×(List FM)×(List Nat)×(OA)×Nat×(List FM)×(List Nat)×(OA)×Nat)=>(x.1=true→(fq l r me=0∧wm (di l r) x.2.2.2.2.2.2.2.2.1∧tP (di l r) x.2.2.2.2.2.2.2.2.2.2.2.2.1∧x.2.2.2.2.2.2.2.2.2.1.length=x.2.2.2.2.2.2.2.2.1.length∧x.2.2.2.2.2.2.2.2.2.2.2.2.2.1.length=x.2.2.2.2.2.2.2.2.2.2.2.2.1.length∧x.2.2.2.2.2.2.2.1.length=(cM l r.aa r.aa.length).length))∧(x.1=false→(x.2.1=fq l r me∧ ¬ fq l r me=0))) (fun (x:Bool×Int×Nat×(OA)×Nat×(OA)×Nat×(List Nat)×(List FM)×(List Nat)×(OA)×Nat×(List FM)×(List Nat)×(OA)×Nat)=>bif x.1 then [(cy x.2.2.1 276 (ck.cells (ck.mk (jx l kA kC cA cC bA bC) (g8 r sgA sgC) (bj.mk x.2.2.2.1 ((cp l l.aj.length).length) x.2.2.2.2.1) (bj.mk x.2.2.2.2.2.1 ((cM l r.aa r.aa.length).length) x.2.2.2.2.2.2.1) (bj.mk x.2.2.2.2.2.2.2.2.2.2.1 x.2.2.2.2.2.2.2.2.1.length x.2.2.2.2.2.2.2.2.2.2.2.1) (bj.mk x.2.2.2.2.2.2.2.2.2.2.2.2.2.2.1 x.2.2.2.2.2.2.2.2.2.2.2.2.1.length x.2.2.2.2.2.2.2.2.2.2.2.2.2.2.2)))),(own x.2.2.2.1 x.2.2.2.2.1 3 1 ((cp l l.aj.length).map iC)),(own x.2.2.2.2.2.1 x.2.2.2.2.2.2.1 123 1 (List.zipWith gK (cM l r.aa r.aa.length) x.2.2.2.2.2.2.2.1)),(bQ (bK p6 (cM l r.aa r.aa.length) x.2.2.2.2.2.2.2.1)),(own x.2.2.2.2.2.2.2.2.2.2.1 x.2.2.2.2.2.2.2.2.2.2.2.1 279 1 (List.zipWith gK x.2.2.2.2.2.2.2.2.1 x.2.2.2.2.2.2.2.2.2.1)),(bQ (bK ny x.2.2.2.2.2.2.2.2.1 x.2.2.2.2.2.2.2.2.2.1)),(own x.2.2.2.2.2.2.2.2.2.2.2.2.2.2.1 x.2.2.2.2.2.2.2.2.2.2.2.2.2.2.2 279 1 (List.zipWith gK x.2.2.2.2.2.2.2.2.2.2.2.2.1 x.2.2.2.2.2.2.2.2.2.2.2.2.2.1)),(bQ (bK ny x.2.2.2.2.2.2.2.2.2.2.2.2.1 x.2.2.2.2.2.2.2.2.2.2.2.2.2.1))] else []):=by
 have UV:=hin.qI
 have T9:=hin.qG
 have T7:=hin.lS
 have T8:=hin.qD
 have UJ:=hin.side
 refine dL kr Tryz.func147 U U fun w0 Q hQ hN=>?_
 try dsimp only
 refine WS fun _ PZ=>dV U fun b2=>dV U fun b3=>bp 2 U<|RK PZ<|ag fun _ Pi=>WS fun _ Pl=>dY 1 [] (mc 1 U I) U<|rS (CL (x8 l kA kC az cA cC bA bC hin) (aY [2,3,4,5]) U)<|bp 1 U<|RK Pl<|WS fun _ QI=>rP 2 [] I ?_
 refine RK QI<|cb U (aX fun h=>?_) (aW fun h=>?_)
 ·refine WS fun _ Qr=>rP 3 [] I ?_
  refine RK Qr<|ak<|LX hQ (false,(e_ l),0,none,0,none,0,[],[],[],none,0,[],[],none,0) [] [] I U (by rfl) U U ?_
  exact o9<|QJ (iQ (r:=r) (me:=me) h) h
 refine WK Pi<|ag fun _ R0=>WS fun _ AO=>?_
 have C:e_ l=0:=h
 obtain ⟨L0,d⟩:=dw C
 have R2:=d.head
 unfold eL at R2
 refine rP 2 [] (mc 0 U I) ?_
 refine e9 (xs:=[.tmp 24]) (cs:=[(vI r.Start)]) U dI kR U U U U (by simp [Value.cells]) U U fun Ne=>?_
 refine rS (CL (dG.eq (iy 0 86400000 ([r.Start]) (some ⟨Ne,0,none⟩) 1 (by (simp; done))) cK) (aw (bo 0 U U (by simp [bX]) U)<|aS) U) ?_
 refine rP 2 [] I ?_
 refine bS (t:=28) U (aX fun Os=>?_) (aW fun Os=>?_)
 ·refine bp 14 U<|RK AO<|aL U<|WS fun _ A5=>rP 2 [] I ?_
  refine RK A5<|ak<|LX hQ (false,51,0,none,0,none,0,[],[],[],none,0,[],[],none,0) [] [] I U (by rfl) U U ?_
  exact o9<|qT (ep (me:=me) C (fun q:fW l r=>by have q1:=q.time; have q2:=q.len; omega))
 refine rP 4 [] (mc 1 U I) ?_
 refine e9 (xs:=[.tmp 32]) (cs:=[(vI r.gL)]) U dI kR U U U U (by simp [Value.cells]) U U fun Nm=>?_
 refine rS (CL (dG.eq (iy r.Start 86400000 ([r.gL]) (some ⟨Nm,0,none⟩) 1 (by (simp; done))) cK) (aw (bo 0 U U (by simp [bX]) U)<|aS) U) ?_
 refine rP 3 [] I ?_
 refine bS (t:=37) U (aX fun O5=>?_) (aW fun O5=>?_)
 ·refine bp 5 U<|RK AO<|aL U<|WS fun _ A6=>rP 2 [] I ?_
  refine RK A6<|ak<|LX hQ (false,51,0,none,0,none,0,[],[],[],none,0,[],[],none,0) [] [] I U (by rfl) U U ?_
  exact o9<|qT (ep (me:=me) C (fun q:fW l r=>by have q1:=q.time; have q2:=q.len; omega))
 refine rP 5 [] (mc 2 U I) ?_
 refine RK AO<|cb U (aN fun PE=>?_) (aO fun PE=>?_)
 ·refine WS fun _ A7=>rP 2 [] I ?_
  refine RK A7<|ak<|LX hQ (false,51,0,none,0,none,0,[],[],[],none,0,[],[],none,0) [] [] I U (by rfl) U U ?_
  exact o9<|qT (ep (me:=me) C (fun q:fW l r=>by have q1:=q.time; have q2:=q.len; omega))
 refine WK R0<|WS fun _ A8=>rS (SX (bE (xs:=[(0,.const (vI (-1)))]) (cs:=(aH.cells (aH.mk (-1) 0))) U U (bD Ov U)) U U)<|AL U BY fun V=>e7 U pE U<|RK A8<|ag fun _ A9=>dp cj [5,6,7,8] [] [] [0,1,2,3,4,5,6,7,8,9,10,11] [] U U U U U<|eS U (LW 4 U bV U U)<|eS U (LW 3 U bV U U)<|eS U (FA 3 U eD U)<|eS U (L1 (vS bA l.aj.length bC) 4 U bV U U)<|eS U (LN U NK)<|eg U<|cf U fun T18 Jk=>?_
 refine sS (n:=l.aj.length) (es:=(List.map oC (List.replicate l.aj.length (none:Option Nat)))) U U U Og om om (by simp only [maxLen]; omega) (by rw [List.map_replicate]; rfl) U fun B=>?_
 try dsimp only
 refine aC (Jk _ _ (aK [1,2,3,4,5,6,7,8,9,10,11,12]) ?_)
 refine cf U fun T20 J2=>rS (SX (bE (xs:=[(0,.tmp 44),(1,.tmp 45),(3,.tmp 49)]) (cs:=(ck.cells (ck.mk (jx l kA kC cA cC bA bC) (g8 r sgA sgC) (bj.mk none 0 0) (bj.mk (some ⟨B,0,none⟩) l.aj.length l.aj.length) (bj.mk none 0 0) (bj.mk none 0 0)))) U U (bD OL U)) U U)<|aC (J2 _ _ (aK [1,2,3,4,5,6,7,8,9,10,11,12]) ?_)
 refine cf U fun T21 J3=>dV U fun AB=>aC (J3 _ _ (aK [2,3,4,5,6,7,8,9,10,11,12,13]) ?_)
 refine cf U fun T23 J4=>rS (AG U)<|aC (J4 _ _ (aK [2,3,4,5,6,7,8,9,10,11,12,13]) ?_)
 refine e8 U<|KK A9<|ag fun _ Ba=>WS fun _ B3=>rP 4 [] (mc 6 U I) ?_
 refine RK B3<|ax ?_
 rw [vk]
 refine fu 3 1<|lx ?_
 have E:(0≤l.aj.length)∧(([]:List Nat).length=0):=by exact ⟨Nat.zero_le _,rfl⟩
 refine bP (ι:={z:Nat×(OA)×Nat×(List Nat) // (z.1≤l.aj.length)∧(z.2.2.2.length=z.1)}) [2,3,4,6,7,9,10,54] [4,7,8,9,10,11,12,13,14,15] U U (fun z=>[(55,(vI (z.1.1:Int)))]) (fun z=>[(bQ (bK p6 (List.replicate z.1.1 ([]:TM)) z.1.2.2.2)),(own z.1.2.1 z.1.2.2.1 3 1 ((cp l z.1.1).map iC)),(cy AB 276 (ck.cells (ck.mk (jx l kA kC cA cC bA bC) (g8 r sgA sgC) (bj.mk z.1.2.1 ((cp l z.1.1).length) z.1.2.2.1) (bj.mk (some ⟨B,0,none⟩) l.aj.length l.aj.length) (bj.mk none 0 0) (bj.mk none 0 0)))),(own (some ⟨B,0,none⟩) l.aj.length 123 1 (List.map oC (dJ z.1.2.2.2 l.aj.length)))]) (fun _=>rfl) (fun _=>rfl) (fun z=>l.aj.length-z.1.1) ⟨(0,none,0,([]:List Nat)),E⟩ (bf U) (aK [4,7,8,9,10,11,12,13,14,15,0,1,2,3]) ?_
 clear E
 rintro ⟨⟨b,a,c,fb⟩,⟨AU,Y⟩⟩ J26 A4
 try dsimp only at AU Y
 try dsimp only
 have R3:(dJ fb l.aj.length).length=l.aj.length:=nH om
 refine WS fun _ B9=>rP 1 [] I ?_
 refine RK B9<|ag fun _ CB=>cb U (aN fun O4=>?_) (aO fun O4=>?_)
 ·refine WK CB<|ag fun _ Ci=>ax<|WS fun _ Ck=>rP 2 [] I ?_
  refine RK Ck<|ag fun _ Cp=>dp cj [12,13,16] [4] [0] [0,1,2,3,4,5,6,7,8,9,10,13] [0,1,2,3,4,5,6,7,8,9,10,11,12,13] U U U U U<|eS U (MV U)<|eS U (MV U)<|eS U (SX (cv U U) U U)<|eS U (FA 10 U eD U)<|fS U (L1 (vS a ((cp l b).length) c) 12 U bV U U)<|eS U (LW 2 U bV U U)<|eS U (MV U)<|eS U (CL (Ij l kA kC az cA cC bA bC (b:Int) hin asm (by exact d.v_) om) (aY [3,4,5,6]) U) ?_
  have Uh:=CE L0 d.v_ b
  have Uv:=d.P3 b om
  simp only [Int.toNat_natCast]
  refine eS U (BI U (sW ⟨om,om⟩))<|eS U (FA 1 U eD U)<|eS U (L1 (vI l.gl) 2 U bV U U) ?_
  refine eS U (CL (IF (1000*(mN l (b:Int).toNat)) l.gl om (by (simp; omega))) (aS) U) ?_
  refine eS U (SX (cv U U) U U)<|eS U (FA 10 U eD U)<|eg U<|g7 U fun T33 J5=>e9 (xs:=[.tmp 69]) (cs:=[(vI (o_ (1000*(mN l (b:Int).toNat)) l.gl))]) U dI kR U U U U (by simp [Value.cells]) U U fun T0=>aC (J5 _ _ (aK [1,2,3,4,5,6,7,8,9,10,11,14]) (aK [1,2,3,4,5,6,7,8,9,10,11,12,13,14]) ?_)
  refine cf U fun T35 J6=>?_
  refine cP (es2:=(List.map iC (cp l (b+1)))) (m':=(cp l (b+1)).length) 12 U U U pg U U (by simp [dy]) (bo (es:=List.map iC [(o_ (1000*(mN l (b:Int).toNat)) l.gl)]) 0 U U (by simp [bX]) U) (jN _) (by have:=dy (l:=l) (n:=b); first|omega|(simp; omega)) (by simp only [maxLen,dy]; omega) (by rw [q9]; simp [eH]) (by simp [dy]) U fun e g=>?_
  try dsimp only
  refine aC (J6 _ _ (aK [1,2,3,4,5,6,7,8,9,10,11,14]) ?_)
  refine cf U fun T38 J7=>hU (vs:=[(vS e ((cp l (b+1)).length) g)]) (cs':=(ck.cells (ck.mk (jx l kA kC cA cC bA bC) (g8 r sgA sgC) (bj.mk e ((cp l (b+1)).length) g) (bj.mk (some ⟨B,0,none⟩) l.aj.length l.aj.length) (bj.mk none 0 0) (bj.mk none 0 0)))) (C':=[_,_,_,_,_,_,_,_,_,_,_,_,_,(cy AB 276 (ck.cells (ck.mk (jx l kA kC cA cC bA bC) (g8 r sgA sgC) (bj.mk e ((cp l (b+1)).length) g) (bj.mk (some ⟨B,0,none⟩) l.aj.length l.aj.length) (bj.mk none 0 0) (bj.mk none 0 0)))),_]) 13 U U U Bs U U U U U U U<|aC (J7 _ _ (aK [1,2,3,4,5,6,7,8,9,10,11,14]) ?_)
  refine e8 U<|KK Cp<|ao<|bp 1 U<|rS (SX (cv U U) U U)<|rP 3 [] (mc 13 U I) ?_
  refine mZ (kV:=iV) U U fun J=>?_
  try dsimp only
  obtain ⟨R7,L3⟩:=aA (dJ fb l.aj.length) b om
  have hx41m:(List.map oC (dJ fb l.aj.length))[b]? =some (oC R7):=by rw [f_,L3]; rfl
  refine rS (IA b U (ar (n:=l.aj.length) 15 U sq) x3 dc om om) ?_
  have J8:((dJ fb l.aj.length).set b (some J))=(dJ (fb++[J]) l.aj.length):=by exact sw om om
  refine eo (k:=b) (o:=0) (vs:=[(Value.map (some J))]) (es':=(List.map oC (dJ (fb++[J]) l.aj.length))) (C':=[_,_,_,_,_,_,_,_,_,_,_,_,_,_,_,(own (some ⟨B,0,none⟩) l.aj.length 123 1 (List.map oC (dJ (fb++[J]) l.aj.length)))]) 15 U U U F_ U U U U hx41m U dc (by exact (List.map_set (f:=oC) (l:=(dJ fb l.aj.length)) (i:=b) (a:=(some J))).symm.trans (congrArg _ J8)) U<|aC<|aJ<|KK Ci<|ao<|rP 2 [] I ?_
  refine aC<|yS (X':=bK p6 (List.replicate (b+1) ([]:TM)) (fb++[J])) 12 0 U U (FP Y) ?_
  try dsimp only
  have J9:(vI (((b+1):Nat):Int))=(vI ((b:Int)+1)):=by exact cI om
  refine a_ (A4 ⟨((b+1),e,g,(fb++[J])),⟨om,by simp; omega⟩⟩ _ _ _ U os (cz 8<|aU U J9<|cR.nil _) (aK [2,3,4,5,6,7,8,9,10,11,0,12,13,14]))
 refine bM<|ab<|ab<|aF<|KK Ba<|ag fun _ Cx=>WS fun _ C0=>rP 4 [] (mc 1 U I) ?_
 refine RK C0<|ax ?_
 rw [show (List.replicate b ([]:TM))=cM l r.aa 0 from by rw [xS,show b=l.aj.length by omega]]
 rw [show cp l b=cp l l.aj.length from by rw [show b=l.aj.length by omega]]
 have E:(0≤r.aa.length)∧(o1 l r.aa 0):=by exact ⟨Nat.zero_le _,v9⟩
 refine bP (ι:={z:Nat // (z≤r.aa.length)∧(o1 l r.aa z)}) [2,3,4,6,7,9,10,83,84] [1,2,3,4,5,6,7,8,9,11,12,13] U U (fun z=>[(85,(vI (z.1:Int)))]) (fun z=>[(cy V 113 (aH.cells (mj r.aa z.1))),(bQ (bK p6 (cM l r.aa z.1) fb))]) (fun _=>rfl) (fun _=>rfl) (fun z=>r.aa.length-z.1) ⟨0,E⟩ (bf U) (aK [1,2,3,4,5,6,7,8,9,11,12,13,0,10]) ?_
 clear E
 rintro ⟨i,⟨NE,A⟩⟩ J46 T
 try dsimp only
 have R4:(cM l r.aa i).length=l.aj.length:=gW
 have R3:(dJ fb l.aj.length).length=l.aj.length:=nH om
 refine WS fun _ C1=>rP 1 [] I ?_
 refine RK C1<|ag fun _ C2=>bO U (aO fun PP=>?_) (aN fun PP=>?_)
 ·refine bM<|ab<|ab<|aF<|KK Cx<|ag fun _ GE=>ag fun _ GT=>?_
  have j:fW l r:=xz om om A om
  refine ao<|bp 3 U<|RK GT<|ax<|rL 2<|lf fun R81 Jb=>WS fun _ Go=>rS (SX (eQ (r:= .bool true) U U U qE) U U)<|RK Go<|ag fun _ Hi=>aL U<|WK Hi<|ag fun _ H1=>ax<|WS fun _ IO=>rS (VG 0 0 U OM U dc U)<|dY 2 [] (mr 8 U I) U<|RK IO<|WS fun _ IR=>bp 1 U<|rS (SX (pX U U U (hf) (aY [7])) U U)<|bp 1 U<|RK IR<|WS fun _ Id=>rP 2 [] I ?_
  refine RK Id<|cb U (aX fun K=>?_) (aW fun K=>?_)
  ·refine WS fun _ If=>rP 3 [] I ?_
   refine RK If<|ak<|LX hQ (false,me,0,none,0,none,0,[],[],[],none,0,[],[],none,0) [] [] I U (by rfl) U U ?_
   exact o9<|QJ (lO C j K) K
  refine cg<|aJ<|KK H1<|ao<|rS (SX (eQ (r:= .int .i64 1) U U U (oN ⟨dc,dc⟩)) U U)<|rP 1 [] I ?_
  refine RK Jb<|lf fun R89 Sz=>WS fun _ In=>rS (SX (eQ (r:= .bool false) U U U qE) U U)<|RK In<|ag fun _ ST=>bT U<|bM<|ab<|ab<|aF<|KK GE<|ag fun _ JJ=>?_
  rw [show cM l r.aa i=cM l r.aa r.aa.length from by rw [show i=r.aa.length by omega]]
  have Ax:(cM l r.aa r.aa.length).length=l.aj.length:=gW
  rw [show (List.map oC (dJ fb l.aj.length))=(List.zipWith gK (cM l r.aa r.aa.length) fb) from Tv om Ax]
  rw [show (cy AB 276 (ck.cells (ck.mk (jx l kA kC cA cC bA bC) (g8 r sgA sgC) (bj.mk a ((cp l l.aj.length).length) c) (bj.mk (some ⟨B,0,none⟩) l.aj.length l.aj.length) (bj.mk none 0 0) (bj.mk none 0 0))))=(cy AB 276 (ck.cells (ck.mk (jx l kA kC cA cC bA bC) (g8 r sgA sgC) (bj.mk a ((cp l l.aj.length).length) c) (bj.mk (some ⟨B,0,none⟩) ((cM l r.aa r.aa.length).length) l.aj.length) (bj.mk none 0 0) (bj.mk none 0 0)))) from by rw [Ax]]
  have L2:=mT L0 d j
  have S1:(cp l l.aj.length).length=l.aj.length:=dy
  refine ao<|rP 1 [] I ?_
  refine oS 10 U U U U (Ct (jx l kA kC cA cC bA bC) (g8 r sgA sgC) (cp l l.aj.length) (cM l r.aa r.aa.length) a c fb (some ⟨B,0,none⟩) l.aj.length AB (by exact L2) (by exact dy.symm) (by rw [Ax]; omega)) U (eE 9 U U (jH sm) (eE 11 U U (jH (by rw [List.length_zipWith]; omega)) (eE 13 U U q7 re))) U (fun Mg R1=>?_)
  obtain ⟨G,S,P,R,F,O,N,H⟩:=Mg
  refine FX (X:=[(cy AB 276 (ck.cells (ck.mk (jx l kA kC cA cC bA bC) (g8 r sgA sgC) (bj.mk a ((cp l l.aj.length).length) c) (bj.mk (some ⟨B,0,none⟩) ((cM l r.aa r.aa.length).length) l.aj.length) (bj.mk P G.length R) (bj.mk N F.length H)))),(own P R 279 1 (List.zipWith gK G S)),(bQ (bK ny G S)),(own N H 279 1 (List.zipWith gK F O)),(bQ (bK ny F O))]) 10 U U ?_
  try dsimp only
  obtain ⟨Ag,Li,Lk,Lo⟩:=R1
  dsimp only at Ag Li Lk Lo
  refine RK JJ<|ag fun _ v=>WS fun _ w=>rP 1 [] I ?_
  refine cX (vU (jx l kA kC cA cC bA bC) (g8 r sgA sgC) (cp l l.aj.length) (cM l r.aa r.aa.length) a c fb (some ⟨B,0,none⟩) l.aj.length G F S P R O N H AB (by exact L2) (by (simp; omega)) (by exact dy.symm) (by exact Ag) asm) (aw (ar (n:=(cp l l.aj.length).length) 14 U sm)<|aw (ar (n:=(cM l r.aa r.aa.length).length) 15 U (by rw [List.length_zipWith]; omega))<|aw (eO 17 U l4)<|aw (ar (n:=G.length) 1 U (by rw [List.length_zipWith]; omega))<|aw (eO 2 U l4)<|aw (ar (n:=F.length) 3 U (by rw [List.length_zipWith]; omega))<|aw (eO 4 U l4)<|eG 0 U U<|aS) U fun M2 R6=>?_
  obtain ⟨R8,R9⟩:=M2
  try dsimp only
  refine rP 2 [] I ?_
  refine RK w<|bO U (aO fun W=>?_) (aN fun W=>?_)
  ·refine WK v<|WS fun _ AC=>rP 3 [] I ?_
   refine RK AC<|ak ?_
   refine LX hQ (true,0,AB,a,c,(some ⟨B,0,none⟩),l.aj.length,fb,G,S,P,R,F,O,N,H) [1,15,16,18,2,3,4,5] [] I U (by (show List.all _ _=true; simp only [cond_true,fV,List.all_nil,Gf,OB,Bool.and_true]; rfl)) U U ?_
   exact ⟨fun _=>⟨vC C j (by first|rfl|exact K) (fun q=>W (congrArg (fun z:List Int=>(z.length:Int)) q)),Ag,Li,Lk,Lo,dso⟩,Oj⟩
  refine WS fun _ y=>rP 2 [] I ?_
  refine RK y<|ak<|LX hQ (false,8,0,none,0,none,0,[],[],[],none,0,[],[],none,0) [] [] I U (by rfl) U U ?_
  exact o9<|qT (tJ (me:=me) C j (by first|rfl|exact K) (show lY (di l r)=[] from kE (Int.natCast_eq_zero.1 W)))
 refine WK C2<|ag fun _ AA=>ax<|WS fun _ C3=>rP 1 [] I ?_
 obtain ⟨x,hx⟩:=aA r.aa i om
 have R5:=bH aH.cells hx
 refine rS (IA i U (av 6 U) wG dc om om)<|rS (jL i 0 (aH.cells x) U bV (av 6 U) R5 U dc U U)<|AL U BY fun T4=>bp 1 U<|e7 U pE U<|RK C3<|ag fun _ p=>WS fun _ L=>rP 6 [0,1] (mc 2 U (mc 0 U I)) ?_
 refine e9 (xs:=[.tmp 95]) (cs:=[(vI x.fI)]) U dI kR U U U U (by simp [Value.cells]) U U fun Op=>?_
 refine rS (CL (dG.eq (iy 0 ((l.aj.length:Int)-1) ([x.fI]) (some ⟨Op,0,none⟩) 1 (by (simp; done))) cK) (aw (bo 0 U U (by simp [bX]) U)<|aS) U) ?_
 refine rP 2 [] I ?_
 refine bS (t:=99) U (aX fun PV=>?_) (aW fun PV=>?_)
 ·refine bp 27 U<|RK L<|aL U<|WS fun _ Di=>rP 2 [] I ?_
  refine RK Di<|ak<|LX hQ (false,51,0,none,0,none,0,[],[],[],none,0,[],[],none,0) [] [] I U (by rfl) U U ?_
  exact o9<|qT (ep (me:=me) C (ox hx (by unfold jB j2; omega)))
 refine rP 2 [] (mc 1 U I) ?_
 refine e9 (xs:=[.tmp 101]) (cs:=[(vI x.Read)]) U dI kR U U U U (by simp [Value.cells]) U U fun Or=>?_
 refine rS (CL (dG.eq (iy 0 86400000 ([x.Read]) (some ⟨Or,0,none⟩) 1 (by (simp; done))) cK) (aw (bo 0 U U (by simp [bX]) U)<|aS) U) ?_
 refine rP 3 [] I ?_
 refine bS (t:=106) U (aX fun A0=>?_) (aW fun A0=>?_)
 ·refine bp 20 U<|RK L<|aL U<|WS fun _ Do=>rP 2 [] I ?_
  refine RK Do<|ak<|LX hQ (false,51,0,none,0,none,0,[],[],[],none,0,[],[],none,0) [] [] I U (by rfl) U U ?_
  exact o9<|qT (ep (me:=me) C (ox hx (by unfold jB j2; omega)))
 refine rP 7 [0,1] (mc 2 U (mc 15 U I)) ?_
 refine bS (t:=113) U (aN fun A1=>?_) (aO fun A1=>?_)
 ·refine bp 13 U<|RK L<|aL U<|WS fun _ EQ=>rP 2 [] I ?_
  refine RK EQ<|ak<|LX hQ (false,51,0,none,0,none,0,[],[],[],none,0,[],[],none,0) [] [] I U (by rfl) U U ?_
  exact o9<|qT (ep (me:=me) C (ox hx (by unfold jB j2; omega)))
 refine rP 6 [0,1] (mc 2 U (mc 15 U I)) ?_
 refine cx (t:=119) U (aO fun A2=>?_) (aN fun A2=>?_)
 ·refine bp 7 U<|RK L<|bT U<|WK p<|ag fun _ u=>WS fun _ Fk=>dY 2 [0,1] (mc 4 U (mc 2 U I)) U<|rS (CL (AJ l kA kC az cA cC bA bC x hin asm om) (aY [5,6,7,8]) U)<|AL U eh fun T6=>e7 U cW U<|RK Fk<|WS fun _ Fn=>rP 5 [] (mc 0 U I) ?_
  refine RK Fn<|bO U (aO fun D=>?_) (aN fun D=>?_)
  ·refine WK u<|ao<|rP 1 [] (mc 3 U I) ?_
   refine hU (vs:=(aH.cells x)) (cs':=(aH.cells x)) (C':=[_,_,_,_,_,_,_,_,_,_,_,_,_,_,_,_,(cy V 113 (aH.cells x)),_]) 16 U U U pE U U U U U U U<|aC<|aJ<|KK AA ?_
   have LE:(aH.cells x)=(aH.cells (mj r.aa (i+1))):=by rw [kg hx]
   rw [LE]
   refine ao<|rP 2 [] I ?_
   refine aC ?_
   rw [show (cM l r.aa i)=(cM l r.aa (i+1)) from (qn hx D).symm]
   have LT:(vI (((i+1):Nat):Int))=(vI ((i:Int)+1)):=by exact cI om
   refine a_ (T ⟨(i+1),⟨om,jC A hx (by unfold jB j2; omega)⟩⟩ _ _ _ U os (cz 9<|aU U LT<|cR.nil _) (aK [4,5,6,7,8,9,10,11,12,13,14,15,16,17]))
  obtain ⟨mb,Z⟩:=aA (cM l r.aa i) ((x.fI).toNat) om
  obtain ⟨ga,M⟩:=aA fb ((x.fI).toNat) om
  refine zV 17 Z M U U U ?_
  try dsimp only
  refine cS cj 10 kr<|kI 1 U<|dS (SX (cv U U) U U)<|dP 4 [0,1] (mc 16 U (mc 5 U I)) ?_
  have La:(List.map oC (dJ fb l.aj.length))[(x.fI).toNat]? =some (oC (some ga)):=qO (m_ M)
  refine dS (IA ((x.fI).toNat) U (ar (n:=l.aj.length) 17 U sq) x3 dc om om) ?_
  refine dS (gv ((x.fI).toNat) 0 (Value.map (some ga)) U bV (ar (n:=(dJ fb l.aj.length).length) 17 U sm) La U dc U)<|kf 2 [] (mc 2 U I) U<|cu<|je (kV:=iV) (x:=(i:Int)) (C':=[(kx iV ga (cT j5 (eC mb (i:Int) (dq l x)))),_,_,_,_,_,_,_,_,_,_,_,_,_,_,_,_,_,_]) 0 U U U U sZ (iW oV) U (gX _ _ _ _).symm U<|RK u<|ao<|rP 1 [] (mc 5 U I) ?_
  refine hU (vs:=(aH.cells x)) (cs':=(aH.cells x)) (C':=[_,_,_,_,_,_,_,_,_,_,_,_,_,_,_,_,_,_,(cy V 113 (aH.cells x))]) 18 U U U pE U U U U U U U<|aC<|aJ<|KK AA ?_
  have K8:(aH.cells x)=(aH.cells (mj r.aa (i+1))):=by rw [kg hx]
  rw [K8]
  refine ao<|rP 2 [] I ?_
  refine aC ?_
  refine AW (f:=p6) (ms:=(cM l r.aa i)) (m:=(eC mb (i:Int) (dq l x))) 1 0 (by rw [gW]; omega) M U U U ?_
  rw [sG hx om D Z]
  have LA:(vI (((i+1):Nat):Int))=(vI ((i:Int)+1)):=by exact cI om
  refine a_ (T ⟨(i+1),⟨om,jC A hx (by unfold jB j2; omega)⟩⟩ _ _ _ U os (cz 9<|aU U LA<|cR.nil _) (aK [5,6,7,8,9,10,11,12,13,14,15,16,17,0]))
 refine rP 7 [0,1] (mc 2 U (mc 15 U I)) ?_
 refine RK L<|cb U (aN fun A3=>?_) (aO fun A3=>?_)
 ·refine WS fun _ Eq=>rP 2 [] I ?_
  refine RK Eq<|ak<|LX hQ (false,51,0,none,0,none,0,[],[],[],none,0,[],[],none,0) [] [] I U (by rfl) U U ?_
  exact o9<|qT (ep (me:=me) C (ox hx (by unfold jB j2; omega)))
 refine WK p<|ag fun _ s=>WS fun _ FS=>dY 2 [0,1] (mc 4 U (mc 2 U I)) U<|rS (CL (AJ l kA kC az cA cC bA bC x hin asm om) (aY [5,6,7,8]) U)<|AL U eh fun T5=>e7 U cW U<|RK FS<|WS fun _ Fd=>rP 5 [] (mc 0 U I) ?_
 refine RK Fd<|bO U (aO fun D=>?_) (aN fun D=>?_)
 ·refine WK s<|ao<|rP 1 [] (mc 3 U I) ?_
  refine hU (vs:=(aH.cells x)) (cs':=(aH.cells x)) (C':=[_,_,_,_,_,_,_,_,_,_,_,_,_,_,_,_,(cy V 113 (aH.cells x)),_]) 16 U U U pE U U U U U U U<|aC<|aJ<|KK AA ?_
  have K5:(aH.cells x)=(aH.cells (mj r.aa (i+1))):=by rw [kg hx]
  rw [K5]
  refine ao<|rP 2 [] I ?_
  refine aC ?_
  rw [show (cM l r.aa i)=(cM l r.aa (i+1)) from (qn hx D).symm]
  have K6:(vI (((i+1):Nat):Int))=(vI ((i:Int)+1)):=by exact cI om
  refine a_ (T ⟨(i+1),⟨om,jC A hx (by unfold jB j2; omega)⟩⟩ _ _ _ U os (cz 9<|aU U K6<|cR.nil _) (aK [4,5,6,7,8,9,10,11,12,13,14,15,16,17]))
 obtain ⟨mb,Z⟩:=aA (cM l r.aa i) ((x.fI).toNat) om
 obtain ⟨ga,M⟩:=aA fb ((x.fI).toNat) om
 refine zV 17 Z M U U U ?_
 try dsimp only
 refine cS cj 10 kr<|kI 1 U<|dS (SX (cv U U) U U)<|dP 4 [0,1] (mc 16 U (mc 5 U I)) ?_
 have LV:(List.map oC (dJ fb l.aj.length))[(x.fI).toNat]? =some (oC (some ga)):=qO (m_ M)
 refine dS (IA ((x.fI).toNat) U (ar (n:=l.aj.length) 17 U sq) x3 dc om om) ?_
 refine dS (gv ((x.fI).toNat) 0 (Value.map (some ga)) U bV (ar (n:=(dJ fb l.aj.length).length) 17 U sm) LV U dc U)<|kf 2 [] (mc 2 U I) U<|cu<|je (kV:=iV) (x:=(i:Int)) (C':=[(kx iV ga (cT j5 (eC mb (i:Int) (dq l x)))),_,_,_,_,_,_,_,_,_,_,_,_,_,_,_,_,_,_]) 0 U U U U sZ (iW oV) U (gX _ _ _ _).symm U<|RK s<|ao<|rP 1 [] (mc 5 U I) ?_
 refine hU (vs:=(aH.cells x)) (cs':=(aH.cells x)) (C':=[_,_,_,_,_,_,_,_,_,_,_,_,_,_,_,_,_,_,(cy V 113 (aH.cells x))]) 18 U U U pE U U U U U U U<|aC<|aJ<|KK AA ?_
 have K0:(aH.cells x)=(aH.cells (mj r.aa (i+1))):=by rw [kg hx]
 rw [K0]
 refine ao<|rP 2 [] I ?_
 refine aC ?_
 refine AW (f:=p6) (ms:=(cM l r.aa i)) (m:=(eC mb (i:Int) (dq l x))) 1 0 (by rw [gW]; omega) M U U U ?_
 rw [sG hx om D Z]
 have K4:(vI (((i+1):Nat):Int))=(vI ((i:Int)+1)):=by exact cI om
 refine a_ (T ⟨(i+1),⟨om,jC A hx (by unfold jB j2; omega)⟩⟩ _ _ _ U os (cz 9<|aU U K4<|cR.nil _) (aK [5,6,7,8,9,10,11,12,13,14,15,16,17,0]))
end
section
open Go.RowKit
theorem Ca (l:bq) (kA:OA) (kC:Nat) (az:List RA) (cA:OA) (cC:Nat) (bA:OA) (bC:Nat) (r:cQ) (sgA:OA) (sgC:Nat) (bq_:Int) (hin:ed l az) (hsl:r.aa.length≤1000000):
 dG Tryz.prog 120 [(vA (bW.cells (jx l kA kC cA cC bA bC))),(vA (de.cells (g8 r sgA sgC))),(vI bq_)] ((o7 l kA az cA bA)++[(rd sgA r.aa.length 2 (r.aa.map aH.cells))]) (vT [(vA (ai.cells (dD l r bq_))),(vI (eA l r bq_))]):=by
 have J8:=hin.qI
 have Jk:=hin.qG
 have Id:=hin.lS
 have JJ:=hin.qD
 have J6:=hin.side
 refine bG kr Tryz.func120 U U fun w0 Q hQ hN=>?_
 try dsimp only
 refine WS fun _ A0=>dV U fun b2=>dV U fun b3=>wV U U fun b4=>AL U eh fun b5=>bp 1 U<|RK A0<|WS fun _ p=>rP 2 [0,1] (mc 3 U (mc 2 U I)) ?_
 refine rS (FU U)<|e9 (xs:=[.tmp 17]) (cs:=[(Value.func (.func 148) [].toArray [(vP b2),(vP b4)].toArray)]) U OM Sf U U U U (by simp [Value.cells]) U U fun b7=>cX (ML l kA kC az cA cC bA bC r sgA sgC (Value.func (.func 148) [].toArray [(vP b2),(vP b4)].toArray) (iH [(rd kA l.bL.length 9 (l.bL.map aD.cells)),(rd cA l.aG.length 2 (List.zipWith aT.cells l.aG az)),(iH (bK aT.jU l.aG az)),(rd bA l.aj.length 4 (l.aj.map cO.cells)),(cy b2 28 (bW.cells (jx l kA kC cA cC bA bC))),(cy b4 3 [(vI bq_)])]) (fQ l bq_) b7 (by exact lp (fi:=[]) (ca:=[(vP b2),(vP b4)]) (j8 (DC l kA kC az cA cC bA bC b2 bq_ b4 (by first|assumption|omega)) (aY [0,1,2,3,4,5]))) hin hsl) (mJ [5,6,7,8,9]<|aw (j7 (aY [5,6,7,8,4,2]))<|eG 0 U U<|aS) U fun y8 Cp=>?_
 obtain ⟨Cx,GT,E,H,AB,g,j,m,B,L,J,K,A,G,d,f⟩:=y8
 cases Cx
 ·obtain ⟨B9,he⟩:=Cp.2 rfl
  try dsimp only at B9 he
  subst B9
  try dsimp only [cond_true,cond_false,List.cons_append,List.nil_append]
  refine bp 5 U<|RK p<|ag fun _ Go=>WS fun _ A8=>rP 2 [] I ?_
  refine RK A8<|bO U (aW fun A7=>?_) (aX fun A7=>?_)
  ·exact absurd A7 he
  refine WS fun _ A9=>rS (SX (bE (xs:=[]) (cs:=(ai.cells (ai.mk 0 0))) U U (bD g6 U)) U U)<|bp 1 U<|pV U cW U<|rP 1 [] I ?_
  refine RK A9<|ak<|mh hQ [0] (mc 1 U I) U ?_
  (have e:=dK (b:=bq_) he; rw [e.1,e.2]<;>rfl)
 obtain ⟨he,D,C,C3,C2,EQ⟩:=Cp.1 rfl
 try dsimp only [cond_true,cond_false,List.cons_append,List.nil_append]
 dsimp only at D C C3 C2 EQ
 obtain ⟨C1,A4,Do,J3⟩:=iD he
 obtain ⟨Eq,Ci⟩:=dw C1
 have Di:=Ci.head
 unfold eL at Di
 have FS:=mT Eq Ci A4
 have J5:=A4.time
 have J4:=A4.len
 have CB:(cp l l.aj.length).length=l.aj.length:=dy
 have Ck:(cM l r.aa r.aa.length).length=l.aj.length:=gW
 have J2:B.length=l.aj.length+1:=by have:=D.len; rw [show (di l r).n=l.aj.length from dy] at this; exact this
 have Jb:A.length=l.aj.length+1:=by have:=C.len; rw [show (di l r).n=l.aj.length from dy] at this; exact this
 obtain ⟨If,In⟩:=DU Do
 obtain ⟨b,A1⟩: ∃ b:Nat,bq_=(b:Int):=⟨bq_.toNat,om⟩
 rw [A1]
 refine bp 5 U<|RK p<|ag fun _ N=>WS fun _ O=>bp 1 U<|rS (SX (eQ (r:= .bool false) U U U s7) U U)<|RK O<|bT U<|WK N<|WS fun _ P=>rS (SX (bE (xs:=[(0,.const (vI 1))]) (cs:=(ai.cells (ai.mk 1 0))) U U (bD g6 U)) U U)<|AL U eh fun A5=>e7 U cW U<|RK P<|WS fun _ R=>dY 1 [] (mc 0 U I) U<|AL U eh fun A6=>e7 U cW U<|RK R<|ag fun _ T=>WS fun _ AA=>rP 2 [] (mc 12 U I) ?_
 obtain ⟨mf,Y⟩:=aA B b om
 obtain ⟨mb,Z⟩:=aA A (b+1) om
 refine cX (Il E b) (aS) U fun Fk H1=>?_
 obtain ⟨AC,AO⟩:=Fk
 try dsimp only
 refine RK AA<|ax ?_
 refine tY (L0:=[(3,(vP b2)),(4,(vP b3)),(5,(vP b4)),(6,(vP b5)),(7,(vI 0)),(10,(vP A5)),(11,(vP A6))]) (F:=[(own H AB 3 1 ((cp l l.aj.length).map iC)),(own g j 123 1 (List.zipWith gK (cM l r.aa r.aa.length) m)),(bQ (bK p6 (cM l r.aa r.aa.length) m)),(own J K 279 1 (List.zipWith gK B L)),(bQ (bK ny B L)),(own d f 279 1 (List.zipWith gK A G)),(bQ (bK ny A G)),(cy E 276 (ck.cells (ck.mk (jx l kA kC cA cC bA bC) (g8 r sgA sgC) (bj.mk H ((cp l l.aj.length).length) AB) (bj.mk g ((cM l r.aa r.aa.length).length) j) (bj.mk J B.length K) (bj.mk d A.length f)))),(cy AC 228 [(vP E)]),(cy AO 3 [(vI (b:Int))])]) (fun k (y:ai)=>(kM k y)∧(∀ q∈k,q∈qF (di l r) b mf mb)) (fun k y=>[(cy A6 38 (ai.cells y)),(cy A5 38 (ai.cells (ai.mk 1 0))),(cy b5 38 (ai.cells (ai.mk 0 0))),(cy b4 3 [(vI (b:Int))]),(cy b3 41 (de.cells (g8 r sgA sgC))),(cy b2 28 (bW.cells (jx l kA kC cA cC bA bC))),(rd kA l.bL.length 9 (l.bL.map aD.cells)).ro,(rd cA l.aG.length 2 (List.zipWith aT.cells l.aG az)).ro,(iH (bK aT.jU l.aG az)).ro,(rd bA l.aj.length 4 (l.aj.map cO.cells)).ro,(rd sgA r.aa.length 2 (r.aa.map aH.cells)).ro]) (fun _ (_:Unit)=>False) (fun _ _=>[]) [2,3,13,14,15,16,17,18,19,20,21] [5,6,7,8,9,10,11,4,0,1] nv rfl rfl (Ho (jx l kA kC cA cC bA bC) (g8 r sgA sgC) (cp l l.aj.length) (cM l r.aa r.aa.length) H AB m g j B A L J K G d f E b AC AO mf mb (by rw [CB]; omega) (by exact FS) (by rw [Ck]; omega) (by exact D) om (by exact C) om (by show r.aa.length≤1000; omega) (by exact Y) (by exact Z)) rfl rfl rfl (by exact ⟨C8,fun q hq=>by cases hq⟩) (by simp only [List.forall_mem_cons,List.not_mem_nil,false_imp_iff,implies_true,and_true]; exact ⟨⟨_,aP (i:=0) rfl,(jH sm)⟩,⟨_,aP (i:=1) rfl,(jH (by rw [List.length_zipWith]; omega))⟩,⟨_,aP (i:=2) rfl,q7⟩,⟨_,aP (i:=3) rfl,(jH (by rw [List.length_zipWith]; omega))⟩,⟨_,aP (i:=4) rfl,q7⟩,⟨_,aP (i:=5) rfl,(jH (by rw [List.length_zipWith]; omega))⟩,⟨_,aP (i:=6) rfl,q7⟩,⟨_,aP (i:=7) rfl,(b_ _)⟩,⟨_,aP (i:=8) rfl,(b_ _)⟩,⟨_,aP (i:=9) rfl,(b_ _)⟩⟩) (by rintro k x k2 ⟨o,_,rfl,_⟩; rfl) rfl (bf rfl) ?_ ?_ (fun _ _ _ h=>h.elim) (fun _ _ h=>h.elim)
 ·rintro k x k2 h lr ra rb S w1 K41 Qr42 J7 hx A2 Ba X Fd Fn
  obtain ⟨q,hq,rfl,rfl⟩:=hx
  obtain ⟨a,c⟩:=A2
  try dsimp only
  refine ao<|AL U eh fun IO=>e7 U cW U<|aC<|j6 (fun _ _ h=>h) (aK [1,0,2,3,4,5,6,7,8,9,10,11,12])<|a_ (Ba _ _ ?_)
  refine ax<|ag fun _ s=>WS fun _ B3=>rP 2 [0,1] (mc 2 U (mc 3 U I)) ?_
  refine rS (BI U (Q6 _ _ h (ai.mk 1 0)))<|RK B3<|bO U (aW fun M=>?_) (aX fun M=>?_)
  ·refine WK s<|ao<|rP 1 [] (mc 1 U I) ?_
   refine CT U cW U<|aC<|aJ ?_
   exact X q.2 _ _ (by refine ⟨zN a (oK hq) ?_,fun z hz=>?_⟩; (first|exact if_neg M|exact if_pos M); (rcases gQ.1 hz with hz|hz; exact c z hz; (rw [cH.1 hz]; exact hq))) (aK [0,2,3,4,5,6,7,8,9,10,11,12])
  refine ao<|dY 4 [0,1] (mc 1 U (mc 2 U I)) U<|rS (MN U)<|dY 4 [0,1] (mc 1 U (mc 2 U I)) U<|rS (MX U)<|rS (SX (bE (xs:=[(0,.tmp 40),(1,.tmp 45)]) (cs:=(ai.cells (ai.mk (min q.2.Lo h.Lo) (max q.2.Hi h.Hi)))) U U (bD g6 U)) U U)<|pV U cW U<|RK s<|ao<|rP 1 [] (mc 1 U I) ?_
  refine CT U cW U<|aC<|aJ ?_
  exact X (ai.mk (min q.2.Lo h.Lo) (max q.2.Hi h.Hi)) _ _ (by refine ⟨zN a (oK hq) ?_,fun z hz=>?_⟩; (first|exact if_neg M|exact if_pos M); (rcases gQ.1 hz with hz|hz; exact c z hz; (rw [cH.1 hz]; exact hq))) (aK [0,2,3,4,5,6,7,8,9,10,11,12])
 rintro K0 k h v A3
 obtain ⟨a,c⟩:=A3
 try dsimp only
 refine aJ<|KK T<|ag fun _ V=>WS fun _ W=>rP 2 [0,1] (mc 11 U (mc 12 U I)) ?_
 refine rS (BI U (wF _ _ h (ai.mk 1 0)))<|RK W<|bO U (aO fun Ax=>?_) (aN fun Ax=>?_)
 ·refine WK V<|WS fun _ u=>dY 1 [] (mc 11 U I) U<|hU (vs:=(ai.cells h)) (cs':=(ai.cells h)) (C':=[_,_,_,_,_,_,_,_,_,_,_,_,_,(cy b5 38 (ai.cells h)),_,_,_,_,_,_,_,_]) 13 U U U cW U U U U U U U<|rP 1 [] I ?_
  refine RK u<|ak<|hQ _ _ _ (rh 0 U U<|j4 (vs:=[(vA (ai.cells h)),(vI 0)]) ⟨⟨_,U,.inl ⟨_,_,bV,qt (vs:=(ai.cells h)) 13 U U,U,U⟩⟩,U,trivial⟩ fun w hs=>Cs ?_ hs)
  show (vT [(vA (ai.cells h)),(vI 0)])=(vT [(vA (ai.cells (dD l r bq_))),(vI (eA l r bq_))])
  clear hs w hQ hN u W V AA T R P O N p A0
  (rw [A1] at he ⊢; have hh:h=n7 l r b:=zG (D.min _ _ Y) (C.max _ _ Z) (D.keys _ _ Y) (C.keys _ _ Z) c v a; (have e:=rJ he (fun q=>Ax (hh.trans q)); rw [e.1,e.2,hh]<;>rfl))
 refine WS fun _ t=>rS (SX (bE (xs:=[]) (cs:=(ai.cells (ai.mk 0 0))) U U (bD g6 U)) U U)<|hU (vs:=(ai.cells (ai.mk 0 0))) (cs':=(ai.cells (ai.mk 0 0))) (C':=[_,_,_,_,_,_,_,_,_,_,_,_,_,(cy b5 38 (ai.cells (ai.mk 0 0))),_,_,_,_,_,_,_,_]) 13 U U U cW U U U U U U U<|rP 1 [] I ?_
 refine RK t<|ak<|hQ _ _ _ (rh 0 U U<|j4 (vs:=[(vA (ai.cells (ai.mk 0 0))),(vI 6)]) ⟨⟨_,U,.inl ⟨_,_,bV,qt (vs:=(ai.cells (ai.mk 0 0))) 13 U U,U,U⟩⟩,U,trivial⟩ fun w hs=>Cs ?_ hs)
 show (vT [(vA (ai.cells (ai.mk 0 0))),(vI 6)])=(vT [(vA (ai.cells (dD l r bq_))),(vI (eA l r bq_))])
 clear hs w hQ hN t W V AA T R P O N p A0
 (rw [A1] at he ⊢; have hh:h=n7 l r b:=zG (D.min _ _ Y) (C.max _ _ Z) (D.keys _ _ Y) (C.keys _ _ Z) c v a; (have e:=rz he (hh.symm.trans Ax); rw [e.1,e.2]<;>rfl))
theorem RZ (l:bq) (kA:OA) (kC:Nat) (az:List RA) (cA:OA) (cC:Nat) (bA:OA) (bC:Nat) (r:cQ) (sgA:OA) (sgC:Nat) (hin:ed l az) (hsl:r.aa.length≤1000000):
 dG Tryz.prog 245 [(vA (bW.cells (jx l kA kC cA cC bA bC))),(vA (de.cells (g8 r sgA sgC)))] ((o7 l kA az cA bA)++[(rd sgA r.aa.length 2 (r.aa.map aH.cells))]) (vT [(vA (ai.cells (Bt l r))),(vI (eA l r l.bU))]):=by
 have N:=hin.qI
 have J:=hin.qG
 have H:=hin.lS
 have AA:=hin.qD
 have M:=hin.side
 refine bG kr Tryz.func245 U U fun T Q hQ hN=>?_
 try dsimp only
 refine WS fun _ C=>dV U fun O=>dV U fun P=>AL U eh fun R=>bp 1 U<|RK C<|WS fun _ D=>dY 4 [0,1] (mc 2 U (mc 1 U I)) U<|rS (CL (Ca l kA kC az cA cC bA bC r sgA sgC l.bU hin hsl) (aY [3,4,5,6,7]) U)<|bp 3 U<|AL U eh fun S=>e7 U cW U<|bp 1 U<|RK D<|ag fun _ E=>WS fun _ F=>rP 2 [] I ?_
 refine RK F<|cb U (aX fun A=>?_) (aW fun A=>?_)
 ·refine WS fun _ G=>rS (SX (bE (xs:=[]) (cs:=(ai.cells (ai.mk 0 0))) U U (bD g6 U)) U U)<|bp 1 U<|pV U cW U<|rP 1 [] I ?_
  refine RK G<|ak<|mh hQ [0] (mc 1 U I) U ?_
  (rw [Dw A]<;>rfl)
 refine WK E<|WS fun _ B=>rP 4 [0,1] (mc 0 U (mc 2 U I)) ?_
 have K:=vb A
 have L:=(rF A).time
 refine dY 6 [0,1] (mc 0 U (mc 2 U I)) U<|rS (SX (bE (xs:=[(0,.tmp 24),(1,.tmp 29)]) (cs:=(ai.cells (ai.mk (((dD l r l.bU).Lo)-r.Start) (((dD l r l.bU).Hi)-r.Start)))) U U (bD g6 U)) U U)<|pV U cW U<|rP 1 [] I ?_
 refine RK B<|ak<|mh hQ [0] (mc 1 U I) U ?_
 (rw [D4 A,A]<;>rfl)
end
section
open Go.RowKit
theorem my (j:cw) (kA:OA) (kC:Nat) (az:List RA) (cA:OA) (cC:Nat) (bA:OA) (bC:Nat) (slA:OA) (slC:Nat) (drA:OA) (drC:Nat) (ha:List bZ) (heA:OA) (heC:Nat) (faA:OA) (faC:Nat) (prA:OA) (prC:Nat) (r:cQ) (sgA:OA) (sgC:Nat) (b:Int) (hin:er j az ha) (hsl:r.aa.length≤1000000):
 dG Tryz.prog 95 [(vA (df.cells (df.mk (lJ j kA kC cA cC bA bC slA slC drA drC heA heC faA faC prA prC)))),(vA (de.cells (g8 r sgA sgC))),(vI b)] ((pb j kA az cA bA slA drA ha heA faA prA)++[(rd sgA r.aa.length 2 (r.aa.map aH.cells))]) (vA (kJ.cells (kJ.mk (ai.mk ((dh j.Race.au r b).Lo) ((dh j.Race.au r b).Hi)) ((dh j.Race.au r b).each) ((dh j.Race.au r b).never)))):=by
 have Y:=hin.race
 have AA:=hin.race.line
 have c:=hin.race.fE
 have d:=hin.race.has
 have Z:=hin.race.fM
 have W:=hin.nf
 have X:=hin.np
 refine bG kr Tryz.func95 U U fun i Q hQ hN=>?_
 try dsimp only
 refine WS fun _ O=>dV U fun e=>dV U fun f=>AL U oB fun g=>RK O<|ag fun _ P=>WS fun _ R=>rP 2 [] I ?_
 refine RK R<|cb U (aN fun B=>?_) (aO fun B=>?_)
 ·refine WS fun _ S=>rP 4 [] (mc 1 U I) ?_
  refine rS (SX (bE (xs:=[(0,.tmp 15),(1,.tmp 17)]) (cs:=(ai.cells (ai.mk r.Start r.Start))) U U (bD g6 U)) U U)<|rS (SX (bE (xs:=[(0,.tmp 18),(1,.const (vB true)),(2,.const (vB false))]) (cs:=(kJ.cells (kJ.mk (ai.mk r.Start r.Start) true false))) U U (bD EW U)) U U)<|e7 U mX U<|RK S<|ak<|Bf hQ [0] (mc 0 U I) U ?_
  (rw [zR B])
 refine WK P<|WS fun _ T=>bp 3 U<|rS (LP (bW.cells (jx j.Race.au kA kC cA cC bA bC)) 2 U bV U U U)<|dY 2 [] (mc 1 U I) U<|rS (CL (Ca j.Race.au kA kC az cA cC bA bC r sgA sgC b asm hsl) (aY [3,4,5,6,13]) U)<|bp 3 U<|AL U eh fun h=>e7 U cW U<|bp 1 U<|RK T<|ag fun _ E=>WS fun _ F=>rP 2 [] I ?_
 refine RK F<|cb U (aX fun A=>?_) (aW fun A=>?_)
 ·refine WS fun _ G=>rS (SX (bE (xs:=[(0,.const (vI 86400000)),(1,.const (vI 86400000))]) (cs:=(ai.cells (ai.mk 86400000 86400000))) U U (bD g6 U)) U U)<|rS (SX (bE (xs:=[(0,.tmp 32),(1,.const (vB false)),(2,.const (vB true))]) (cs:=(kJ.cells (kJ.mk (ai.mk 86400000 86400000) false true))) U U (bD EW U)) U U)<|pV U mX U<|RK G<|ak<|Bf hQ [0] (mc 1 U I) U ?_
  (rw [ye B A])
 refine WK E<|WS fun _ H=>bp 3 U<|rS (LP (bW.cells (jx j.Race.au kA kC cA cC bA bC)) 3 U bV U U U)<|rP 1 [] (mc 2 U I) ?_
 refine cX (NR j.Race.au kA kC az cA cC bA bC r sgA sgC asm hsl) (aY [4,5,6,7,14]) U fun V a=>?_
 obtain ⟨M,N⟩:=V
 try dsimp only
 refine bp 5 U<|RK H<|WS fun _ AB=>rP 1 [] I ?_
 refine rS (CL (Td (hH j.Race.au r) M N (by exact xj (su A om)) (by have:=Ey (l:=j.Race.au) (r:=r); omega)) (aw (ar (n:=(hH j.Race.au r).length) 0 U sm)<|aS) U) ?_
 refine bp 3 U<|RK AB<|ag fun _ D=>WS fun _ J=>rP 2 [] I ?_
 refine RK J<|bO U (aW fun C=>?_) (aX fun C=>?_)
 ·refine WK D<|WS fun _ L=>rP 2 [] (mc 1 U I) ?_
  refine rS (SX (bE (xs:=[(0,.tmp 50),(1,.tmp 51),(2,.const (vB false))]) (cs:=(kJ.cells (kJ.mk (dD j.Race.au r b) (decide (b<(qb (hH j.Race.au r)))) false))) U U (bD EW U)) U U)<|CT U mX U<|RK L<|ak<|Bf hQ [0] (mc 2 U I) U ?_
  (rw [vo B A (by rw [BX (su A om)]; exact dC C),dC C])
 refine ao<|bp 1 U<|VA (ai.cells (ai.mk ((dD j.Race.au r b).Lo) 86400000)) U En U U<|RK D<|WS fun _ K=>rP 2 [] (mc 1 U I) ?_
 refine rS (SX (bE (xs:=[(0,.tmp 50),(1,.tmp 51),(2,.const (vB false))]) (cs:=(kJ.cells (kJ.mk (ai.mk ((dD j.Race.au r b).Lo) 86400000) (decide (b<(qb (hH j.Race.au r)))) false))) U U (bD EW U)) U U)<|CT U mX U<|RK K<|ak<|Bf hQ [0] (mc 2 U I) U ?_
 (rw [tM B A (by rw [BX (su A om)]; exact br C),br C])
end
section
open Go.RowKit
theorem Lj (j:cw) (kA:OA) (kC:Nat) (az:List RA) (cA:OA) (cC:Nat) (bA:OA) (bC:Nat) (slA:OA) (slC:Nat) (drA:OA) (drC:Nat) (ha:List bZ) (heA:OA) (heC:Nat) (faA:OA) (faC:Nat) (prA:OA) (prC:Nat) (fw ff ft:Int) (d:aq) (sgA:OA) (sgC:Nat) (hin:er j az ha) (hw:0≤fw∧fw≤1000000) (hsl:d.aV.aa.length≤1000000):
 dG Tryz.prog 62 [(vA (df.cells (df.mk (lJ j kA kC cA cC bA bC slA slC drA drC heA heC faA faC prA prC)))),(vA (bg.cells (bg.mk 1 fw ff ft))),(vA (aR.cells (aR.mk d.Out d.cD d.Time (g8 d.aV sgA sgC))))] ((pb j kA az cA bA slA drA ha heA faA prA)++[(rd sgA d.aV.aa.length 2 (d.aV.aa.map aH.cells))]) (Value.int .u8 (gd j.Race.au (bg.mk 1 fw ff ft) d)):=by
 have l:=hin.race
 have h:=hin.race.line
 have r:=hin.race.fE
 have s:=hin.race.has
 have m:=hin.race.fM
 have i:=hin.nf
 have k:=hin.np
 refine bG kr Tryz.func62 U U fun u Q hQ hN=>?_
 try dsimp only
 refine WS fun _ a=>dV U fun n=>dV U fun o=>dV U fun p=>bp 1 U<|RK a<|ag fun _ b=>WS fun _ c=>dY 1 [] (mc 0 U I) U<|rS (CL (ux d.Out d.cD d.Time (g8 d.aV sgA sgC)) (aS) U)<|rP 1 [] I ?_
 refine RK c<|cb U (aX fun A=>?_) (aW fun A=>?_)
 ·refine WS fun _ e=>rP 1 [] I ?_
  refine RK e<|ak<|Q1 hQ U U U ?_
  (rw [nP (fun q=>A q)]; done)
 refine WK b<|ag fun _ f=>dp cj [4,5] [] [] [0,1,2,3,4,5,6,7,8,9,10,11,12,13] [] U U U U U<|eS U (CL yp (aS) U)<|eS U (FA 0 U eD U)<|eS U (L1 (Value.int .u8 1) 1 U bV U U)<|eS U (SX (vm (vs:=(fr.cells (fr.mk (Value.func (.func 116) [].toArray [].toArray) (Value.func (.func 115) [].toArray [].toArray)))) 1 U U U Jc bV U dc U) U U)<|eg U<|cf U fun T9 g=>AL U IK fun X=>aC (g _ _ (aK [1,2,3,4,5,6,7,8,9,10,11,12,13,14]) ?_)
 refine cf U fun T11 W=>e7 U JG U<|aC (W _ _ (aK [1,2,3,4,5,6,7,8,9,10,11,12,13,14]) ?_)
 refine e8 U<|KK f<|WS fun _ V=>dY 4 [0,1,2] (mc 0 U (mc 3 U (mc 2 U I))) U<|rS (CL (Ry j kA kC cA cC bA bC slA slC drA drC heA heC faA faC prA prC 1 fw ff ft) (aS) U)<|rP 5 [] I ?_
 refine RK V<|ag fun _ AA=>mO cj [0,1,2,3,4,5,6,7,8,9] [10,11,12,13] [false,false,false,false,false,false,false,false,false,false] [] [(cy X 179 (fr.cells (fr.mk (Value.func (.func 116) [].toArray [].toArray) (Value.func (.func 115) [].toArray [].toArray)))),(cy p 43 (aR.cells (aR.mk d.Out d.cD d.Time (g8 d.aV sgA sgC)))),(cy o 86 (bg.cells (bg.mk 1 fw ff ft))),(cy n 97 (df.cells (df.mk (lJ j kA kC cA cC bA bC slA slC drA drC heA heC faA faC prA prC)))),(rd kA j.Race.au.bL.length 9 (j.Race.au.bL.map aD.cells)).ro,(rd cA j.Race.au.aG.length 2 (List.zipWith aT.cells j.Race.au.aG az)).ro,(iH (bK aT.jU j.Race.au.aG az)).ro,(rd bA j.Race.au.aj.length 4 (j.Race.au.aj.map cO.cells)).ro,(rd slA j.Race.bu.length 1 (j.Race.bu.map iC)).ro,(rd drA j.Race.cN.length 1 (j.Race.cN.map iC)).ro,(rd heA j.Race.aI.length 1 (List.zipWith cL j.Race.aI ha)).ro,(iH (bK lM j.Race.aI ha)).ro,(rd faA j.aM.length 4 (j.aM.map bg.cells)).ro,(rd prA j.aB.length 5 (j.aB.map bR.cells)).ro,(rd sgA d.aV.aa.length 2 (d.aV.aa.map aH.cells)).ro] [] kr (aK [0,1,2,3,4,5,6,7,8,9,10,11,12,13,14]) (aK [])<|eS U (LW 3 U bV U U)<|eS U (FA 4 U eD U)<|eS U (LP (de.cells (g8 d.aV sgA sgC)) 1 U bV U U U)<|eS U (MV U)<|eS U (CL (my j kA kC az cA cC bA bC slA slC drA drC ha heA heC faA faC prA prC d.aV sgA sgC (-1) hin hsl) (aY [4,5,6,7,8,9,10,11,12,13,14]) U)<|eS U (LW 3 U bV U U)<|eS U (FA 4 U eD U)<|eS U (LP (de.cells (g8 d.aV sgA sgC)) 1 U bV U U U)<|eS U (MV U)<|eS U (CL (my j kA kC az cA cC bA bC slA slC drA drC ha heA heC faA faC prA prC d.aV sgA sgC j.Race.au.bU hin hsl) (aY [4,5,6,7,8,9,10,11,12,13,14]) U)<|eg U<|mG [10,11] kr (iF ?_<|iF ?_<|pL)
 rotate_left 1
 ·refine NO U U [10,12,13] fun T14 P=>AL U oB fun Y=>RD P 1 U<|N1 10<|NO U U [12,13] fun T16 R=>AL U oB fun Z=>RD R 2 U<|N1 12<|NO U U [13] fun T18 S=>e7 U mX U<|RD S 2 U<|N1 13<|NO U U [] fun T19 T=>pV U mX U<|RD T 2 U<|lK<|KK AA<|ag fun _ F=>ax<|WS fun _ E=>rP 3 [] (mc 0 U I) ?_
  refine bS (t:=40) U (fun C=>?_) (fun C=>?_)
  ·refine bp 16 U<|RK E<|aL U<|WS fun _ J=>rP 1 [] I ?_
   refine RK J<|ak<|Q1 hQ U U U ?_
   (rw [gZ rfl A]; (rw [eX (.inl C)]; done))
  refine rP 8 [0,1] (mc 0 U (mc 4 U I)) ?_
  refine bS (t:=48) U (aN fun D=>?_) (aO fun D=>?_)
  ·refine bp 8 U<|RK E<|aL U<|WS fun _ K=>rP 1 [] I ?_
   refine RK K<|ak<|Q1 hQ U U U ?_
   (rw [gZ rfl A]; (rw [eX (.inr (.inl D))]; done))
  refine rP 8 [0,1] (mc 1 U (mc 4 U I)) ?_
  refine RK E<|cb U (aN fun B=>?_) (aO fun B=>?_)
  ·refine WS fun _ L=>rP 1 [] I ?_
   refine RK L<|ak<|Q1 hQ U U U ?_
   (rw [gZ rfl A]; (rw [eX (.inr (.inr B))]; done))
  refine WS fun _ G=>rP 3 [] (mc 0 U I) ?_
  refine cx (t:=59) U (fun AB=>?_) (fun AB=>?_)
  ·refine bp 8 U<|RK G<|bT U<|cg<|aJ<|KK F<|WS fun _ O=>rP 1 [] I ?_
   refine RK O<|ak<|Q1 hQ U U U ?_
   (rw [gZ rfl A]; (rw [gr (tS (by simpa using C) (by first|exact D|(simp only []; omega)) (by first|exact B|(simp only []; omega))) (fun q=>by rw [AB] at q; exact Bool.noConfusion q.1)]; done))
  refine dY 5 [0,1,2,3] (mc 2 U (mc 4 U (mc 0 U (mc 1 U I)))) U<|rS (CL (u0 1 fw ff ft ((dh j.Race.au d.aV (-1)).Lo) ((dh j.Race.au d.aV (-1)).Hi) ((dh j.Race.au d.aV (-1)).each) ((dh j.Race.au d.aV (-1)).never) ((dh j.Race.au d.aV j.Race.au.bU).Lo) ((dh j.Race.au d.aV j.Race.au.bU).Hi) ((dh j.Race.au d.aV j.Race.au.bU).each) ((dh j.Race.au d.aV j.Race.au.bU).never)) (aS) U)<|rP 2 [] I ?_
  refine RK G<|cb U (aN fun H=>?_) (aO fun H=>?_)
  ·refine WS fun _ M=>rP 1 [] I ?_
   refine RK M<|ak<|Q1 hQ U U U ?_
   (rw [gZ rfl A]; (rw [lV (tS (by simpa using C) (by first|exact D|(simp only []; omega)) (by first|exact B|(simp only []; omega))) AB ((j1 (show ¬ (1:Int)=3 by decide)).2 H)]; done))
  refine cg<|aJ<|KK F<|WS fun _ N=>rP 1 [] I ?_
  refine RK N<|ak<|Q1 hQ U U U ?_
  (rw [gZ rfl A]; (rw [gr (tS (by simpa using C) (by first|exact D|(simp only []; omega)) (by first|exact B|(simp only []; omega))) (fun q=>H ((j1 (show ¬ (1:Int)=3 by decide)).1 q.2))]; done))
 refine NO U U [11,12,13] fun T14 P=>AL U oB fun Y=>RD P 1 U<|N1 11<|NO U U [12,13] fun T16 R=>AL U oB fun Z=>RD R 2 U<|N1 12<|NO U U [13] fun T18 S=>pV U mX U<|RD S 2 U<|N1 13<|NO U U [] fun T19 T=>e7 U mX U<|RD T 2 U<|lK<|KK AA<|ag fun _ F=>ax<|WS fun _ E=>rP 3 [] (mc 1 U I) ?_
 refine bS (t:=40) U (fun C=>?_) (fun C=>?_)
 ·refine bp 16 U<|RK E<|aL U<|WS fun _ J=>rP 1 [] I ?_
  refine RK J<|ak<|Q1 hQ U U U ?_
  (rw [gZ rfl A]; (rw [eX (.inl C)]; done))
 refine rP 8 [0,1] (mc 1 U (mc 4 U I)) ?_
 refine bS (t:=48) U (aN fun D=>?_) (aO fun D=>?_)
 ·refine bp 8 U<|RK E<|aL U<|WS fun _ K=>rP 1 [] I ?_
  refine RK K<|ak<|Q1 hQ U U U ?_
  (rw [gZ rfl A]; (rw [eX (.inr (.inl D))]; done))
 refine rP 8 [0,1] (mc 0 U (mc 4 U I)) ?_
 refine RK E<|cb U (aN fun B=>?_) (aO fun B=>?_)
 ·refine WS fun _ L=>rP 1 [] I ?_
  refine RK L<|ak<|Q1 hQ U U U ?_
  (rw [gZ rfl A]; (rw [eX (.inr (.inr B))]; done))
 refine WS fun _ G=>rP 3 [] (mc 1 U I) ?_
 refine cx (t:=59) U (fun AB=>?_) (fun AB=>?_)
 ·refine bp 8 U<|RK G<|bT U<|cg<|aJ<|KK F<|WS fun _ O=>rP 1 [] I ?_
  refine RK O<|ak<|Q1 hQ U U U ?_
  (rw [gZ rfl A]; (rw [gr (tS (by simpa using C) (by first|exact D|(simp only []; omega)) (by first|exact B|(simp only []; omega))) (fun q=>by rw [AB] at q; exact Bool.noConfusion q.1)]; done))
 refine dY 5 [0,1,2,3] (mc 2 U (mc 4 U (mc 1 U (mc 0 U I)))) U<|rS (CL (u0 1 fw ff ft ((dh j.Race.au d.aV (-1)).Lo) ((dh j.Race.au d.aV (-1)).Hi) ((dh j.Race.au d.aV (-1)).each) ((dh j.Race.au d.aV (-1)).never) ((dh j.Race.au d.aV j.Race.au.bU).Lo) ((dh j.Race.au d.aV j.Race.au.bU).Hi) ((dh j.Race.au d.aV j.Race.au.bU).each) ((dh j.Race.au d.aV j.Race.au.bU).never)) (aS) U)<|rP 2 [] I ?_
 refine RK G<|cb U (aN fun H=>?_) (aO fun H=>?_)
 ·refine WS fun _ M=>rP 1 [] I ?_
  refine RK M<|ak<|Q1 hQ U U U ?_
  (rw [gZ rfl A]; (rw [lV (tS (by simpa using C) (by first|exact D|(simp only []; omega)) (by first|exact B|(simp only []; omega))) AB ((j1 (show ¬ (1:Int)=3 by decide)).2 H)]; done))
 refine cg<|aJ<|KK F<|WS fun _ N=>rP 1 [] I ?_
 refine RK N<|ak<|Q1 hQ U U U ?_
 (rw [gZ rfl A]; (rw [gr (tS (by simpa using C) (by first|exact D|(simp only []; omega)) (by first|exact B|(simp only []; omega))) (fun q=>H ((j1 (show ¬ (1:Int)=3 by decide)).1 q.2))]; done))
theorem JR (j:cw) (kA:OA) (kC:Nat) (az:List RA) (cA:OA) (cC:Nat) (bA:OA) (bC:Nat) (slA:OA) (slC:Nat) (drA:OA) (drC:Nat) (ha:List bZ) (heA:OA) (heC:Nat) (faA:OA) (faC:Nat) (prA:OA) (prC:Nat) (fw ff ft:Int) (d:aq) (sgA:OA) (sgC:Nat) (hin:er j az ha) (hw:0≤fw∧fw≤1000000) (hsl:d.aV.aa.length≤1000000):
 dG Tryz.prog 62 [(vA (df.cells (df.mk (lJ j kA kC cA cC bA bC slA slC drA drC heA heC faA faC prA prC)))),(vA (bg.cells (bg.mk 2 fw ff ft))),(vA (aR.cells (aR.mk d.Out d.cD d.Time (g8 d.aV sgA sgC))))] ((pb j kA az cA bA slA drA ha heA faA prA)++[(rd sgA d.aV.aa.length 2 (d.aV.aa.map aH.cells))]) (Value.int .u8 (gd j.Race.au (bg.mk 2 fw ff ft) d)):=by
 have l:=hin.race
 have h:=hin.race.line
 have r:=hin.race.fE
 have s:=hin.race.has
 have m:=hin.race.fM
 have i:=hin.nf
 have k:=hin.np
 refine bG kr Tryz.func62 U U fun u Q hQ hN=>?_
 try dsimp only
 refine WS fun _ a=>dV U fun n=>dV U fun o=>dV U fun p=>bp 1 U<|RK a<|ag fun _ b=>WS fun _ c=>dY 1 [] (mc 0 U I) U<|rS (CL (ux d.Out d.cD d.Time (g8 d.aV sgA sgC)) (aS) U)<|rP 1 [] I ?_
 refine RK c<|cb U (aX fun A=>?_) (aW fun A=>?_)
 ·refine WS fun _ e=>rP 1 [] I ?_
  refine RK e<|ak<|Q1 hQ U U U ?_
  (rw [nP (fun q=>A q)]; done)
 refine WK b<|ag fun _ f=>dp cj [4,5] [] [] [0,1,2,3,4,5,6,7,8,9,10,11,12,13] [] U U U U U<|eS U (CL yp (aS) U)<|eS U (FA 0 U eD U)<|eS U (L1 (Value.int .u8 2) 1 U bV U U)<|eS U (SX (vm (vs:=(fr.cells (fr.mk (Value.func (.func 117) [].toArray [].toArray) (Value.func (.func 115) [].toArray [].toArray)))) 2 U U U Jc bV U dc U) U U)<|eg U<|cf U fun T9 g=>AL U IK fun X=>aC (g _ _ (aK [1,2,3,4,5,6,7,8,9,10,11,12,13,14]) ?_)
 refine cf U fun T11 W=>e7 U JG U<|aC (W _ _ (aK [1,2,3,4,5,6,7,8,9,10,11,12,13,14]) ?_)
 refine e8 U<|KK f<|WS fun _ V=>dY 4 [0,1,2] (mc 0 U (mc 3 U (mc 2 U I))) U<|rS (CL (Tm j kA kC cA cC bA bC slA slC drA drC heA heC faA faC prA prC 2 fw ff ft hw) (aS) U)<|rP 5 [] I ?_
 refine RK V<|ag fun _ AA=>mO cj [0,1,2,3,4,5,6,7,8,9] [10,11,12,13] [false,false,false,false,false,false,false,false,false,false] [] [(cy X 179 (fr.cells (fr.mk (Value.func (.func 117) [].toArray [].toArray) (Value.func (.func 115) [].toArray [].toArray)))),(cy p 43 (aR.cells (aR.mk d.Out d.cD d.Time (g8 d.aV sgA sgC)))),(cy o 86 (bg.cells (bg.mk 2 fw ff ft))),(cy n 97 (df.cells (df.mk (lJ j kA kC cA cC bA bC slA slC drA drC heA heC faA faC prA prC)))),(rd kA j.Race.au.bL.length 9 (j.Race.au.bL.map aD.cells)).ro,(rd cA j.Race.au.aG.length 2 (List.zipWith aT.cells j.Race.au.aG az)).ro,(iH (bK aT.jU j.Race.au.aG az)).ro,(rd bA j.Race.au.aj.length 4 (j.Race.au.aj.map cO.cells)).ro,(rd slA j.Race.bu.length 1 (j.Race.bu.map iC)).ro,(rd drA j.Race.cN.length 1 (j.Race.cN.map iC)).ro,(rd heA j.Race.aI.length 1 (List.zipWith cL j.Race.aI ha)).ro,(iH (bK lM j.Race.aI ha)).ro,(rd faA j.aM.length 4 (j.aM.map bg.cells)).ro,(rd prA j.aB.length 5 (j.aB.map bR.cells)).ro,(rd sgA d.aV.aa.length 2 (d.aV.aa.map aH.cells)).ro] [] kr (aK [0,1,2,3,4,5,6,7,8,9,10,11,12,13,14]) (aK [])<|eS U (LW 3 U bV U U)<|eS U (FA 4 U eD U)<|eS U (LP (de.cells (g8 d.aV sgA sgC)) 1 U bV U U U)<|eS U (MV U)<|eS U (CL (my j kA kC az cA cC bA bC slA slC drA drC ha heA heC faA faC prA prC d.aV sgA sgC (fw-1) hin hsl) (aY [4,5,6,7,8,9,10,11,12,13,14]) U)<|eS U (LW 3 U bV U U)<|eS U (FA 4 U eD U)<|eS U (LP (de.cells (g8 d.aV sgA sgC)) 1 U bV U U U)<|eS U (MV U)<|eS U (CL (my j kA kC az cA cC bA bC slA slC drA drC ha heA heC faA faC prA prC d.aV sgA sgC fw hin hsl) (aY [4,5,6,7,8,9,10,11,12,13,14]) U)<|eg U<|mG [10,11] kr (iF ?_<|iF ?_<|pL)
 rotate_left 1
 ·refine NO U U [10,12,13] fun T14 P=>AL U oB fun Y=>RD P 1 U<|N1 10<|NO U U [12,13] fun T16 R=>AL U oB fun Z=>RD R 2 U<|N1 12<|NO U U [13] fun T18 S=>e7 U mX U<|RD S 2 U<|N1 13<|NO U U [] fun T19 T=>pV U mX U<|RD T 2 U<|lK<|KK AA<|ag fun _ F=>ax<|WS fun _ E=>rP 3 [] (mc 0 U I) ?_
  refine bS (t:=40) U (fun C=>?_) (fun C=>?_)
  ·refine bp 16 U<|RK E<|aL U<|WS fun _ J=>rP 1 [] I ?_
   refine RK J<|ak<|Q1 hQ U U U ?_
   (rw [gV rfl A]; (rw [eX (.inl C)]; done))
  refine rP 8 [0,1] (mc 0 U (mc 4 U I)) ?_
  refine bS (t:=48) U (aN fun D=>?_) (aO fun D=>?_)
  ·refine bp 8 U<|RK E<|aL U<|WS fun _ K=>rP 1 [] I ?_
   refine RK K<|ak<|Q1 hQ U U U ?_
   (rw [gV rfl A]; (rw [eX (.inr (.inl D))]; done))
  refine rP 8 [0,1] (mc 1 U (mc 4 U I)) ?_
  refine RK E<|cb U (aN fun B=>?_) (aO fun B=>?_)
  ·refine WS fun _ L=>rP 1 [] I ?_
   refine RK L<|ak<|Q1 hQ U U U ?_
   (rw [gV rfl A]; (rw [eX (.inr (.inr B))]; done))
  refine WS fun _ G=>rP 3 [] (mc 0 U I) ?_
  refine cx (t:=59) U (fun AB=>?_) (fun AB=>?_)
  ·refine bp 8 U<|RK G<|bT U<|cg<|aJ<|KK F<|WS fun _ O=>rP 1 [] I ?_
   refine RK O<|ak<|Q1 hQ U U U ?_
   (rw [gV rfl A]; (rw [gr (tS (by simpa using C) (by first|exact D|(simp only []; omega)) (by first|exact B|(simp only []; omega))) (fun q=>by rw [AB] at q; exact Bool.noConfusion q.1)]; done))
  refine dY 5 [0,1,2,3] (mc 2 U (mc 4 U (mc 0 U (mc 1 U I)))) U<|rS (CL (u0 2 fw ff ft ((dh j.Race.au d.aV (fw-1)).Lo) ((dh j.Race.au d.aV (fw-1)).Hi) ((dh j.Race.au d.aV (fw-1)).each) ((dh j.Race.au d.aV (fw-1)).never) ((dh j.Race.au d.aV fw).Lo) ((dh j.Race.au d.aV fw).Hi) ((dh j.Race.au d.aV fw).each) ((dh j.Race.au d.aV fw).never)) (aS) U)<|rP 2 [] I ?_
  refine RK G<|cb U (aN fun H=>?_) (aO fun H=>?_)
  ·refine WS fun _ M=>rP 1 [] I ?_
   refine RK M<|ak<|Q1 hQ U U U ?_
   (rw [gV rfl A]; (rw [lV (tS (by simpa using C) (by first|exact D|(simp only []; omega)) (by first|exact B|(simp only []; omega))) AB ((j1 (show ¬ (2:Int)=3 by decide)).2 H)]; done))
  refine cg<|aJ<|KK F<|WS fun _ N=>rP 1 [] I ?_
  refine RK N<|ak<|Q1 hQ U U U ?_
  (rw [gV rfl A]; (rw [gr (tS (by simpa using C) (by first|exact D|(simp only []; omega)) (by first|exact B|(simp only []; omega))) (fun q=>H ((j1 (show ¬ (2:Int)=3 by decide)).1 q.2))]; done))
 refine NO U U [11,12,13] fun T14 P=>AL U oB fun Y=>RD P 1 U<|N1 11<|NO U U [12,13] fun T16 R=>AL U oB fun Z=>RD R 2 U<|N1 12<|NO U U [13] fun T18 S=>pV U mX U<|RD S 2 U<|N1 13<|NO U U [] fun T19 T=>e7 U mX U<|RD T 2 U<|lK<|KK AA<|ag fun _ F=>ax<|WS fun _ E=>rP 3 [] (mc 1 U I) ?_
 refine bS (t:=40) U (fun C=>?_) (fun C=>?_)
 ·refine bp 16 U<|RK E<|aL U<|WS fun _ J=>rP 1 [] I ?_
  refine RK J<|ak<|Q1 hQ U U U ?_
  (rw [gV rfl A]; (rw [eX (.inl C)]; done))
 refine rP 8 [0,1] (mc 1 U (mc 4 U I)) ?_
 refine bS (t:=48) U (aN fun D=>?_) (aO fun D=>?_)
 ·refine bp 8 U<|RK E<|aL U<|WS fun _ K=>rP 1 [] I ?_
  refine RK K<|ak<|Q1 hQ U U U ?_
  (rw [gV rfl A]; (rw [eX (.inr (.inl D))]; done))
 refine rP 8 [0,1] (mc 0 U (mc 4 U I)) ?_
 refine RK E<|cb U (aN fun B=>?_) (aO fun B=>?_)
 ·refine WS fun _ L=>rP 1 [] I ?_
  refine RK L<|ak<|Q1 hQ U U U ?_
  (rw [gV rfl A]; (rw [eX (.inr (.inr B))]; done))
 refine WS fun _ G=>rP 3 [] (mc 1 U I) ?_
 refine cx (t:=59) U (fun AB=>?_) (fun AB=>?_)
 ·refine bp 8 U<|RK G<|bT U<|cg<|aJ<|KK F<|WS fun _ O=>rP 1 [] I ?_
  refine RK O<|ak<|Q1 hQ U U U ?_
  (rw [gV rfl A]; (rw [gr (tS (by simpa using C) (by first|exact D|(simp only []; omega)) (by first|exact B|(simp only []; omega))) (fun q=>by rw [AB] at q; exact Bool.noConfusion q.1)]; done))
 refine dY 5 [0,1,2,3] (mc 2 U (mc 4 U (mc 1 U (mc 0 U I)))) U<|rS (CL (u0 2 fw ff ft ((dh j.Race.au d.aV (fw-1)).Lo) ((dh j.Race.au d.aV (fw-1)).Hi) ((dh j.Race.au d.aV (fw-1)).each) ((dh j.Race.au d.aV (fw-1)).never) ((dh j.Race.au d.aV fw).Lo) ((dh j.Race.au d.aV fw).Hi) ((dh j.Race.au d.aV fw).each) ((dh j.Race.au d.aV fw).never)) (aS) U)<|rP 2 [] I ?_
 refine RK G<|cb U (aN fun H=>?_) (aO fun H=>?_)
 ·refine WS fun _ M=>rP 1 [] I ?_
  refine RK M<|ak<|Q1 hQ U U U ?_
  (rw [gV rfl A]; (rw [lV (tS (by simpa using C) (by first|exact D|(simp only []; omega)) (by first|exact B|(simp only []; omega))) AB ((j1 (show ¬ (2:Int)=3 by decide)).2 H)]; done))
 refine cg<|aJ<|KK F<|WS fun _ N=>rP 1 [] I ?_
 refine RK N<|ak<|Q1 hQ U U U ?_
 (rw [gV rfl A]; (rw [gr (tS (by simpa using C) (by first|exact D|(simp only []; omega)) (by first|exact B|(simp only []; omega))) (fun q=>H ((j1 (show ¬ (2:Int)=3 by decide)).1 q.2))]; done))
theorem Jz (j:cw) (kA:OA) (kC:Nat) (az:List RA) (cA:OA) (cC:Nat) (bA:OA) (bC:Nat) (slA:OA) (slC:Nat) (drA:OA) (drC:Nat) (ha:List bZ) (heA:OA) (heC:Nat) (faA:OA) (faC:Nat) (prA:OA) (prC:Nat) (fw ff ft:Int) (d:aq) (sgA:OA) (sgC:Nat) (hin:er j az ha) (hw:0≤fw∧fw≤1000000) (hsl:d.aV.aa.length≤1000000):
 dG Tryz.prog 62 [(vA (df.cells (df.mk (lJ j kA kC cA cC bA bC slA slC drA drC heA heC faA faC prA prC)))),(vA (bg.cells (bg.mk 3 fw ff ft))),(vA (aR.cells (aR.mk d.Out d.cD d.Time (g8 d.aV sgA sgC))))] ((pb j kA az cA bA slA drA ha heA faA prA)++[(rd sgA d.aV.aa.length 2 (d.aV.aa.map aH.cells))]) (Value.int .u8 (gd j.Race.au (bg.mk 3 fw ff ft) d)):=by
 have l:=hin.race
 have h:=hin.race.line
 have r:=hin.race.fE
 have s:=hin.race.has
 have m:=hin.race.fM
 have i:=hin.nf
 have k:=hin.np
 refine bG kr Tryz.func62 U U fun u Q hQ hN=>?_
 try dsimp only
 refine WS fun _ a=>dV U fun n=>dV U fun o=>dV U fun p=>bp 1 U<|RK a<|ag fun _ b=>WS fun _ c=>dY 1 [] (mc 0 U I) U<|rS (CL (ux d.Out d.cD d.Time (g8 d.aV sgA sgC)) (aS) U)<|rP 1 [] I ?_
 refine RK c<|cb U (aX fun A=>?_) (aW fun A=>?_)
 ·refine WS fun _ e=>rP 1 [] I ?_
  refine RK e<|ak<|Q1 hQ U U U ?_
  (rw [nP (fun q=>A q)]; done)
 refine WK b<|ag fun _ f=>dp cj [4,5] [] [] [0,1,2,3,4,5,6,7,8,9,10,11,12,13] [] U U U U U<|eS U (CL yp (aS) U)<|eS U (FA 0 U eD U)<|eS U (L1 (Value.int .u8 3) 1 U bV U U)<|eS U (SX (vm (vs:=(fr.cells (fr.mk (Value.func (.func 118) [].toArray [].toArray) (Value.func (.func 119) [].toArray [].toArray)))) 3 U U U Jc bV U dc U) U U)<|eg U<|cf U fun T9 g=>AL U IK fun X=>aC (g _ _ (aK [1,2,3,4,5,6,7,8,9,10,11,12,13,14]) ?_)
 refine cf U fun T11 W=>e7 U JG U<|aC (W _ _ (aK [1,2,3,4,5,6,7,8,9,10,11,12,13,14]) ?_)
 refine e8 U<|KK f<|WS fun _ V=>dY 4 [0,1,2] (mc 0 U (mc 3 U (mc 2 U I))) U<|rS (CL (SJ j kA kC cA cC bA bC slA slC drA drC heA heC faA faC prA prC 3 fw ff ft) (aS) U)<|rP 5 [] I ?_
 refine RK V<|ag fun _ AA=>mO cj [0,1,2,3,4,5,6,7,8,9] [10,11,12,13] [false,false,false,false,false,false,false,false,false,false] [] [(cy X 179 (fr.cells (fr.mk (Value.func (.func 118) [].toArray [].toArray) (Value.func (.func 119) [].toArray [].toArray)))),(cy p 43 (aR.cells (aR.mk d.Out d.cD d.Time (g8 d.aV sgA sgC)))),(cy o 86 (bg.cells (bg.mk 3 fw ff ft))),(cy n 97 (df.cells (df.mk (lJ j kA kC cA cC bA bC slA slC drA drC heA heC faA faC prA prC)))),(rd kA j.Race.au.bL.length 9 (j.Race.au.bL.map aD.cells)).ro,(rd cA j.Race.au.aG.length 2 (List.zipWith aT.cells j.Race.au.aG az)).ro,(iH (bK aT.jU j.Race.au.aG az)).ro,(rd bA j.Race.au.aj.length 4 (j.Race.au.aj.map cO.cells)).ro,(rd slA j.Race.bu.length 1 (j.Race.bu.map iC)).ro,(rd drA j.Race.cN.length 1 (j.Race.cN.map iC)).ro,(rd heA j.Race.aI.length 1 (List.zipWith cL j.Race.aI ha)).ro,(iH (bK lM j.Race.aI ha)).ro,(rd faA j.aM.length 4 (j.aM.map bg.cells)).ro,(rd prA j.aB.length 5 (j.aB.map bR.cells)).ro,(rd sgA d.aV.aa.length 2 (d.aV.aa.map aH.cells)).ro] [] kr (aK [0,1,2,3,4,5,6,7,8,9,10,11,12,13,14]) (aK [])<|eS U (LW 3 U bV U U)<|eS U (FA 4 U eD U)<|eS U (LP (de.cells (g8 d.aV sgA sgC)) 1 U bV U U U)<|eS U (MV U)<|eS U (CL (my j kA kC az cA cC bA bC slA slC drA drC ha heA heC faA faC prA prC d.aV sgA sgC fw hin hsl) (aY [4,5,6,7,8,9,10,11,12,13,14]) U)<|eS U (LW 3 U bV U U)<|eS U (FA 4 U eD U)<|eS U (LP (de.cells (g8 d.aV sgA sgC)) 1 U bV U U U)<|eS U (MV U)<|eS U (CL (my j kA kC az cA cC bA bC slA slC drA drC ha heA heC faA faC prA prC d.aV sgA sgC fw hin hsl) (aY [4,5,6,7,8,9,10,11,12,13,14]) U)<|eg U<|mG [10,11] kr (iF ?_<|iF ?_<|pL)
 rotate_left 1
 ·refine NO U U [10,12,13] fun T14 P=>AL U oB fun Y=>RD P 1 U<|N1 10<|NO U U [12,13] fun T16 R=>AL U oB fun Z=>RD R 2 U<|N1 12<|NO U U [13] fun T18 S=>e7 U mX U<|RD S 2 U<|N1 13<|NO U U [] fun T19 T=>pV U mX U<|RD T 2 U<|lK<|KK AA<|ag fun _ F=>ax<|WS fun _ E=>rP 3 [] (mc 0 U I) ?_
  refine bS (t:=40) U (fun C=>?_) (fun C=>?_)
  ·refine bp 16 U<|RK E<|aL U<|WS fun _ J=>rP 1 [] I ?_
   refine RK J<|ak<|Q1 hQ U U U ?_
   (rw [gY rfl A]; (rw [eX (.inl C)]; done))
  refine rP 8 [0,1] (mc 0 U (mc 4 U I)) ?_
  refine bS (t:=48) U (aN fun D=>?_) (aO fun D=>?_)
  ·refine bp 8 U<|RK E<|aL U<|WS fun _ K=>rP 1 [] I ?_
   refine RK K<|ak<|Q1 hQ U U U ?_
   (rw [gY rfl A]; (rw [eX (.inr (.inl D))]; done))
  refine rP 8 [0,1] (mc 1 U (mc 4 U I)) ?_
  refine RK E<|cb U (aN fun B=>?_) (aO fun B=>?_)
  ·refine WS fun _ L=>rP 1 [] I ?_
   refine RK L<|ak<|Q1 hQ U U U ?_
   (rw [gY rfl A]; (rw [eX (.inr (.inr B))]; done))
  refine WS fun _ G=>rP 3 [] (mc 0 U I) ?_
  refine cx (t:=59) U (fun AB=>?_) (fun AB=>?_)
  ·refine bp 8 U<|RK G<|bT U<|cg<|aJ<|KK F<|WS fun _ O=>rP 1 [] I ?_
   refine RK O<|ak<|Q1 hQ U U U ?_
   (rw [gY rfl A]; (rw [gr (tS (by simpa using C) (by first|exact D|(simp only []; omega)) (by first|exact B|(simp only []; omega))) (fun q=>by rw [AB] at q; exact Bool.noConfusion q.1)]; done))
  refine dY 5 [0,1,2,3] (mc 2 U (mc 4 U (mc 0 U (mc 1 U I)))) U<|rS (CL (E0 3 fw ff ft ((dh j.Race.au d.aV fw).Lo) ((dh j.Race.au d.aV fw).Hi) ((dh j.Race.au d.aV fw).each) ((dh j.Race.au d.aV fw).never) ((dh j.Race.au d.aV fw).Lo) ((dh j.Race.au d.aV fw).Hi) ((dh j.Race.au d.aV fw).each) ((dh j.Race.au d.aV fw).never)) (aS) U)<|rP 2 [] I ?_
  refine RK G<|cb U (aN fun H=>?_) (aO fun H=>?_)
  ·refine WS fun _ M=>rP 1 [] I ?_
   refine RK M<|ak<|Q1 hQ U U U ?_
   (rw [gY rfl A]; (rw [lV (tS (by simpa using C) (by first|exact D|(simp only []; omega)) (by first|exact B|(simp only []; omega))) AB ((An rfl).2 H)]; done))
  refine cg<|aJ<|KK F<|WS fun _ N=>rP 1 [] I ?_
  refine RK N<|ak<|Q1 hQ U U U ?_
  (rw [gY rfl A]; (rw [gr (tS (by simpa using C) (by first|exact D|(simp only []; omega)) (by first|exact B|(simp only []; omega))) (fun q=>H ((An rfl).1 q.2))]; done))
 refine NO U U [11,12,13] fun T14 P=>AL U oB fun Y=>RD P 1 U<|N1 11<|NO U U [12,13] fun T16 R=>AL U oB fun Z=>RD R 2 U<|N1 12<|NO U U [13] fun T18 S=>pV U mX U<|RD S 2 U<|N1 13<|NO U U [] fun T19 T=>e7 U mX U<|RD T 2 U<|lK<|KK AA<|ag fun _ F=>ax<|WS fun _ E=>rP 3 [] (mc 1 U I) ?_
 refine bS (t:=40) U (fun C=>?_) (fun C=>?_)
 ·refine bp 16 U<|RK E<|aL U<|WS fun _ J=>rP 1 [] I ?_
  refine RK J<|ak<|Q1 hQ U U U ?_
  (rw [gY rfl A]; (rw [eX (.inl C)]; done))
 refine rP 8 [0,1] (mc 1 U (mc 4 U I)) ?_
 refine bS (t:=48) U (aN fun D=>?_) (aO fun D=>?_)
 ·refine bp 8 U<|RK E<|aL U<|WS fun _ K=>rP 1 [] I ?_
  refine RK K<|ak<|Q1 hQ U U U ?_
  (rw [gY rfl A]; (rw [eX (.inr (.inl D))]; done))
 refine rP 8 [0,1] (mc 0 U (mc 4 U I)) ?_
 refine RK E<|cb U (aN fun B=>?_) (aO fun B=>?_)
 ·refine WS fun _ L=>rP 1 [] I ?_
  refine RK L<|ak<|Q1 hQ U U U ?_
  (rw [gY rfl A]; (rw [eX (.inr (.inr B))]; done))
 refine WS fun _ G=>rP 3 [] (mc 1 U I) ?_
 refine cx (t:=59) U (fun AB=>?_) (fun AB=>?_)
 ·refine bp 8 U<|RK G<|bT U<|cg<|aJ<|KK F<|WS fun _ O=>rP 1 [] I ?_
  refine RK O<|ak<|Q1 hQ U U U ?_
  (rw [gY rfl A]; (rw [gr (tS (by simpa using C) (by first|exact D|(simp only []; omega)) (by first|exact B|(simp only []; omega))) (fun q=>by rw [AB] at q; exact Bool.noConfusion q.1)]; done))
 refine dY 5 [0,1,2,3] (mc 2 U (mc 4 U (mc 1 U (mc 0 U I)))) U<|rS (CL (E0 3 fw ff ft ((dh j.Race.au d.aV fw).Lo) ((dh j.Race.au d.aV fw).Hi) ((dh j.Race.au d.aV fw).each) ((dh j.Race.au d.aV fw).never) ((dh j.Race.au d.aV fw).Lo) ((dh j.Race.au d.aV fw).Hi) ((dh j.Race.au d.aV fw).each) ((dh j.Race.au d.aV fw).never)) (aS) U)<|rP 2 [] I ?_
 refine RK G<|cb U (aN fun H=>?_) (aO fun H=>?_)
 ·refine WS fun _ M=>rP 1 [] I ?_
  refine RK M<|ak<|Q1 hQ U U U ?_
  (rw [gY rfl A]; (rw [lV (tS (by simpa using C) (by first|exact D|(simp only []; omega)) (by first|exact B|(simp only []; omega))) AB ((An rfl).2 H)]; done))
 refine cg<|aJ<|KK F<|WS fun _ N=>rP 1 [] I ?_
 refine RK N<|ak<|Q1 hQ U U U ?_
 (rw [gY rfl A]; (rw [gr (tS (by simpa using C) (by first|exact D|(simp only []; omega)) (by first|exact B|(simp only []; omega))) (fun q=>H ((An rfl).1 q.2))]; done))
theorem Gb (j:cw) (kA:OA) (kC:Nat) (az:List RA) (cA:OA) (cC:Nat) (bA:OA) (bC:Nat) (slA:OA) (slC:Nat) (drA:OA) (drC:Nat) (ha:List bZ) (heA:OA) (heC:Nat) (faA:OA) (faC:Nat) (prA:OA) (prC:Nat) (f:bg) (d:aq) (sgA:OA) (sgC:Nat) (hin:er j az ha) (hk:1≤f.Kind∧f.Kind≤3) (hw:0≤f.hE∧f.hE≤1000000) (hsl:d.aV.aa.length≤1000000):
 dG Tryz.prog 62 [(vA (df.cells (df.mk (lJ j kA kC cA cC bA bC slA slC drA drC heA heC faA faC prA prC)))),(vA (bg.cells f)),(vA (aR.cells (aR.mk d.Out d.cD d.Time (g8 d.aV sgA sgC))))] ((pb j kA az cA bA slA drA ha heA faA prA)++[(rd sgA d.aV.aa.length 2 (d.aV.aa.map aH.cells))]) (Value.int .u8 (gd j.Race.au f d)):=by
 obtain ⟨fk,fw,ff,ft⟩:=f
 have A:fk=1∨fk=2∨fk=3:=by have:=hk; simp only at this; omega
 rcases A with rfl|rfl|rfl
 ·exact Lj j kA kC az cA cC bA bC slA slC drA drC ha heA heC faA faC prA prC fw ff ft d sgA sgC hin hw hsl
 ·exact JR j kA kC az cA cC bA bC slA slC drA drC ha heA heC faA faC prA prC fw ff ft d sgA sgC hin hw hsl
 ·exact Jz j kA kC az cA cC bA bC slA slC drA drC ha heA heC faA faC prA prC fw ff ft d sgA sgC hin hw hsl
end
section
open Go.RowKit
theorem Pd (j:cw) (kA:OA) (kC:Nat) (az:List RA) (cA:OA) (cC:Nat) (bA:OA) (bC:Nat) (slA:OA) (slC:Nat) (drA:OA) (drC:Nat) (ha:List bZ) (heA:OA) (heC:Nat) (faA:OA) (faC:Nat) (prA:OA) (prC:Nat) (p:bR) (hin:er j az ha) (hok:dU j=0) (hp: ∃ i:Nat,j.aB[i]? =some p):
 dG Tryz.prog 66 [(vA (df.cells (df.mk (lJ j kA kC cA cC bA bC slA slC drA drC heA heC faA faC prA prC)))),(vA (bR.cells p))] (pb j kA az cA bA slA drA ha heA faA prA) (Value.int .u8 (pS j p)):=by
 have S:=hin.race
 have e:=hin.race.line
 have s:=hin.race.fE
 have t:=hin.race.has
 have q:=hin.race.fM
 have k:=hin.nf
 have o:=hin.np
 have R:=(dj hok).1
 have P:=(dj hok).2
 have c:=(dx R).1
 have h:=(dx R).2
 have a:=(dw c).2.head
 unfold eL at a
 obtain ⟨pi,f⟩:=hp
 have G:=P.ia pi p f
 have x:=G.fJ
 have g:=G.k6
 simp only [qQ] at g
 have w:=G.fault
 have u:=P.min_
 refine bG kr Tryz.func66 U U fun w0 Q hQ hN=>?_
 try dsimp only
 refine WS fun _ T=>dV U fun z=>dV U fun b3=>rP 1 [] I ?_
 refine RK T<|ag fun _ AA=>dp cj [20,21] [] [] [0,1,2,3,4,5,6,7,8,9,10,11] [] U U U U U<|eS U (LW 1 U bV U U)<|eS U (FA 0 U eD U)<|eS U (FA 0 U eD U)<|eS U (FA 10 U eD U)<|eS U (L1 (vS heA j.Race.aI.length heC) 1 U bV U U)<|eS U (FA 2 U eD U)<|eS U (L1 (vI p.ib) 0 U bV U U) ?_
 obtain ⟨ht,C⟩:=aA j.Race.aI ((p.ib).toNat) om
 obtain ⟨A,B⟩:=aA ha ((p.ib).toNat) om
 have O:(List.zipWith cL j.Race.aI ha)[(p.ib).toNat]? =some (cL ht A):=cG C B
 refine eS U (IA ((p.ib).toNat) U (av 8 U) kF dc om om)<|eS U (gv ((p.ib).toNat) 0 (vS A.1.1 ht.length A.1.2) U bV (av 8 U) O U dc U)<|eS U (FA 1 U eD U)<|eS U (L1 (vI p.gH) 0 U bV U U) ?_
 have N:=S.fJ _ _ _ C B
 have m:=N.lS
 have n:=(h.fJ ht (aP C)).1
 obtain ⟨d,hd⟩:=aA ht ((p.gH).toNat) om
 obtain ⟨da,M⟩:=aA A.2 ((p.gH).toNat) om
 have Z:(List.zipWith aq.cells ht A.2)[(p.gH).toNat]? =some (aq.cells d da):=cG hd M
 refine eS U (IA ((p.gH).toNat) U (show g9 _ (rd A.1.1 ht.length 7 (List.zipWith aq.cells ht A.2)).holds from (cd 9 U (bB C B cr))) ov dc om om)<|eS U (nQ ((((p.gH).toNat)*7)+4) U (show g9 _ (rd A.1.1 ht.length 7 (List.zipWith aq.cells ht A.2)).holds from (cd 9 U (bB C B cr))) (Nat.mul_pos om dc) eD U) ?_
 have D:=mF (j:=j) (p:=p) C hd
 have y:=N.sig d (aP hd)
 have v:=FO (l:=j.Race.au) (r:=d.aV) (b:=j.Race.au.bU) om
 refine eS U (jL ((p.gH).toNat) 4 (de.cells (de.mk d.aV.Start d.aV.gL (bj.mk da.1 d.aV.aa.length da.2))) U bV (show g9 _ (rd A.1.1 ht.length 7 (List.zipWith aq.cells ht A.2)).holds from (cd 9 U (bB C B cr))) Z U dc U U)<|eS U (FA 0 U eD U)<|eS U (FA 0 U eD U)<|eS U (FA 0 U eD U)<|eS U (FA 4 U eD U)<|eS U (L1 (vI j.Race.au.bU) 1 U bV U U)<|eS U (CL (my j kA kC az cA cC bA bC slA slC drA drC ha heA heC faA faC prA prC d.aV da.1 da.2 j.Race.au.bU hin asm) (mJ [2,3,4,5,6,7,8,9,10,11]<|aw (show g9 _ (rd da.1 d.aV.aa.length 2 (d.aV.aa.map aH.cells)).holds from (cd 9 U (bB C B (dH _ (bB hd M (by simp [aq.jU]))))))<|aS) U)<|eg U<|cf U fun T5 X=>AL U oB fun b6=>aC (X _ _ (aK [1,2,3,4,5,6,7,8,9,10,11,12]) ?_)
 refine cf U fun T7 Y=>e7 U mX U<|aC (Y _ _ (aK [1,2,3,4,5,6,7,8,9,10,11,12]) ?_)
 refine e8 U<|KK AA<|WS fun _ V=>dY 3 [] (mc 2 U I) U<|rS (BI U (sW ⟨om,om⟩))<|bp 1 U<|RK V<|ag fun _ W=>ax<|WS fun _ H=>rP 9 [0,1] (mc 1 U (mc 0 U I)) ?_
 refine RK H<|cb U (aN fun E=>?_) (aO fun E=>?_)
 ·refine WS fun _ AB=>rP 1 [] I ?_
  refine RK AB<|ak<|Q1 hQ U U U ?_
  (rw [JI D E]; done)
 refine WS fun _ J=>rP 9 [0,1] (mc 1 U (mc 0 U I)) ?_
 refine RK J<|cb U (aN fun F=>?_) (aO fun F=>?_)
 ·refine WS fun _ K=>rP 1 [] I ?_
  refine RK K<|ak<|Q1 hQ U U U ?_
  (rw [IU D E F]; done)
 refine cg<|aJ<|KK W<|WS fun _ L=>rP 1 [] I ?_
 refine RK L<|ak<|Q1 hQ U U U ?_
 (rw [Kh D E F]; done)
theorem vQ (j:cw) (kA:OA) (kC:Nat) (az:List RA) (cA:OA) (cC:Nat) (bA:OA) (bC:Nat) (slA:OA) (slC:Nat) (drA:OA) (drC:Nat) (ha:List bZ) (heA:OA) (heC:Nat) (faA:OA) (faC:Nat) (prA:OA) (prC:Nat) (i:Int) (p:bR) (hin:er j az ha) (hok:dU j=0) (hp: ∃ i:Nat,j.aB[i]? =some p):
 dG Tryz.prog 42 [(vA (df.cells (df.mk (lJ j kA kC cA cC bA bC slA slC drA drC heA heC faA faC prA prC)))),(vI i),(vA (bR.cells p))] (pb j kA az cA bA slA drA ha heA faA prA) (vB (gJ j p)):=by
 have O:=hin.race
 have V:=hin.race.line
 have h:=hin.race.fE
 have k:=hin.race.has
 have c:=hin.race.fM
 have Y:=hin.nf
 have b:=hin.np
 have M:=(dj hok).1
 have E:=(dj hok).2
 have AA:=(dx M).1
 have X:=(dx M).2
 have T:=(dw AA).2.head
 unfold eL at T
 obtain ⟨pi,N⟩:=hp
 have F:=E.ia pi p N
 have n:=F.fJ
 have W:=F.k6
 simp only [qQ] at W
 have m:=F.fault
 have l:=E.min_
 refine bG kr Tryz.func42 U U fun u Q hQ hN=>?_
 try dsimp only
 refine WS fun _ P=>dV U fun r=>dV U fun s=>bp 1 U<|RK P<|ag fun _ G=>cS cj 29 kr<|kf 2 [0,1] (mc 1 U (mc 0 U I)) U<|dS (CL (Pd j kA kC az cA cC bA bC slA slC drA drC ha heA heC faA faC prA prC p hin hok (by exact ⟨pi,N⟩)) (aY [2,3,4,5,6,7,8,9,10,11]) U)<|dS (BI U s7)<|dP 1 [] I ?_
 refine jm (t:=11) U (aW fun D=>?_) (aX fun D=>?_)
 ·refine kI 17 U<|kI 2 U<|dP 5 [] I ?_
  refine cu<|RK G<|ak<|Q1 hQ U U U ?_
  (rw [Jj D]; done)
 refine dP 6 [0,0,1] (mc 1 U (mc 0 U I)) ?_
 obtain ⟨f,hf⟩:=aA j.aM ((p.gh).toNat) om
 have S:=bH bg.cells hf
 refine dS (IA ((p.gh).toNat) U (av 10 U) xZ dc om om)<|dS (jL ((p.gh).toNat) 0 (bg.cells f) U bV (av 10 U) S U dc U U)<|dP 6 [0,1] (mc 1 U (mc 0 U I)) ?_
 obtain ⟨ht,C⟩:=aA j.Race.aI ((p.ib).toNat) om
 obtain ⟨A,B⟩:=aA ha ((p.ib).toNat) om
 have L:(List.zipWith cL j.Race.aI ha)[(p.ib).toNat]? =some (cL ht A):=cG C B
 refine dS (IA ((p.ib).toNat) U (av 8 U) kF dc om om)<|dS (gv ((p.ib).toNat) 0 (vS A.1.1 ht.length A.1.2) U bV (av 8 U) L U dc U)<|dP 1 [] I ?_
 have K:=O.fJ _ _ _ C B
 have Z:=K.lS
 have a:=(X.fJ ht (aP C)).1
 refine dP 1 [] (mc 0 U I) ?_
 obtain ⟨d,hd⟩:=aA ht ((p.gH).toNat) om
 obtain ⟨da,AB⟩:=aA A.2 ((p.gH).toNat) om
 have R:(List.zipWith aq.cells ht A.2)[(p.gH).toNat]? =some (aq.cells d da):=cG hd AB
 refine dS (IA ((p.gH).toNat) U (show g9 _ (rd A.1.1 ht.length 7 (List.zipWith aq.cells ht A.2)).holds from (cd 9 U (bB C B cr))) ov dc om om) ?_
 have H:=mF (j:=j) (p:=p) C hd
 have o:=K.sig d (aP hd)
 have J:=E.fault f (aP hf)
 have g:0≤f.hE∧f.hE≤1000000:=by have e:=J.2.2; split at e<;>omega
 refine dS (jL ((p.gH).toNat) 0 (aR.cells (aR.mk d.Out d.cD d.Time (de.mk d.aV.Start d.aV.gL (bj.mk da.1 d.aV.aa.length da.2)))) U bV (show g9 _ (rd A.1.1 ht.length 7 (List.zipWith aq.cells ht A.2)).holds from (cd 9 U (bB C B cr))) R U dc U U)<|dS (CL (Gb j kA kC az cA cC bA bC slA slC drA drC ha heA heC faA faC prA prC f d da.1 da.2 hin (by exact J.1) asm asm) (mJ [2,3,4,5,6,7,8,9,10,11]<|aw (show g9 _ (rd da.1 d.aV.aa.length 2 (d.aV.aa.map aH.cells)).holds from (cd 9 U (bB C B (dH _ (bB hd AB (by simp [aq.jU]))))))<|aS) U)<|dS (BI U s7)<|dP 2 [] I ?_
 refine cu<|RK G<|ak<|Q1 hQ U U U ?_
 (rw [Lf H hf (fun q=>D q)]; done)
end
section
open Go.RowKit
theorem H_ (n lo hi:Int) (g1 g2:Nat):
 dG Tryz.prog 93 [(vI n),(vP g1),(vP g2)] [(cy g1 3 [(vI lo)]),(cy g2 3 [(vI hi)])] (vB (decide (n<lo∨hi<n))):=by
 refine bG kr Tryz.func93 U U fun D Q hQ hN=>?_
 try dsimp only
 refine WS fun _ B=>bp 1 U<|RK B<|WS fun _ A=>rP 4 [] (mr 0 U I) ?_
 refine bS (t:=8) U (aN fun C=>?_) (aO fun C=>?_)
 ·refine rP 5 [] I ?_
  refine RK A<|ak<|Q1 hQ U U U ?_
  exact cB (dC om).symm
 refine rP 5 [] (mr 1 U I) ?_
 refine RK A<|ak<|Q1 hQ U U U ?_
 exact cB (gT.2 om)
theorem uN (lo hi:Int) (l:List Int) (lA:OA) (lC:Nat) (hlen:l.length≤1000000):
 dG Tryz.prog 59 [(vI lo),(vI hi),(vS lA l.length lC)] [(rd lA l.length 1 (l.map iC))] (vB (qH lo hi l)):=by
 refine bG kr Tryz.func59 U U fun F Q hQ hN=>?_
 try dsimp only
 refine WS fun _ D=>wV U U fun A=>wV U U fun B=>bp 1 U<|RK D<|WS fun _ E=>rP 1 [] I ?_
 refine rS (FU U) ?_
 refine rS (CL (qd l lA lC (Value.func (.func 93) [].toArray [(vP A),(vP B)].toArray) (fun C=>(decide (C<lo∨hi<C))) (iH [(cy A 3 [(vI lo)]),(cy B 3 [(vI hi)])]) (by intro C _; exact lp (fi:=[]) (ca:=[(vP A),(vP B)]) (j8 (H_ C lo hi A B) (aY [0,1]))) hlen) (eG 2 U U<|aw (j7 (aY [1,0]))<|aS) U) ?_
 refine rP 2 [] I ?_
 refine RK E<|ak ?_
 exact Q1 hQ U U U U
theorem Mr (s:ai):
 dG Tryz.prog 242 [(vA (ai.cells s))] [] (vB (decide (nm s))):=by
 refine bG kr Tryz.func242 U U fun F Q hQ hN=>?_
 try dsimp only
 refine WS fun _ B=>dV U fun E=>bp 1 U<|RK B<|WS fun _ A=>rP 4 [] (mc 0 U I) ?_
 refine e9 (xs:=[.tmp 4,.tmp 6]) (cs:=[(vI s.Lo),(vI s.Hi)]) U dI kR U U U U (by simp [Value.cells]) U U fun C=>?_
 refine rS (CL (dG.eq (uN 1 600000 ([s.Lo,s.Hi]) (some ⟨C,0,none⟩) 2 (by (simp; done))) pG) (aw (bo 0 U U (by simp [bX]) U)<|aS) U) ?_
 refine rP 1 [] I ?_
 refine cx (t:=9) U (aO fun D=>?_) (aN fun D=>?_)
 ·refine rP 7 [] I ?_
  refine RK A<|ak<|Q1 hQ U U U ?_
  simp only [nm]
  exact cB (br om).symm
 refine rP 7 [] (mc 1 U I) ?_
 refine RK A<|ak<|Q1 hQ U U U ?_
 simp only [nm]
 exact cB (gT.2 om)
theorem Lh (d:aq) (sgA:OA) (sgC:Nat):
 dG Tryz.prog 239 [(vA (aR.cells (aR.mk d.Out d.cD d.Time (g8 d.aV sgA sgC))))] [(rd sgA d.aV.aa.length 2 (d.aV.aa.map aH.cells))] (vB (decide (nx d.aV))):=by
 refine bG kr Tryz.func239 U U fun F Q hQ hN=>?_
 try dsimp only
 refine WS fun _ B=>dV U fun E=>bp 1 U<|RK B<|WS fun _ A=>rP 5 [] (mc 0 U I) ?_
 refine cx (t:=7) U (aO fun C=>?_) (aN fun C=>?_)
 ·refine rP 13 [] I ?_
  refine RK A<|ak<|Q1 hQ U U U ?_
  simp only [nx]
  exact cB (br om).symm
 refine rP 6 [] (mc 0 U I) ?_
 refine cx (t:=13) U (aO fun D=>?_) (aN fun D=>?_)
 ·refine rP 7 [] I ?_
  refine RK A<|ak<|Q1 hQ U U U ?_
  simp only [nx]
  exact cB (br om).symm
 refine rP 7 [] (mc 0 U I) ?_
 refine RK A<|ak<|Q1 hQ U U U ?_
 simp only [nx]
 exact cB (gT.2 om)
theorem S4 (d:aq) (sgA:OA) (sgC:Nat):
 dG Tryz.prog 237 [(vA (aR.cells (aR.mk d.Out d.cD d.Time (g8 d.aV sgA sgC))))] [(rd sgA d.aV.aa.length 2 (d.aV.aa.map aH.cells))] (vB d.Out):=by
 refine bG kr Tryz.func237 U U fun D Q hQ hN=>?_
 try dsimp only
 refine WS fun _ A=>dV U fun C=>bp 1 U<|RK A<|WS fun _ B=>rP 3 [] (mc 0 U I) ?_
 refine RK B<|ak<|Q1 hQ U U U ?_
 rfl
theorem Rs (d:aq) (sgA:OA) (sgC:Nat):
 dG Tryz.prog 240 [(vA (aR.cells (aR.mk d.Out d.cD d.Time (g8 d.aV sgA sgC))))] [(rd sgA d.aV.aa.length 2 (d.aV.aa.map aH.cells))] (vB d.cD):=by
 refine bG kr Tryz.func240 U U fun D Q hQ hN=>?_
 try dsimp only
 refine WS fun _ A=>dV U fun C=>bp 1 U<|RK A<|WS fun _ B=>rP 3 [] (mc 0 U I) ?_
 refine RK B<|ak<|Q1 hQ U U U ?_
 rfl
theorem S0 (d:aq) (sgA:OA) (sgC:Nat):
 dG Tryz.prog 243 [(vA (aR.cells (aR.mk d.Out d.cD d.Time (g8 d.aV sgA sgC))))] [(rd sgA d.aV.aa.length 2 (d.aV.aa.map aH.cells))] (vB true):=by
 refine bG kr Tryz.func243 U U fun D Q hQ hN=>?_
 try dsimp only
 refine WS fun _ A=>dV U fun C=>bp 1 U<|RK A<|WS fun _ B=>rP 1 [] I ?_
 refine RK B<|ak<|Q1 hQ U U U ?_
 rfl
end
section
open Go.RowKit
theorem Nt (l:bq) (kA:OA) (kC:Nat) (az:List RA) (cA:OA) (cC:Nat) (bA:OA) (bC:Nat) (d:aq) (sgA:OA) (sgC:Nat) (hin:ed l az):
 dG Tryz.prog 238 [(vA (bW.cells (jx l kA kC cA cC bA bC))),(vA (aR.cells (aR.mk d.Out d.cD d.Time (g8 d.aV sgA sgC))))] ((o7 l kA az cA bA)++[(rd sgA d.aV.aa.length 2 (d.aV.aa.map aH.cells))]) (vT [(vA (ai.cells d.Time)),(vB (decide (d.cD=false∧d.Time=hZ∧nx d.aV)))]):=by
 refine bG kr Tryz.func238 U U fun K Q hQ hN=>?_
 try dsimp only
 refine WS fun _ B=>dV U fun H=>dV U fun AA=>AL U eh fun J=>rP 1 [] I ?_
 refine RK B<|ag fun _ A=>dp cj [15] [] [] [1,2,3,4,5,6,7] [] U U U U U<|eS U (FA 2 U eD U)<|eS U (LP (ai.cells d.Time) 0 U bV U U U)<|eS U (FA 1 U eD U)<|eS U (L1 (vB d.cD) 0 U bV U U)<|eS U (NT U)<|eS U (MV U)<|sx (t:=11) U (fun G=>?_) (fun G=>?_)
 rotate_left 1
 ·rw [Bool.not_eq_false'] at G
  refine eS U (OX U)<|eS U (OX U)<|eS U (OX U)<|eS U (OX U)<|eS U (PK U)<|eS U (MV U)<|eS U (OX U)<|eS U (OX U)<|eS U (PK U)<|eS U (AG U)<|eg U<|cf U fun T10 C=>e7 U cW U<|aC (C _ _ (aK [1,2,3,4,5,6,7]) ?_)
  refine e8 U<|KK A<|ak<|mh hQ [0] (mc 0 U I) U ?_
  clear hQ hN C T10 A B
  refine congrArg (fun z=>Value.tuple #[_,vB z]) ?_
  first|rfl|(simp_all [hZ]; done)
 rw [Bool.not_eq_true'] at G
 refine eS U (FA 2 U eD U)<|eS U (LP (ai.cells d.Time) 0 U bV U U U)<|eS U (SX (bE (xs:=[]) (cs:=(ai.cells (ai.mk 0 0))) U U (bD g6 U)) U U)<|eS U (BI U (wF _ _ d.Time (ai.mk 0 0)))<|eS U (PK U)<|eS U (MV U)<|sx (t:=17) U (fun D=>?_) (fun D=>?_)
 rotate_left 1
 ·replace D:=DF D
  refine eS U (OX U)<|eS U (OX U)<|eS U (PK U)<|eS U (AG U)<|eg U<|cf U fun T9 F=>e7 U cW U<|aC (F _ _ (aK [1,2,3,4,5,6,7]) ?_)
  refine e8 U<|KK A<|ak<|mh hQ [0] (mc 0 U I) U ?_
  clear hQ hN F T9 A B
  refine congrArg (fun z=>Value.tuple #[_,vB z]) ?_
  first|rfl|(simp_all [hZ]; done)
 replace D:=DT D
 refine eS U (LW 0 U bV U U)<|eS U (CL (Lh d sgA sgC) (aY [6]) U)<|eS U (PK U)<|eS U (AG U)<|eg U<|cf U fun T8 E=>e7 U cW U<|aC (E _ _ (aK [1,2,3,4,5,6,7]) ?_)
 refine e8 U<|KK A<|ak<|mh hQ [0] (mc 0 U I) U ?_
 clear hQ hN E T8 A B
 refine congrArg (fun z=>Value.tuple #[_,vB z]) ?_
 first|rfl|(simp_all [hZ]; done)
theorem MP (l:bq) (kA:OA) (kC:Nat) (az:List RA) (cA:OA) (cC:Nat) (bA:OA) (bC:Nat) (d:aq) (sgA:OA) (sgC:Nat) (hin:ed l az):
 dG Tryz.prog 241 [(vA (bW.cells (jx l kA kC cA cC bA bC))),(vA (aR.cells (aR.mk d.Out d.cD d.Time (g8 d.aV sgA sgC))))] ((o7 l kA az cA bA)++[(rd sgA d.aV.aa.length 2 (d.aV.aa.map aH.cells))]) (vT [(vA (ai.cells d.Time)),(vB (decide (nm d.Time∧nx d.aV)))]):=by
 refine bG kr Tryz.func241 U U fun AA Q hQ hN=>?_
 try dsimp only
 refine WS fun _ B=>dV U fun F=>dV U fun G=>AL U eh fun H=>rP 1 [] I ?_
 refine RK B<|ag fun _ A=>dp cj [9] [] [] [1,2,3,4,5,6,7] [] U U U U U<|eS U (FA 2 U eD U)<|eS U (LP (ai.cells d.Time) 0 U bV U U U)<|eS U (FA 2 U eD U)<|eS U (LP (ai.cells d.Time) 0 U bV U U U)<|eS U (CL (Mr d.Time) (aS) U)<|eS U (MV U)<|sx (t:=11) U (fun C=>?_) (fun C=>?_)
 rotate_left 1
 ·replace C:=DF C
  refine eS U (OX U)<|eS U (OX U)<|eS U (PK U)<|eS U (AG U)<|eg U<|cf U fun T8 E=>e7 U cW U<|aC (E _ _ (aK [1,2,3,4,5,6,7]) ?_)
  refine e8 U<|KK A<|ak<|mh hQ [0] (mc 0 U I) U ?_
  clear hQ hN E T8 A B
  refine congrArg (fun z=>Value.tuple #[_,vB z]) ?_
  first|rfl|(simp_all; done)
 replace C:=DT C
 refine eS U (LW 0 U bV U U)<|eS U (CL (Lh d sgA sgC) (aY [6]) U)<|eS U (PK U)<|eS U (AG U)<|eg U<|cf U fun T7 D=>e7 U cW U<|aC (D _ _ (aK [1,2,3,4,5,6,7]) ?_)
 refine e8 U<|KK A<|ak<|mh hQ [0] (mc 0 U I) U ?_
 clear hQ hN D T7 A B
 refine congrArg (fun z=>Value.tuple #[_,vB z]) ?_
 first|rfl|(simp_all; done)
theorem MF (l:bq) (kA:OA) (kC:Nat) (az:List RA) (cA:OA) (cC:Nat) (bA:OA) (bC:Nat) (d:aq) (sgA:OA) (sgC:Nat) (hin:ed l az) (hsl:d.aV.aa.length≤1000000):
 dG Tryz.prog 244 [(vA (bW.cells (jx l kA kC cA cC bA bC))),(vA (aR.cells (aR.mk d.Out d.cD d.Time (g8 d.aV sgA sgC))))] ((o7 l kA az cA bA)++[(rd sgA d.aV.aa.length 2 (d.aV.aa.map aH.cells))]) (vT [(vA (ai.cells (Bt l d.aV))),(vB (decide (eA l d.aV l.bU=0∧d.Time=hZ)))]):=by
 have K:=hin.qI
 have AA:=hin.qG
 have G:=hin.lS
 have H:=hin.qD
 have J:=hin.side
 refine bG kr Tryz.func244 U U fun P Q hQ hN=>?_
 try dsimp only
 refine WS fun _ C=>dV U fun L=>dV U fun M=>AL U eh fun N=>bp 1 U<|RK C<|WS fun _ D=>dY 2 [] (mc 2 U I) U<|rS (LP (de.cells (g8 d.aV sgA sgC)) 1 U bV U U U)<|rS (CL (RZ l kA kC az cA cC bA bC d.aV sgA sgC hin hsl) (aY [3,4,5,6,7]) U)<|bp 3 U<|AL U eh fun O=>e7 U cW U<|rP 1 [] I ?_
 refine RK D<|ag fun _ A=>dp cj [9] [] [] [0,2,3,4,5,6,7,8] [] U U U U U<|eS U (LW 0 U bV U U)<|eS U (MV U)<|eS U (BI U ks)<|eS U (MV U)<|sx (t:=18) U (fun E=>?_) (fun E=>?_)
 rotate_left 1
 ·replace E:=DF E
  refine eS U (OX U)<|eS U (OX U)<|eS U (OX U)<|eS U (OX U)<|eS U (PK U)<|eS U (AG U)<|eg U<|cf U fun T10 B=>pV U cW U<|aC (B _ _ (aK [0,2,3,4,5,6,7,8]) ?_)
  refine e8 U<|KK A<|ak<|mh hQ [0] (mc 1 U I) U ?_
  clear hQ hN B T10 A D C
  refine congrArg (fun z=>Value.tuple #[_,vB z]) ?_
  first|rfl|(simp_all [hZ]; done)
 replace E:=DT E
 refine eS U (FA 2 U eD U)<|eS U (LP (ai.cells d.Time) 1 U bV U U U)<|eS U (SX (bE (xs:=[]) (cs:=(ai.cells (ai.mk 0 0))) U U (bD g6 U)) U U)<|eS U (BI U (wF _ _ d.Time (ai.mk 0 0)))<|eS U (PK U)<|eS U (AG U)<|eg U<|cf U fun T9 F=>pV U cW U<|aC (F _ _ (aK [0,2,3,4,5,6,7,8]) ?_)
 refine e8 U<|KK A<|ak<|mh hQ [0] (mc 1 U I) U ?_
 clear hQ hN F T9 A D C
 refine congrArg (fun z=>Value.tuple #[_,vB z]) ?_
 first|rfl|(simp_all [hZ]; done)
theorem Gz (d:aq) (sgA:OA) (sgC g1:Nat):
 dG Tryz.prog 113 [(vA (nz.cells (nz.mk (Value.func (.func 237) [].toArray [].toArray) (Value.func (.func 238) [].toArray [].toArray)))),(vP g1)] [(rd sgA d.aV.aa.length 2 (d.aV.aa.map aH.cells)),(cy g1 43 (aR.cells (aR.mk d.Out d.cD d.Time (g8 d.aV sgA sgC))))] (vB d.Out):=by
 refine bG kr Tryz.func113 U U fun D Q hQ hN=>?_
 try dsimp only
 refine WS fun _ A=>dV U fun C=>bp 1 U<|RK A<|WS fun _ B=>dY 3 [0,1] (mc 0 U (mr 2 U I)) U<|rS (CL (S4 d sgA sgC) (aY [1]) U)<|rP 1 [] I ?_
 refine RK B<|ak<|Q1 hQ U U U ?_
 rfl
theorem G_ (d:aq) (sgA:OA) (sgC g1:Nat):
 dG Tryz.prog 113 [(vA (nz.cells (nz.mk (Value.func (.func 240) [].toArray [].toArray) (Value.func (.func 241) [].toArray [].toArray)))),(vP g1)] [(rd sgA d.aV.aa.length 2 (d.aV.aa.map aH.cells)),(cy g1 43 (aR.cells (aR.mk d.Out d.cD d.Time (g8 d.aV sgA sgC))))] (vB d.cD):=by
 refine bG kr Tryz.func113 U U fun D Q hQ hN=>?_
 try dsimp only
 refine WS fun _ A=>dV U fun C=>bp 1 U<|RK A<|WS fun _ B=>dY 3 [0,1] (mc 0 U (mr 2 U I)) U<|rS (CL (Rs d sgA sgC) (aY [1]) U)<|rP 1 [] I ?_
 refine RK B<|ak<|Q1 hQ U U U ?_
 rfl
theorem GY (d:aq) (sgA:OA) (sgC g1:Nat):
 dG Tryz.prog 113 [(vA (nz.cells (nz.mk (Value.func (.func 243) [].toArray [].toArray) (Value.func (.func 244) [].toArray [].toArray)))),(vP g1)] [(rd sgA d.aV.aa.length 2 (d.aV.aa.map aH.cells)),(cy g1 43 (aR.cells (aR.mk d.Out d.cD d.Time (g8 d.aV sgA sgC))))] (vB true):=by
 refine bG kr Tryz.func113 U U fun D Q hQ hN=>?_
 try dsimp only
 refine WS fun _ A=>dV U fun C=>bp 1 U<|RK A<|WS fun _ B=>dY 3 [0,1] (mc 0 U (mr 2 U I)) U<|rS (CL (S0 d sgA sgC) (aY [1]) U)<|rP 1 [] I ?_
 refine RK B<|ak<|Q1 hQ U U U ?_
 rfl
end
section
open Go.RowKit
theorem yP (d:aq) (sgA:OA) (sgC g1:Nat):
 dG Tryz.prog 112 [(vS iG 3 3),(Value.func (.func 113) [].toArray [(vP g1)].toArray)] [(rd iG 3 2 gI),(rd sgA d.aV.aa.length 2 (d.aV.aa.map aH.cells)),(cy g1 43 (aR.cells (aR.mk d.Out d.cD d.Time (g8 d.aV sgA sgC))))] (vI (o6 d)):=by
 refine bG kr Tryz.func112 U U fun b Q hQ hN=>?_
 try dsimp only
 refine WS fun _ F=>bp 1 U<|RK F<|ag fun _ AA=>WS fun _ G=>bp 3 U<|RK G<|ax<|rL 4<|lf fun R4 Z=>WS fun _ H=>rS (SX (eQ (r:= .bool true) U U U qE) U U)<|RK H<|ag fun _ AB=>aL U<|WK AB<|ag fun _ J=>ax<|WS fun _ K=>bp 2 U<|RK K<|WS fun _ L=>rP 3 [] I ?_
 refine rS (IA 0 U (av 0 U) I4 dc U om)<|rS (jL 0 0 (nz.cells (nz.mk (Value.func (.func 237) [].toArray [].toArray) (Value.func (.func 238) [].toArray [].toArray))) U bV (av 0 U) (show gI[0]? =some [(Value.func (.func 237) [].toArray [].toArray),(Value.func (.func 238) [].toArray [].toArray)] from U) U dc U U)<|rS (CL (Gz d sgA sgC g1) (aY [1,2]) U)<|RK L<|cb U (fun X=>?_) (fun X=>?_)
 ·refine WS fun _ M=>rP 2 [] I ?_
  refine RK M<|ak<|Q1 hQ U U U ?_
  clear hQ hN M L K J AB H G AA F
  refine cI ?_
  simp [o6, *]
 refine cg<|aJ<|KK J<|ao<|rS (SX (eQ (r:= .int .i64 1) U U U (oN ⟨dc,dc⟩)) U U)<|bp 1 U<|RK Z<|lf fun R12 W=>WS fun _ A=>rS (SX (eQ (r:= .bool true) U U U qE) U U)<|RK A<|ag fun _ B=>aL U<|WK B<|ag fun _ C=>ax<|WS fun _ D=>bp 2 U<|RK D<|WS fun _ E=>rP 3 [] I ?_
 refine rS (IA 1 U (av 0 U) I4 dc U om)<|rS (jL 1 0 (nz.cells (nz.mk (Value.func (.func 240) [].toArray [].toArray) (Value.func (.func 241) [].toArray [].toArray))) U bV (av 0 U) (show gI[1]? =some [(Value.func (.func 240) [].toArray [].toArray),(Value.func (.func 241) [].toArray [].toArray)] from U) U dc U U)<|rS (CL (G_ d sgA sgC g1) (aY [1,2]) U)<|RK E<|cb U (fun Y=>?_) (fun Y=>?_)
 ·refine WS fun _ N=>rP 2 [] I ?_
  refine RK N<|ak<|Q1 hQ U U U ?_
  clear hQ hN N E D C B A L K J AB H G AA F
  refine cI ?_
  simp [o6, *]
 refine cg<|aJ<|KK C<|ao<|rS (SX (eQ (r:= .int .i64 2) U U U (oN ⟨dc,dc⟩)) U U)<|bp 1 U<|RK W<|lf fun R20 a=>WS fun _ O=>rS (SX (eQ (r:= .bool true) U U U qE) U U)<|RK O<|ag fun _ P=>aL U<|WK P<|ag fun _ V=>ax<|WS fun _ R=>bp 2 U<|RK R<|WS fun _ S=>bp 3 U<|rS (IA 2 U (av 0 U) I4 dc U om)<|rS (jL 2 0 (nz.cells (nz.mk (Value.func (.func 243) [].toArray [].toArray) (Value.func (.func 244) [].toArray [].toArray))) U bV (av 0 U) (show gI[2]? =some [(Value.func (.func 243) [].toArray [].toArray),(Value.func (.func 244) [].toArray [].toArray)] from U) U dc U U)<|rS (CL (GY d sgA sgC g1) (aY [1,2]) U)<|RK S<|aL U<|WS fun _ T=>rP 2 [] I ?_
 refine RK T<|ak<|Q1 hQ U U U ?_
 clear hQ hN T S R V P O E D C B A L K J AB H G AA F
 refine cI ?_
 simp [o6, *]
end
section
open Go.RowKit
theorem Sb (d:aq) (sgA:OA) (sgC g1:Nat) (hk:d.Out=true):
 dG Tryz.prog 112 [(vS iG 3 3),(Value.func (.func 113) [].toArray [(vP g1)].toArray)] [(rd iG 3 2 gI),(rd sgA d.aV.aa.length 2 (d.aV.aa.map aH.cells)),(cy g1 43 (aR.cells (aR.mk d.Out d.cD d.Time (g8 d.aV sgA sgC))))] (vI 0):=by
 have h:=yP d sgA sgC g1
 have e:o6 d=0:=by simp [o6,hk]
 rw [e] at h
 exact h
theorem Sw (d:aq) (sgA:OA) (sgC g1:Nat) (hk:d.Out=false∧d.cD=true):
 dG Tryz.prog 112 [(vS iG 3 3),(Value.func (.func 113) [].toArray [(vP g1)].toArray)] [(rd iG 3 2 gI),(rd sgA d.aV.aa.length 2 (d.aV.aa.map aH.cells)),(cy g1 43 (aR.cells (aR.mk d.Out d.cD d.Time (g8 d.aV sgA sgC))))] (vI 1):=by
 have h:=yP d sgA sgC g1
 have e:o6 d=1:=by simp [o6,hk]
 rw [e] at h
 exact h
theorem RB (d:aq) (sgA:OA) (sgC g1:Nat) (hk:d.Out=false∧d.cD=false):
 dG Tryz.prog 112 [(vS iG 3 3),(Value.func (.func 113) [].toArray [(vP g1)].toArray)] [(rd iG 3 2 gI),(rd sgA d.aV.aa.length 2 (d.aV.aa.map aH.cells)),(cy g1 43 (aR.cells (aR.mk d.Out d.cD d.Time (g8 d.aV sgA sgC))))] (vI 2):=by
 have h:=yP d sgA sgC g1
 have e:o6 d=2:=by simp [o6,hk]
 rw [e] at h
 exact h
theorem CA (l:bq) (kA:OA) (kC:Nat) (az:List RA) (cA:OA) (cC:Nat) (bA:OA) (bC:Nat) (d:aq) (sgA:OA) (sgC:Nat) (hin:ed l az) (hsl:d.aV.aa.length≤1000000) (hk:d.Out=true):
 dG Tryz.prog 91 [(vA (bW.cells (jx l kA kC cA cC bA bC))),(vA (aR.cells (aR.mk d.Out d.cD d.Time (g8 d.aV sgA sgC))))] ((rd iG 3 2 gI)::((o7 l kA az cA bA)++[(rd sgA d.aV.aa.length 2 (d.aV.aa.map aH.cells))])) (vT [(vA (ai.cells (gD l d))),(vB (decide (jn l d)))]):=by
 refine bG kr Tryz.func91 U U fun AA Q hQ hN=>?_
 try dsimp only
 refine WS fun _ A=>dV U fun G=>dV U fun D=>AL U eh fun H=>bp 1 U<|RK A<|WS fun _ B=>rS (SX (ED U U zY) U U)<|rS (FU U)<|rS (CL (Sb d sgA sgC D hk) (OU 3 8 1 U U U U U U) U)<|bp 1 U<|RK B<|ag fun _ C=>cS cj 9 kr<|kI 1 U<|dS (SX (D1 (k:=0) U U U zY U om) U U)<|dS (nQ ((0*2)+1) U (av 3 U) (Nat.mul_pos om dc) eD U)<|dS (gv 0 1 (Value.func (.func 238) [].toArray [].toArray) U bV (av 3 U) (show gI[0]? =some [(Value.func (.func 237) [].toArray [].toArray),(Value.func (.func 238) [].toArray [].toArray)] from U) U dc U)<|kf 2 [0,1] (mc 2 U (mc 1 U I)) U<|dS (CL (Nt l kA kC az cA cC bA bC d sgA sgC hin) (aY [4,5,6,7,8]) U)<|kI 2 U<|cu<|e7 U cW U<|rP 1 [] I ?_
 refine RK C<|ak<|mh hQ [0] (mc 0 U I) U ?_
 have E:=ET (l:=l) hk
 have F:=qV (l:=l) hk
 simp only [E,F]
theorem BQ (l:bq) (kA:OA) (kC:Nat) (az:List RA) (cA:OA) (cC:Nat) (bA:OA) (bC:Nat) (d:aq) (sgA:OA) (sgC:Nat) (hin:ed l az) (hsl:d.aV.aa.length≤1000000) (hk:d.Out=false∧d.cD=true):
 dG Tryz.prog 91 [(vA (bW.cells (jx l kA kC cA cC bA bC))),(vA (aR.cells (aR.mk d.Out d.cD d.Time (g8 d.aV sgA sgC))))] ((rd iG 3 2 gI)::((o7 l kA az cA bA)++[(rd sgA d.aV.aa.length 2 (d.aV.aa.map aH.cells))])) (vT [(vA (ai.cells (gD l d))),(vB (decide (jn l d)))]):=by
 refine bG kr Tryz.func91 U U fun AA Q hQ hN=>?_
 try dsimp only
 refine WS fun _ A=>dV U fun G=>dV U fun D=>AL U eh fun H=>bp 1 U<|RK A<|WS fun _ B=>rS (SX (ED U U zY) U U)<|rS (FU U)<|rS (CL (Sw d sgA sgC D hk) (OU 3 8 1 U U U U U U) U)<|bp 1 U<|RK B<|ag fun _ C=>cS cj 9 kr<|kI 1 U<|dS (SX (D1 (k:=1) U U U zY U om) U U)<|dS (nQ ((1*2)+1) U (av 3 U) (Nat.mul_pos om dc) eD U)<|dS (gv 1 1 (Value.func (.func 241) [].toArray [].toArray) U bV (av 3 U) (show gI[1]? =some [(Value.func (.func 240) [].toArray [].toArray),(Value.func (.func 241) [].toArray [].toArray)] from U) U dc U)<|kf 2 [0,1] (mc 2 U (mc 1 U I)) U<|dS (CL (MP l kA kC az cA cC bA bC d sgA sgC hin) (aY [4,5,6,7,8]) U)<|kI 2 U<|cu<|e7 U cW U<|rP 1 [] I ?_
 refine RK C<|ak<|mh hQ [0] (mc 0 U I) U ?_
 have E:=EL (l:=l) hk
 have F:=yi (l:=l) hk
 simp only [E,F]
theorem Dd (l:bq) (kA:OA) (kC:Nat) (az:List RA) (cA:OA) (cC:Nat) (bA:OA) (bC:Nat) (d:aq) (sgA:OA) (sgC:Nat) (hin:ed l az) (hsl:d.aV.aa.length≤1000000) (hk:d.Out=false∧d.cD=false):
 dG Tryz.prog 91 [(vA (bW.cells (jx l kA kC cA cC bA bC))),(vA (aR.cells (aR.mk d.Out d.cD d.Time (g8 d.aV sgA sgC))))] ((rd iG 3 2 gI)::((o7 l kA az cA bA)++[(rd sgA d.aV.aa.length 2 (d.aV.aa.map aH.cells))])) (vT [(vA (ai.cells (gD l d))),(vB (decide (jn l d)))]):=by
 refine bG kr Tryz.func91 U U fun AA Q hQ hN=>?_
 try dsimp only
 refine WS fun _ A=>dV U fun G=>dV U fun D=>AL U eh fun H=>bp 1 U<|RK A<|WS fun _ B=>rS (SX (ED U U zY) U U)<|rS (FU U)<|rS (CL (RB d sgA sgC D hk) (OU 3 8 1 U U U U U U) U)<|bp 1 U<|RK B<|ag fun _ C=>cS cj 9 kr<|kI 1 U<|dS (SX (D1 (k:=2) U U U zY U om) U U)<|dS (nQ ((2*2)+1) U (av 3 U) (Nat.mul_pos om dc) eD U)<|dS (gv 2 1 (Value.func (.func 244) [].toArray [].toArray) U bV (av 3 U) (show gI[2]? =some [(Value.func (.func 243) [].toArray [].toArray),(Value.func (.func 244) [].toArray [].toArray)] from U) U dc U)<|kf 2 [0,1] (mc 2 U (mc 1 U I)) U<|dS (CL (MF l kA kC az cA cC bA bC d sgA sgC hin hsl) (aY [4,5,6,7,8]) U)<|kI 2 U<|cu<|e7 U cW U<|rP 1 [] I ?_
 refine RK C<|ak<|mh hQ [0] (mc 0 U I) U ?_
 have E:=EU (l:=l) hk
 have F:=uS (l:=l) hk
 simp only [E,F]
theorem DL (l:bq) (kA:OA) (kC:Nat) (az:List RA) (cA:OA) (cC:Nat) (bA:OA) (bC:Nat) (d:aq) (sgA:OA) (sgC:Nat) (hin:ed l az) (hsl:d.aV.aa.length≤1000000):
 dG Tryz.prog 91 [(vA (bW.cells (jx l kA kC cA cC bA bC))),(vA (aR.cells (aR.mk d.Out d.cD d.Time (g8 d.aV sgA sgC))))] ((rd iG 3 2 gI)::((o7 l kA az cA bA)++[(rd sgA d.aV.aa.length 2 (d.aV.aa.map aH.cells))])) (vT [(vA (ai.cells (gD l d))),(vB (decide (jn l d)))]):=by
 by_cases ho:d.Out=true
 ·exact CA l kA kC az cA cC bA bC d sgA sgC hin hsl ho
 by_cases hf:d.cD=true
 ·exact BQ l kA kC az cA cC bA bC d sgA sgC hin hsl ⟨by simpa using ho,hf⟩
 ·exact Dd l kA kC az cA cC bA bC d sgA sgC hin hsl ⟨by simpa using ho,by simpa using hf⟩
end
section
open Go.RowKit
theorem KO (lA:OA) (lN lC:Nat):
 lR Tryz.prog 90 [(vS lA lN lC)] [] (fun (x:Nat)=>(Value.func (.func 111) [].toArray [(vP x)].toArray)) (fun (x:Nat)=>True) (fun (x:Nat)=>[(cy x 29 [(vS lA lN lC)])]):=by
 refine dL kr Tryz.func90 U U fun D Q hQ hN=>?_
 try dsimp only
 refine WS fun _ A=>wV U U fun C=>bp 1 U<|RK A<|WS fun _ B=>rS (FU U)<|rP 1 [] I ?_
 refine RK B<|ak<|LX hQ C [0] [] I U U U U ?_
 trivial
theorem H5 (nl:List Int) (nlA:OA) (nlC g1:Nat) (hlen:nl.length≤12):
 Mz Tryz.prog 111 [] [(vP g1)] [(rd nlA nl.length 1 (nl.map iC)),(cy g1 29 [(vS nlA nl.length nlC)])] (rG nl):=by
 refine Fx kr Tryz.func111 U U fun l J Z A0 T Q hY K AB hQ hN=>?_
 try dsimp only
 refine WS fun _ M=>rP 3 [] (mr 2 U I) ?_
 refine RK M<|ax ?_
 have F:(0≤nl.length)∧(J 0 A0)∧(Fo A0 T A0):=by exact ⟨Nat.zero_le _,K,AB⟩
 refine bP (ι:={z:Nat×ay // (z.1≤nl.length)∧(J z.1 z.2)∧(Fo A0 T z.2)}) [0,1,5,6] [1] U U (fun z=>[(7,(vI (z.1.1:Int)))]) (fun z=>[z.1.2]) (fun _=>rfl) (fun _=>rfl) (fun z=>nl.length-z.1.1) ⟨(0,A0),F⟩ (bf U) (aK [1,0]) ?_
 clear F
 rintro ⟨⟨i,A⟩,⟨G,B,C⟩⟩ J2 L
 try dsimp only at G B C
 try dsimp only
 refine WS fun _ N=>rP 1 [] I ?_
 refine RK N<|ag fun _ O=>bO U (aO fun AA=>?_) (aN fun AA=>?_)
 ·refine bM<|ab<|ab<|aF ?_
  refine hN _ _ _ (j4 (vs:=[]) trivial fun w hs=>Sv 1 U (by rw [ui]; have e:nl.length=i:=om; rw [e]; exact B) C hs)
 refine WK O<|ag fun _ P=>ax<|WS fun _ R=>?_
 obtain ⟨x,hx⟩:=aA nl i om
 have S:=bH iC hx
 refine rS (IA i U (av 0 U) dI dc om om)<|rS (gv i 0 (vI x) U bV (av 0 U) S U dc U)<|bp 1 U<|RK R<|WS fun _ H=>rP 2 [] I ?_
 refine E4 1 hY B C U U U (Ha hx) U U (fun B9 E D=>?_) (fun B9 E D=>?_)
 rotate_left 1
 ·refine rP 1 [] I ?_
  refine RK H<|aL U<|ak ?_
  refine hQ _ _ _ (j4 (vs:=[]) trivial fun w hs=>OD 1 U E D hs)
 refine bp 1 U<|RK H<|bT U<|cg<|aJ<|KK P<|ao<|rP 2 [] I ?_
 refine aC ?_
 refine a_ (L ⟨((i+1),B9),⟨om,E,D⟩⟩ _ _ _ U os (bf U) (aK [0,1]))
end
section
open Go.RowKit
theorem Ni (x:Int):
 dG Tryz.prog 205 [(vI x)] [] (vB false):=by
 refine bG kr Tryz.func205 U U fun C Q hQ hN=>?_
 try dsimp only
 refine WS fun _ A=>bp 1 U<|RK A<|WS fun _ B=>rP 4 [] I ?_
 refine RK B<|ak<|Q1 hQ U U U ?_
 simp
theorem M8 (x y:Int):
 dG Tryz.prog 179 [(vI x),(vI y)] [] (vB (decide (x<y))):=by
 refine bG kr Tryz.func179 U U fun C Q hQ hN=>?_
 try dsimp only
 refine WS fun _ A=>bp 1 U<|RK A<|WS fun _ B=>bp 1 U<|rS (CL (Ni x) (aS) U)<|rP 11 [] I ?_
 refine RK B<|ak<|Q1 hQ U U U ?_
 exact cB (gT.2 om)
theorem HH (l:List Int) (lA:OA) (lC:Nat) (hlen:l.length≤1000000):
 LF Tryz.prog 173 [(vS lA l.length lC),(vI 0),(vI (l.length:Int))] [] (own lA lC 3 1 (l.map iC)) (fun (x:(List Int))=>(vT [])) (fun (x:(List Int))=>x.Perm l∧x.Pairwise (· ≤ ·)) (fun (x:(List Int))=>(own lA lC 3 1 (x.map iC))):=by
 refine vl kr Tryz.func173 U U fun g Q hQ hN=>?_
 try dsimp only
 refine WS fun _ X=>bp 1 U<|rS (SX (eQ (r:= .int .i64 1) U U U (oN ⟨dc,dc⟩)) U U)<|rP 1 [] I ?_
 refine RK X<|ax ?_
 have A:(1≤1∧(1≤l.length∨1=1))∧(l.length=l.length)∧(l.Perm l)∧(OW l 1):=by exact ⟨om,rfl,List.Perm.refl _,MZ⟩
 refine bP (ι:={z:Nat×(List Int) // (1≤z.1∧(z.1≤l.length∨z.1=1))∧(z.2.length=l.length)∧(z.2.Perm l)∧(OW z.2 z.1)}) [0,1,2] [] U U (fun z=>[(6,(vI (z.1.1:Int)))]) (fun z=>[(own lA lC 3 1 (z.1.2.map iC))]) (fun _=>rfl) (fun _=>rfl) (fun z=>l.length-z.1.1) ⟨(1,l),A⟩ (bf U) (aK [0]) ?_
 clear A
 rintro ⟨⟨i,m⟩,⟨K,AB,E,F⟩⟩ J2 M
 try dsimp only at K AB E F
 try dsimp only
 refine ag fun _ Y=>WS fun _ Z=>rP 3 [] I ?_
 refine RK Z<|bO U (aO fun e=>?_) (aN fun e=>?_)
 ·refine bM<|ab<|ab<|aF<|LM hN m 0 [] I U U U U ?_
  exact ⟨E,Mb F om⟩
 refine WK Y<|ag fun _ O=>ax<|WS fun _ b=>rP 2 [] I ?_
 refine RK b<|ax ?_
 have A:(i≤i)∧(m.length=l.length)∧(m.Perm l)∧(PJ m i i):=by exact ⟨Nat.le_refl _,AB,E,Gl F om⟩
 refine bP (ι:={z:Nat×(List Int) // (z.1≤i)∧(z.2.length=l.length)∧(z.2.Perm l)∧(PJ z.2 i z.1)}) [0,1,2,6] [] U U (fun z=>[(7,(vI (z.1.1:Int)))]) (fun z=>[(own lA lC 3 1 (z.1.2.map iC))]) (fun _=>rfl) (fun _=>rfl) (fun z=>z.1.1) ⟨(i,m),A⟩ (bf U) (aK [0]) ?_
 clear A
 rintro ⟨⟨j,q⟩,⟨G,B,C,D⟩⟩ J8 W
 try dsimp only at G B C D
 try dsimp only
 refine ag fun _ c=>ag fun _ J=>cS cj 15 kr<|dP 4 [] I ?_
 refine jm (t:=19) U (aO fun hj=>?_) (aN fun hj=>?_)
 ·refine kI 11 U<|cu<|RK J<|bT U<|bM<|ab<|ab<|aF<|aJ<|KK O<|ao<|rP 3 [] I ?_
  refine aC ?_
  refine a_ (M ⟨((i+1),q),⟨om,B,C,by exact KF om D⟩⟩ _ _ _ U (by simp only []; omega) (bf U) (aK [0]))
 refine dP 2 [] I ?_
 obtain ⟨x,hx⟩:=aA q j om
 have L:=bH iC hx
 refine dS (IA j U (ar (n:=l.length) 0 U sq) dI dc om om) ?_
 refine dS (gv j 0 (vI x) U bV (ar (n:=q.length) 0 U sm) L U dc U)<|dP 3 [] I ?_
 obtain ⟨y,hy⟩:=aA q (j-1) om
 have V:=bH iC hy
 refine dS (IA (j-1) U (ar (n:=l.length) 0 U sq) dI dc om om) ?_
 refine dS (gv (j-1) 0 (vI y) U bV (ar (n:=q.length) 0 U sm) V U dc U)<|dS (CL (M8 x y) (aS) U)<|dP 1 [] I ?_
 refine cu<|RK J<|bO U (aO fun H=>?_) (aN fun H=>?_)
 ·refine bM<|ab<|ab<|aF<|aJ<|KK O<|ao<|rP 3 [] I ?_
  refine aC ?_
  refine a_ (M ⟨((i+1),q),⟨om,B,C,by exact I5 hx hy om G H D⟩⟩ _ _ _ U (by simp only []; omega) (bf U) (aK [0]))
 refine WK c<|ag fun _ N=>ax<|dp cj [15,16,17] [8,9,12,13,14] [] [] [0] U U U U U<|eS U (MV U)<|eS U (MV U)<|eS U (MV U)<|eS U (MV U)<|eS U (BI U (yE ⟨om,om⟩))<|eS U (MV U)<|eS U (MV U)<|eS U (BI U (yE ⟨om,om⟩)) ?_
 refine fS U (IA (j-1) U (ar (n:=l.length) 0 U sq) dI dc om om) ?_
 refine fS U (gv (j-1) 0 (vI y) U bV (ar (n:=q.length) 0 U sm) V U dc U)<|eS U (MV U)<|eS U (MV U) ?_
 refine fS U (IA j U (ar (n:=l.length) 0 U sq) dI dc om om) ?_
 refine fS U (gv j 0 (vI x) U bV (ar (n:=q.length) 0 U sm) L U dc U) ?_
 refine fS U (IA j U (ar (n:=l.length) 0 U sq) dI dc om om) ?_
 refine eg U<|cf U fun T12 P=>eo (k:=j) (o:=0) (vs:=[(vI y)]) (es':=(List.map iC (q.set j y))) (C':=[(own lA lC 3 1 (List.map iC (q.set j y)))]) 0 U U U En U U U U L U dc (by exact (List.map_set (f:=iC) (l:=q) (i:=j) (a:=y)).symm) U<|aC (P _ _ (aK []) ?_)
 refine cf U fun T13 R=>?_
 obtain ⟨d,AA⟩:=aA (q.set j y) (j-1) os
 have hx15m:(List.map iC (q.set j y))[(j-1)]? =some (iC d):=by rw [f_,AA]; rfl
 refine rS (IA (j-1) U (ar (n:=l.length) 0 U sq) dI dc om om) ?_
 refine aC (R _ _ (aK []) ?_)
 refine cf U fun T16 S=>eo (k:=(j-1)) (o:=0) (vs:=[(vI x)]) (es':=(List.map iC ((q.set j y).set (j-1) x))) (C':=[(own lA lC 3 1 (List.map iC ((q.set j y).set (j-1) x)))]) 0 U U U En U U U U hx15m U dc (by exact (List.map_set (f:=iC) (l:=(q.set j y)) (i:=(j-1)) (a:=x)).symm) U<|aC (S _ _ (aK []) ?_)
 refine e8 U<|aJ<|KK N<|ao<|rP 3 [] I ?_
 refine aC ?_
 have T:(vI (((j-1):Nat):Int))=(vI ((j:Int)-1)):=by exact cI om
 refine a_ (W ⟨((j-1),((q.set j y).set (j-1) x)),⟨om,by simp; exact B,(HW hx hy).trans C,Kv hx hy om G H D⟩⟩ _ _ _ U (by simp only []; omega) (cz 4<|aU U T<|cR.nil _) (aK [0]))
theorem MT (x:Int) (hx:0≤x∧x≤100):
 lR Tryz.prog 183 [(Value.int .u64 x)] [] (fun (x:Int)=>(vI x)) (fun (x:Int)=>True) (fun (x:Int)=>[]):=by
 refine dL kr Tryz.func183 U U fun N Q hQ hN=>?_
 try dsimp only
 refine WS fun _ D=>bp 1 U<|RK D<|ag fun _ E=>WS fun _ F=>rP 1 [] I ?_
 refine rS (BI U E1)<|RK F<|cb U (aN fun L=>?_) (aO fun L=>?_)
 ·exfalso; omega
 refine WK E<|ag fun _ G=>WS fun _ H=>rP 1 [] I ?_
 refine rS (BI U E1)<|RK H<|cb U (aN fun M=>?_) (aO fun M=>?_)
 ·exfalso; omega
 refine WK G<|ag fun _ AA=>WS fun _ J=>rP 1 [] I ?_
 refine rS (BI U E1)<|RK J<|cb U (aN fun C=>?_) (aO fun C=>?_)
 ·exfalso; omega
 refine WK AA<|WS fun _ B=>bp 2 U<|rS (SX (sK (m:=x) U U RO N8 (De (by first|assumption|omega))) U U)<|Qo (k:=(x).toNat) U U U Vz om (Nat.lt_of_lt_of_le (m:=200) om (of_decide_eq_true kr)) U fun A K=>rS (SX (sK (m:=A) U U N8 oV (oO (by first|assumption|omega))) U U)<|rP 2 [] I ?_
 refine RK B<|ak<|LX hQ (0+A) [] [] I U U U U ?_
 trivial
theorem Pq (x:Int) (hx:0≤x∧x≤100):
 lR Tryz.prog 146 [(Value.int .u64 x)] [] (fun (x:Int)=>(vI x)) (fun (x:Int)=>True) (fun (x:Int)=>[]):=by
 refine dL kr Tryz.func146 U U fun F Q hQ hN=>?_
 try dsimp only
 refine WS fun _ A=>bp 1 U<|RK A<|ag fun _ B=>bT U<|WK B<|WS fun _ C=>rP 1 [] I ?_
 refine cX (MT x hx) (aS) U fun E D=>?_
 try dsimp only
 refine rP 1 [] I ?_
 refine RK C<|ak<|LX hQ E [] [] I U U U U ?_
 trivial
theorem Tx (l:List Int) (lA:OA) (lC:Nat) (u:Int) (hlen:l.length≤12):
 LF Tryz.prog 145 [(vS lA l.length lC),(vI 0),(vI (l.length:Int)),(vI u)] [] (own lA lC 3 1 (l.map iC)) (fun (x:(List Int))=>(vT [])) (fun (x:(List Int))=>x.Perm l∧x.Pairwise (· ≤ ·)) (fun (x:(List Int))=>(own lA lC 3 1 (x.map iC))):=by
 refine vl kr Tryz.func145 U U fun K Q hQ hN=>?_
 try dsimp only
 refine WS fun _ A=>bp 1 U<|RK A<|WS fun _ B=>bp 1 U<|RK B<|ax<|rL 1<|lf fun R3 AA=>ax<|WS fun _ C=>bp 4 U<|RK C<|ag fun _ H=>WS fun _ D=>rP 2 [] I ?_
 refine RK D<|bO U (aO fun G=>?_) (aN fun G=>?_)
 ·exfalso; omega
 refine WS fun _ E=>rP 3 [] I ?_
 refine oS 0 U U U U (HH l lA lC om) U re U (fun J F=>?_)
 try dsimp only
 refine RK E<|ak<|LM hQ J 0 [] I U U U U ?_
 assumption
theorem O2 (l:List Int) (lA:OA) (lC:Nat) (hlen:l.length≤12):
 LF Tryz.prog 110 [(vS lA l.length lC)] [] (own lA lC 3 1 (l.map iC)) (fun (x:(List Int))=>(vT [])) (fun (x:(List Int))=>x.Perm l∧x.Pairwise (· ≤ ·)) (fun (x:(List Int))=>(own lA lC 3 1 (x.map iC))):=by
 refine vl kr Tryz.func110 U U fun F Q hQ hN=>?_
 try dsimp only
 refine WS fun _ A=>bp 3 U<|RK A<|ao<|rP 3 [] I ?_
 refine rS (SX (sK (m:=(l.length:Int)) U U oV SI (AN (by first|assumption|omega))) U U)<|cX (Pq (l.length:Int) om) (aS) U fun E B=>?_
 try dsimp only
 refine oS 0 U U U U (Tx l lA lC E hlen) U re U (fun D C=>?_)
 try dsimp only
 refine aC<|LM hN D 0 [] I U U U U ?_
 assumption
end
section
open Go.RowKit
theorem IZ (nl:List Int) (nlA:OA) (nlC g1:Nat) (hlen:nl.length≤12):
 lR Tryz.prog 144 [(vS none 0 0),(Value.func (.func 111) [].toArray [(vP g1)].toArray)] [(rd nlA nl.length 1 (nl.map iC)),(cy g1 29 [(vS nlA nl.length nlC)])] (fun (x:(OA)×Nat)=>(vS x.1 nl.length x.2)) (fun (x:(OA)×Nat)=>True) (fun (x:(OA)×Nat)=>[(own x.1 x.2 3 1 (nl.map iC))]):=by
 refine dL kr Tryz.func144 U U fun R Q hQ hN=>?_
 try dsimp only
 refine WS fun _ D=>wV U U fun J=>bp 1 U<|RK D<|ag fun _ E=>WS fun _ G=>rP 1 [] I ?_
 refine RK G<|ax<|jv 1 U (by exact fun _ h=>h)<|jv 3 U (by exact fun _ h=>h)<|fu 3 1 ?_
 refine F4 (L0:=[(2,(vP J))]) (F:=[(rd nlA nl.length 1 (nl.map iC)).ro,(cy g1 29 [(vS nlA nl.length nlC)]).ro]) (xs:=(rG nl)) (fun k (y:(OA)×Nat)=>True) (fun k y=>[(own y.1 y.2 3 1 ((nl.take k).map iC)),(cy J 29 [(vS y.1 ((nl.take k).length) y.2)]),(rd nlA nl.length 1 (nl.map iC)).ro]) (fun _ (_:Unit)=>False) (fun _ _=>[]) [0,3,4] [2,1] (none,0) U U (H5 nl nlA nlC g1 (by first|assumption|omega|(simp; done))) U U U (by trivial) (by simp only [List.forall_mem_cons,List.not_mem_nil,false_imp_iff,implies_true,and_true]; exact ⟨⟨_,sm,(dM (b_ _))⟩,⟨_,sm,(dM (b_ _))⟩⟩) (by exact EJ) U (bf U) ?_ ?_ (fun _ _ _ h=>h.elim) (fun _ _ h=>h.elim)
 rotate_left 1
 ·rintro O ⟨a,c⟩ AA
  try dsimp only
  rw [yX]
  refine aJ<|KK E<|WS fun _ A=>rP 2 [] (mc 4 U I) ?_
  refine RK A<|ak<|hQ _ _ _ (rh 0 U U<|j4 (vs:=[(vS a nl.length c)]) ⟨U,trivial⟩ fun w hs=>PU (a,c) [3] ?_ ?_ U U U hs)
  ·rfl
  ·trivial
 rintro k x ⟨a,c⟩ l ra rb S T K5 Qr6 hx K H B L M
 obtain ⟨y,hy,rfl⟩:=Gk hx
 try dsimp only
 refine ao<|rP 1 [] I ?_
 refine aC<|a_ (H _ _ ?_)
 refine ax<|ao<|rP 2 [] (mc 2 U I) ?_
 refine e9 (xs:=[.tmp 9]) (cs:=[(vI y)]) U dI kR U U U U (by simp [Value.cells]) U U fun P=>?_
 refine cP (es2:=(List.map iC (nl.take (k+1)))) (m':=(nl.take (k+1)).length) 2 U U U pg U U sm (bo (es:=List.map iC [y]) 0 U U (by simp [bX]) U) (jN _) (by simp; omega) (by simp [maxLen]; omega) (by rw [yl hy]; simp) sm U fun N C=>?_
 try dsimp only
 refine VK U Bs U U<|aC<|aJ ?_
 exact B (N,C) _ _ (by trivial) (aK [1,2,3,4])
theorem GW (nl:List Int) (nlA:OA) (nlC g1:Nat) (hlen:nl.length≤12):
 lR Tryz.prog 109 [(Value.func (.func 111) [].toArray [(vP g1)].toArray)] [(rd nlA nl.length 1 (nl.map iC)),(cy g1 29 [(vS nlA nl.length nlC)])] (fun (x:(OA)×Nat)=>(vS x.1 nl.length x.2)) (fun (x:(OA)×Nat)=>True) (fun (x:(OA)×Nat)=>[(own x.1 x.2 3 1 (nl.map iC))]):=by
 refine dL kr Tryz.func109 U U fun G Q hQ hN=>?_
 try dsimp only
 refine WS fun _ A=>bp 1 U<|RK A<|WS fun _ B=>rP 1 [] I ?_
 refine cX (IZ nl nlA nlC g1 hlen) (aY [0,1]) U fun F E=>?_
 obtain ⟨C,D⟩:=F
 try dsimp only
 refine rP 1 [] I ?_
 refine RK B<|ak<|LX hQ (C,D) [0] [] I U U U U ?_
 trivial
theorem I_ (nl:List Int) (nlA:OA) (nlC g1:Nat) (hlen:nl.length≤12):
 lR Tryz.prog 89 [(Value.func (.func 111) [].toArray [(vP g1)].toArray)] [(rd nlA nl.length 1 (nl.map iC)),(cy g1 29 [(vS nlA nl.length nlC)])] (fun (x:(OA)×Nat)=>(vS x.1 nl.length x.2)) (fun (x:(OA)×Nat)=>True) (fun (x:(OA)×Nat)=>[(own x.1 x.2 3 1 ((ob nl).map iC))]):=by
 refine dL kr Tryz.func89 U U fun J Q hQ hN=>?_
 try dsimp only
 refine WS fun _ B=>bp 1 U<|RK B<|WS fun _ C=>rP 1 [] I ?_
 refine cX (GW nl nlA nlC g1 hlen) (aY [0,1]) U fun AA H=>?_
 obtain ⟨F,G⟩:=AA
 try dsimp only
 refine bp 1 U<|RK C<|WS fun _ D=>rP 1 [] I ?_
 refine oS 0 U U U U (O2 nl F G hlen) U re U (fun m A=>?_)
 try dsimp only
 refine RK D<|WS fun _ E=>?_
 obtain rfl:=CR A.1 A.2
 skip
 refine rP 2 [] I ?_
 refine RK E<|ak<|LX hQ (F,G) [0] [] I U U U U ?_
 trivial
end
section
open Go.RowKit
theorem Io (r:eU) (kA:OA) (kC:Nat) (az:List RA) (cA:OA) (cC:Nat) (bA:OA) (bC:Nat) (slA:OA) (slC:Nat) (drA:OA) (drC:Nat) (ha:List bZ) (heA:OA) (heC:Nat) (tz:List RA) (tA:OA) (tC:Nat) (ms:Value) (gw h:Nat) (gm g1 g2:Nat) (hin:iL r az ha) (htz:tz.length=r.aI.length) (hh:h<r.aI.length) (hok:kH r (h+1)):
 LF Tryz.prog 114 [(vI (h:Int)),(vP g1),(vP g2)] ((I8 r kA az cA bA slA drA ha heA)++[(rd tA ((fU r).length) 1 (List.zipWith L4 (fU r) tz)),(iH (bK QK (fU r) tz)),(cy gw 125 (kK.cells (kK.mk (wq r kA kC cA cC bA bC slA slC drA drC heA heC) (bj.mk tA ((fU r).length) tC) ms))),(cy g1 117 [(vP gw)]),(cy g2 123 [(Value.map (some gm))])]) (kx iV gm (cT j5 (eK r.au r.aI r.bu.length h 0))) (fun (x:Unit)=>(vT [])) (fun (x:Unit)=>True) (fun (x:Unit)=>(kx iV gm (cT j5 (eK r.au r.aI r.bu.length (h+1) 0)))):=by
 have v:=hin.line
 have A3:=hin.fE
 have A4:=hin.has
 have AU:=hin.fM
 have AC:=hin.draw
 have Ag:=jo (r:=r)
 refine vl kr Tryz.func114 U U fun w0 Q hQ hN=>?_
 try dsimp only
 refine WS fun _ g=>dY 1 [] (mr 12 U I) U<|rS (SX (cv U U) U U)<|rP 3 [] (mr 11 U I) ?_
 obtain ⟨ht,B⟩:=aA r.aI h om
 obtain ⟨A,C⟩:=aA ha h om
 have Z:(List.zipWith cL r.aI ha)[h]? =some (cL ht A):=cG B C
 have s:=hin.fJ _ _ _ B C
 have AO:=s.lS
 have N:=hok h ht om B
 obtain ⟨tr,G⟩:=aA (fU r) h om
 obtain ⟨tra,F⟩:=aA tz h om
 have c:(List.zipWith L4 (fU r) tz)[h]? =some (L4 tr tra):=cG G F
 refine rS (IA h U (av 9 U) IS dc om om)<|rS (gv h 0 (vS tra.1 tr.length tra.2) U bV (av 9 U) c U dc U) ?_
 have AB:=Hj B G
 have A0:tr.length=r.bu.length:=by rw [AB,List.length_map]; exact N.1
 have Ax:=N.1
 refine rP 2 [] I ?_
 refine RK g<|ax ?_
 have E:(0≤r.bu.length):=by exact Nat.zero_le _
 refine bP (ι:={z:Nat // (z≤r.bu.length)}) [0,1,2,14,15] [1,2,3,4,5,6,7,8,9,10,11,12,13] U U (fun z=>[(16,(vI (z.1:Int)))]) (fun z=>[(kx iV gm (cT j5 (eK r.au r.aI r.bu.length h z.1)))]) (fun _=>rfl) (fun _=>rfl) (fun z=>r.bu.length-z.1) ⟨0,E⟩ (bf U) (aK [1,2,3,4,5,6,7,8,9,10,11,12,13,0]) ?_
 clear E
 rintro ⟨i,u⟩ J2 K
 try dsimp only
 have a:i<r.bu.length→(eK r.au r.aI r.bu.length h i).lookup (i:Int)=kb r.au r.aI i h:=I7
 refine WS fun _ k=>rP 1 [] I ?_
 refine RK k<|ag fun _ m=>bO U (aO fun h5=>?_) (aN fun h5=>?_)
 ·refine bM<|ab<|ab<|aF ?_
  rw [show (eK r.au r.aI r.bu.length h i)=(eK r.au r.aI r.bu.length (h+1) 0) from by rw [show i=r.bu.length by omega]; exact NA]
  refine LM hN () 13 [] I U U U U ?_
  trivial
 refine WK m<|ag fun _ L=>ax<|WS fun _ n=>rP 1 [] I ?_
 obtain ⟨x,hx⟩:=aA tr i om
 have y:=bH ai.cells hx
 refine rS (IA i U (show g9 _ (rd tra.1 tr.length 2 (tr.map ai.cells)).holds from (cd 9 U (bB G F (by simp [QK])))) lF dc om om)<|rS (jL i 0 (ai.cells x) U bV (show g9 _ (rd tra.1 tr.length 2 (tr.map ai.cells)).holds from (cd 9 U (bB G F (by simp [QK])))) y U dc U U)<|AL U eh fun b8=>bp 1 U<|e7 U cW U<|RK n<|WS fun _ o=>dY 2 [] (mr 13 U I) U<|rS (SX (tI (kV:=iV) (x:=(i:Int)) (l:=(eK r.au r.aI r.bu.length h i)) (f:=j5) (z:=(ai.mk 0 0)) U U U sZ (iW oV) UX (by exact av 14 U)) U U)<|bp 3 U<|AL U eh fun A1=>e7 U cW U<|bp 1 U<|RK o<|ag fun _ P=>WS fun _ H=>dY 1 [] (mr 13 U I) U<|rS (SX (cv U U) U U)<|dY 4 [] (mr 12 U I) U<|rS (IA h U (av 8 U) kF dc om om)<|rS (gv h 0 (vS A.1.1 ht.length A.1.2) U bV (av 8 U) Z U dc U)<|rP 1 [] I ?_
 obtain ⟨d,hd⟩:=aA ht i om
 obtain ⟨da,p⟩:=aA A.2 i om
 have q:(List.zipWith aq.cells ht A.2)[i]? =some (aq.cells d da):=cG hd p
 refine rS (IA i U (show g9 _ (rd A.1.1 ht.length 7 (List.zipWith aq.cells ht A.2)).holds from (cd 9 U (bB B C cr))) ov dc om om)<|rS (nQ (i*7) U (show g9 _ (rd A.1.1 ht.length 7 (List.zipWith aq.cells ht A.2)).holds from (cd 9 U (bB B C cr))) (Nat.mul_pos om dc) eD U)<|rS (gv i 0 (vB d.Out) U bV (show g9 _ (rd A.1.1 ht.length 7 (List.zipWith aq.cells ht A.2)).holds from (cd 9 U (bB B C cr))) q U dc U)<|rP 1 [] I ?_
 refine bS (t:=39) U (fun J=>?_) (fun J=>?_)
 ·refine bp 3 U<|RK H<|aL U<|WS fun _ R=>rP 2 [] (mr 14 U I) ?_
  have T:(fz (eK r.au r.aI r.bu.length h i) (i:Int))=(eK r.au r.aI r.bu.length h (i+1)):=by exact F9 (by exact Hl B hd J)
  refine tj (kV:=iV) (x:=(i:Int)) (C':=[_,_,_,_,_,_,_,_,_,_,_,_,_,_,_,(kx iV gm (cT j5 (eK r.au r.aI r.bu.length h (i+1))))]) 15 U U U U sZ (iW oV) U ((nS _ _ _).symm.trans (congrArg _ T)) U<|RK R<|bM<|ab<|aF<|KK L<|ao<|rP 2 [] I ?_
  refine aC ?_
  have AA:(vI (((i+1):Nat):Int))=(vI ((i:Int)+1)):=by exact cI om
  refine a_ (K ⟨(i+1),(by first|omega|(simp only []; omega))⟩ _ _ _ U os (cz 5<|aU U AA<|cR.nil _) (aK [2,3,4,5,6,7,8,9,10,11,12,13,14,15]))
 refine rP 3 [] I ?_
 refine RK H<|cb U (fun D=>?_) (fun D=>?_)
 ·rw [Bool.not_eq_true'] at D
  refine WS fun _ S=>rP 2 [] (mr 14 U I) ?_
  have V:(fz (eK r.au r.aI r.bu.length h i) (i:Int))=(eK r.au r.aI r.bu.length h (i+1)):=by exact F9 (by exact EC ((a om).symm.trans (Option.not_isSome_iff_eq_none.1 (by rw [D]; decide))))
  refine tj (kV:=iV) (x:=(i:Int)) (C':=[_,_,_,_,_,_,_,_,_,_,_,_,_,_,_,(kx iV gm (cT j5 (eK r.au r.aI r.bu.length h (i+1))))]) 15 U U U U sZ (iW oV) U ((nS _ _ _).symm.trans (congrArg _ V)) U<|RK S<|bM<|ab<|aF<|KK L<|ao<|rP 2 [] I ?_
  refine aC ?_
  have W:(vI (((i+1):Nat):Int))=(vI ((i:Int)+1)):=by exact cI om
  refine a_ (K ⟨(i+1),(by first|omega|(simp only []; omega))⟩ _ _ _ U os (cz 5<|aU U W<|cR.nil _) (aK [2,3,4,5,6,7,8,9,10,11,12,13,14,15]))
 rw [Bool.not_eq_false'] at D
 refine WK P<|ao ?_
 obtain ⟨O,b⟩:=Option.isSome_iff_exists.1 D
 have M:kb r.au r.aI i h=some O:=(a om).symm.trans b
 have e:=PM AB hx hd
 have A5:=Fc (fun j x hj hx=>hok j x om hx) om M
 have w:=F6 (N.2 d (aP hd))
 rw [← e] at w
 rw [show ((List.lookup (i:Int) (eK r.au r.aI r.bu.length h i)).getD (ai.mk 0 0))=O from by rw [b]; rfl]
 refine dY 6 [0,1,2] (mr 14 U (mc 0 U (mc 1 U I))) U<|rS (BI U (vh om om om))<|dY 5 [0,1] (mc 0 U (mc 1 U I)) U<|rS (BI U (vh om om om))<|rP 1 [] I ?_
 refine rS (SX (bE (xs:=[(0,.tmp 52),(1,.tmp 58)]) (cs:=(ai.cells (ai.mk (O.Lo+(x.Lo/10)) (O.Hi+(x.Hi/10))))) U U (bD g6 U)) U U) ?_
 have X:(eC (eK r.au r.aI r.bu.length h i) (i:Int) (ai.mk (O.Lo+(x.Lo/10)) (O.Hi+(x.Hi/10))))=(eK r.au r.aI r.bu.length h (i+1)):=by exact Nd om (by rw [M]; rfl) (by rw [e]; exact D2 B hd (by rw [J]; decide) M)
 refine je (kV:=iV) (x:=(i:Int)) (C':=[_,_,_,_,_,_,_,_,_,_,_,_,_,_,_,(kx iV gm (cT j5 (eK r.au r.aI r.bu.length h (i+1))))]) 15 U U U U sZ (iW oV) U ((gX _ _ _ _).symm.trans (congrArg _ X)) U<|aC<|aJ<|KK L<|ao<|rP 2 [] I ?_
 refine aC ?_
 have Y:(vI (((i+1):Nat):Int))=(vI ((i:Int)+1)):=by exact cI om
 refine a_ (K ⟨(i+1),(by first|omega|(simp only []; omega))⟩ _ _ _ U os (cz 5<|aU U Y<|cR.nil _) (aK [2,3,4,5,6,7,8,9,10,11,12,13,14,15]))
theorem Sa (r:eU) (kA:OA) (kC:Nat) (az:List RA) (cA:OA) (cC:Nat) (bA:OA) (bC:Nat) (slA:OA) (slC:Nat) (drA:OA) (drC:Nat) (ha:List bZ) (heA:OA) (heC:Nat) (tz:List RA) (tA:OA) (tC:Nat) (ms:Value) (gw n:Nat) (hin:iL r az ha) (htz:tz.length=r.aI.length) (hn:n≤r.aI.length) (hok:kH r n):
 lR Tryz.prog 92 [(vP gw),(vI (n:Int))] ((I8 r kA az cA bA slA drA ha heA)++[(rd tA ((fU r).length) 1 (List.zipWith L4 (fU r) tz)),(iH (bK QK (fU r) tz)),(cy gw 125 (kK.cells (kK.mk (wq r kA kC cA cC bA bC slA slC drA drC heA heC) (bj.mk tA ((fU r).length) tC) ms)))]) (fun (x:Nat)=>(Value.map (some x))) (fun (x:Nat)=>True) (fun (x:Nat)=>[(kx iV x (cT j5 (Cc r n)))]):=by
 have c:=hin.line
 have m:=hin.fE
 have o:=hin.has
 have e:=hin.fM
 have d:=hin.draw
 have f:=jo (r:=r)
 refine dL kr Tryz.func92 U U fun q Q hQ hN=>?_
 try dsimp only
 refine WS fun _ V=>wV U U fun k=>rP 1 [] I ?_
 refine RK V<|WS fun _ W=>mZ (kV:=iV) U U fun B=>?_
 try dsimp only
 refine AL U Sj fun l=>MI U F_ U U<|RK W<|ag fun _ X=>WS fun _ Y=>dY 1 [] (mc 2 U I) U<|rS (SX (cv U U) U U)<|rP 5 [] (mr 13 U I) ?_
 refine RK Y<|ax ?_
 skip
 have A:(0≤r.bu.length):=by exact Nat.zero_le _
 refine bP (ι:={z:Nat // (z≤r.bu.length)}) [1,2,5,15] [0,2,3,4,5,6,7,8,9,10,11,12,13] U U (fun z=>[(16,(vI (z.1:Int)))]) (fun z=>[(kx iV B (cT j5 (eK r.au r.aI z.1 0 0)))]) (fun _=>rfl) (fun _=>rfl) (fun z=>r.bu.length-z.1) ⟨0,A⟩ (bf U) (aK [0,2,3,4,5,6,7,8,9,10,11,12,13,1]) ?_
 clear A
 rintro ⟨i,a⟩ J8 AA
 try dsimp only
 refine WS fun _ Z=>rP 1 [] I ?_
 refine RK Z<|ag fun _ D=>cb U (aN fun S=>?_) (aO fun S=>?_)
 ·refine WK D<|ag fun _ E=>ax<|WS fun _ F=>bp 2 U<|RK F<|ao<|rP 2 [] (mc 0 U I) ?_
  refine rS (SX (bE (xs:=[]) (cs:=(ai.cells (ai.mk 0 0))) U U (bD g6 U)) U U) ?_
  have O:(eC (eK r.au r.aI i 0 0) (i:Int) (ai.mk 0 0))=(eK r.au r.aI (i+1) 0 0):=by exact NF
  refine je (kV:=iV) (x:=(i:Int)) (C':=[_,_,_,_,_,_,_,_,_,_,_,_,_,(kx iV B (cT j5 (eK r.au r.aI (i+1) 0 0)))]) 13 U U U U sZ (iW oV) U ((gX _ _ _ _).symm.trans (congrArg _ O)) U<|aC<|aJ<|KK E<|ao<|rP 2 [] I ?_
  refine aC ?_
  have P:(vI (((i+1):Nat):Int))=(vI ((i:Int)+1)):=by exact cI om
  refine a_ (AA ⟨(i+1),(by first|omega|(simp only []; omega))⟩ _ _ _ U os (cz 4<|aU U P<|cR.nil _) (aK [0,1,2,3,4,5,6,7,8,9,10,11,12,13]))
 refine bM<|ab<|ab<|aF<|KK X<|WS fun _ G=>rS (FU U)<|bp 1 U<|RK G<|ag fun _ H=>WS fun _ AB=>rP 2 [] I ?_
 refine RK AB<|ax ?_
 rw [show (eK r.au r.aI i 0 0)=(eK r.au r.aI r.bu.length 0 0) from by rw [show i=r.bu.length by omega]]
 have A:(0≤n):=by exact Nat.zero_le _
 refine bP (ι:={z:Nat // (z≤n)}) [2,5,7,24] [0,1,2,3,4,5,6,7,8,9,10,11,12] U U (fun z=>[(25,(vI (z.1:Int)))]) (fun z=>[(kx iV B (cT j5 (eK r.au r.aI r.bu.length z.1 0)))]) (fun _=>rfl) (fun _=>rfl) (fun z=>n-z.1) ⟨0,A⟩ (bf U) (aK [0,1,2,3,4,5,6,7,8,9,10,11,12,13]) ?_
 clear A
 rintro ⟨h,b⟩ J19 C
 try dsimp only
 refine WS fun _ J=>rP 1 [] I ?_
 refine RK J<|ag fun _ K=>bO U (aO fun T=>?_) (aN fun T=>?_)
 ·refine bM<|ab<|ab<|aF<|KK H<|ag fun _ N=>?_
  rw [show (eK r.au r.aI r.bu.length h 0)=(Cc r n) from by rw [show h=n by omega]; exact MA]
  refine ao<|rP 2 [] (mc 0 U I) ?_
  refine RK N<|ak<|LX hQ B [13] [] I U U U U ?_
  trivial
 refine WK K<|ag fun _ L=>ax<|WS fun _ M=>bp 2 U<|RK M<|ao<|rP 2 [] I ?_
 refine oS 13 U U U U (Io r kA kC az cA cC bA bC slA slC drA drC ha heA heC tz tA tC ms gw h B k l hin htz om (by exact fun j x hj hx=>hok j x om hx)) U (eE 2 U U (dM (b_ _)) (eE 3 U U (dM (b_ _)) (eE 4 U U (dM (b_ _)) (eE 5 U U (dM (b_ _)) (eE 6 U U (dM (b_ _)) (eE 7 U U (dM (b_ _)) (eE 8 U U (dM (b_ _)) (eE 9 U U (dM (b_ _)) (eE 10 U U (dM (b_ _)) (eE 11 U U (dM (b_ _)) (eE 12 U U (dM (b_ _)) (eE 1 U U (b_ _) (eE 0 U U (b_ _) re))))))))))))) U (fun p g=>?_)
 try dsimp only
 refine aC<|aJ<|KK L<|ao<|rP 2 [] I ?_
 refine aC ?_
 have R:(vI (((h+1):Nat):Int))=(vI ((h:Int)+1)):=by exact cI om
 refine a_ (C ⟨(h+1),(by first|omega|(simp only []; omega))⟩ _ _ _ U os (cz 4<|aU U R<|cR.nil _) (aK [0,1,2,3,4,5,6,7,8,9,10,11,12,13]))
end
section
open Go.RowKit
theorem NJ (r:eU) (kA:OA) (kC:Nat) (az:List RA) (cA:OA) (cC:Nat) (bA:OA) (bC:Nat) (slA:OA) (slC:Nat) (drA:OA) (drC:Nat) (ha:List bZ) (heA:OA) (heC:Nat) (hin:iL r az ha):
 lR Tryz.prog 58 [(vA (ct.cells (wq r kA kC cA cC bA bC slA slC drA drC heA heC)))] ((rd iG 3 2 gI)::(I8 r kA az cA bA slA drA ha heA)) (fun (x:Bool×Int×Nat×Nat×(OA)×Nat×(List RA))=>bif x.1 then (vT [(Value.pointer (some ⟨x.2.2.1,0,none⟩)),(vI 0)]) else (vT [(Value.pointer none),(vI x.2.1)])) (fun (x:Bool×Int×Nat×Nat×(OA)×Nat×(List RA))=>(x.1=true→(jE r=0∧x.2.2.2.2.2.2.length=r.aI.length))∧(x.1=false→(x.2.1=jE r∧ ¬ jE r=0))) (fun (x:Bool×Int×Nat×Nat×(OA)×Nat×(List RA))=>bif x.1 then [(cy x.2.2.1 125 (kK.cells (kK.mk (wq r kA kC cA cC bA bC slA slC drA drC heA heC) (bj.mk x.2.2.2.2.1 ((fU r).length) x.2.2.2.2.2.1) (Value.map (some x.2.2.2.1))))),(own x.2.2.2.2.1 x.2.2.2.2.2.1 121 1 (List.zipWith L4 (fU r) x.2.2.2.2.2.2)),(bQ (bK E3 (fU r) x.2.2.2.2.2.2)),(kx iV x.2.2.2.1 (cT j5 (OR r)))] else []):=by
 have LT:=hin.line
 have PV:=hin.fE
 have PZ:=hin.has
 have NE:=hin.fM
 have L3:=hin.draw
 have GE:=jo (r:=r)
 refine dL kr Tryz.func58 U U fun w0 Q hQ hN=>?_
 try dsimp only
 refine WS fun _ J7=>dV U fun b2=>bp 2 U<|RK J7<|ag fun _ J8=>WS fun _ J9=>bp 1 U<|rS (LP (bW.cells (jx r.au kA kC cA cC bA bC)) 0 U bV U U U)<|rS (CL (x8 r.au kA kC az cA cC bA bC asm) (aY [2,3,4,5]) U)<|bp 1 U<|RK J9<|WS fun _ K0=>rP 2 [] I ?_
 refine RK K0<|cb U (aX fun B=>?_) (aW fun B=>?_)
 ·refine WS fun _ K4=>rP 3 [] I ?_
  refine RK K4<|ak<|LX hQ (false,(e_ r.au),0,0,none,0,[]) [] [] I U (by rfl) U U ?_
  exact o9<|QJ (zl B) B
 refine WK J8<|WS fun _ K5=>dY 4 [] (mc 0 U I) U<|RK K5<|WS fun _ K6=>rP 2 [] (mc 0 U I) ?_
 refine cX (KO drA r.cN.length drC) (aS) U fun H1 Ne=>?_
 try dsimp only
 refine cX (I_ r.cN drA drC H1 asm) (aY [8,0]) U fun L2 Nm=>?_
 obtain ⟨Or,PP⟩:=L2
 try dsimp only
 refine bp 1 U<|RK K6<|ag fun _ e=>WS fun _ H=>rP 1 [] I ?_
 refine e9 (xs:=[.tmp 29]) (cs:=[(vI (r.bu.length:Int))]) U dI kR U U U U (by simp [Value.cells]) U U fun IO=>?_
 refine rS (CL (dG.eq (uN 1 5 ([(r.bu.length:Int)]) (some ⟨IO,0,none⟩) 1 (by (simp; done))) cK) (aw (bo 0 U U (by simp [bX]) U)<|aS) U) ?_
 refine rP 2 [] I ?_
 refine bS (t:=33) U (aX fun In=>?_) (aW fun In=>?_)
 ·refine bp 26 U<|RK H<|aL U<|WS fun _ f=>rP 2 [] I ?_
  refine RK f<|ak<|LX hQ (false,60,0,0,none,0,[]) [] [] I U (by rfl) U U ?_
  exact o9<|qT (kY B (fun q:fP r=>by have q1:=q.num; have q2:=q.Ax; have q3:=q.nh; have q4:=q.AU; omega))
 refine rP 6 [] I ?_
 refine bS (t:=39) U (aX fun JJ=>?_) (aW fun JJ=>?_)
 ·refine bp 20 U<|RK H<|aL U<|WS fun _ g=>rP 2 [] I ?_
  refine RK g<|ak<|LX hQ (false,60,0,0,none,0,[]) [] [] I U (by rfl) U U ?_
  exact o9<|qT (kY B (fun q:fP r=>by have q1:=q.num; have q2:=q.Ax; have q3:=q.nh; have q4:=q.AU; omega))
 refine rP 2 [] (mc 3 U I) ?_
 refine e9 (xs:=[.tmp 41]) (cs:=[(vI r.jd)]) U dI kR U U U U (by simp [Value.cells]) U U fun IR=>?_
 refine rS (CL (dG.eq (uN 0 5 ([r.jd]) (some ⟨IR,0,none⟩) 1 (by (simp; done))) cK) (aw (bo 0 U U (by simp [bX]) U)<|aS) U) ?_
 refine rP 3 [] I ?_
 refine bS (t:=46) U (aX fun Jb=>?_) (aW fun Jb=>?_)
 ·refine bp 13 U<|RK H<|aL U<|WS fun _ k=>rP 2 [] I ?_
  refine RK k<|ak<|LX hQ (false,60,0,0,none,0,[]) [] [] I U (by rfl) U U ?_
  exact o9<|qT (kY B (fun q:fP r=>by have q1:=q.num; have q2:=q.Ax; have q3:=q.nh; have q4:=q.AU; omega))
 refine rP 3 [] (mc 4 U I) ?_
 refine e9 (xs:=[.tmp 49]) (cs:=[(vI (r.aI.length:Int))]) U dI kR U U U U (by simp [Value.cells]) U U fun Id=>?_
 refine rS (CL (dG.eq (uN 1 3 ([(r.aI.length:Int)]) (some ⟨Id,0,none⟩) 1 (by (simp; done))) cK) (aw (bo 0 U U (by simp [bX]) U)<|aS) U) ?_
 refine rP 3 [] I ?_
 refine bS (t:=54) U (aX fun Jk=>?_) (aW fun Jk=>?_)
 ·refine bp 5 U<|RK H<|aL U<|WS fun _ l=>rP 2 [] I ?_
  refine RK l<|ak<|LX hQ (false,60,0,0,none,0,[]) [] [] I U (by rfl) U U ?_
  exact o9<|qT (kY B (fun q:fP r=>by have q1:=q.num; have q2:=q.Ax; have q3:=q.nh; have q4:=q.AU; omega))
 refine dY 2 [] (mc 5 U I) U<|rS (CL (uN 0 9999 r.bu slA slC asm) (aY [11]) U)<|rP 2 [] I ?_
 refine RK H<|cb U (fun N=>?_) (fun N=>?_)
 ·rw [Bool.not_eq_true'] at N
  refine WS fun _ m=>rP 2 [] I ?_
  refine RK m<|ak<|LX hQ (false,60,0,0,none,0,[]) [] [] I U (by rfl) U U ?_
  exact o9<|qT (kY B (fun q:fP r=>by exact absurd (q.ins.symm.trans N) dc))
 rw [Bool.not_eq_false'] at N
 refine WK e<|ag fun _ o=>WS fun _ p=>?_
 have Pi:(ob r.cN).length=r.bu.length:=by rw [u_]; omega
 refine rP 2 [] I ?_
 refine RK p<|ax ?_
 have A:(0≤r.bu.length)∧(sH r 0):=by exact ⟨Nat.zero_le _,D3⟩
 refine bP (ι:={z:Nat // (z≤r.bu.length)∧(sH r z)}) [1,5,6,60] [3,5,6,7,8,9,10,11,12,13,14] U U (fun z=>[(61,(vI (z.1:Int)))]) (fun z=>[]) (fun _=>rfl) (fun _=>rfl) (fun z=>r.bu.length-z.1) ⟨0,A⟩ (bf U) (aK [3,5,6,7,8,9,10,11,12,13,14]) ?_
 clear A
 rintro ⟨i,⟨LE,J⟩⟩ J28 V
 try dsimp only
 refine WS fun _ s=>rP 1 [] I ?_
 refine RK s<|ag fun _ w=>cb U (aN fun J3=>?_) (aO fun J3=>?_)
 ·refine WK w<|ag fun _ W=>ax<|WS fun _ AC=>bp 2 U<|RK AC<|ag fun _ O=>cS cj 24 kr<|dP 2 [] I ?_
  obtain ⟨x,hx⟩:=aA (ob r.cN) i om
  have LV:=bH iC hx
  refine dS (IA i U (ar (n:=r.cN.length) 0 U sq) dI dc om om) ?_
  refine dS (gv i 0 (vI x) U bV (ar (n:=(ob r.cN).length) 0 U sm) LV U dc U)<|dP 3 [] I ?_
  refine ic (t:=70) U (aX fun S=>?_) (aW fun S=>?_)
  ·refine kI 17 U<|cu<|RK O<|aL U<|WS fun _ AO=>rP 2 [] I ?_
   refine RK AO<|ak<|LX hQ (false,60,0,0,none,0,[]) [] [] I U (by rfl) U U ?_
   exact o9<|qT (kY B (fun q:fP r=>by exact absurd (q.drawn hx) S))
  refine dP 3 [] I ?_
  refine jm (t:=73) U (aO fun J4=>?_) (aN fun J4=>?_)
  ·refine kI 14 U<|cu<|RK O<|bT U<|cg<|aJ<|KK W<|ao<|rP 2 [] I ?_
   refine aC ?_
   have EQ:(vI (((i+1):Nat):Int))=(vI ((i:Int)+1)):=by exact cI om
   refine a_ (V ⟨(i+1),⟨om,xx J hx S (fun u v hu hv hw=>by omega)⟩⟩ _ _ _ U os (cz 4<|aU U EQ<|cR.nil _) (aK [0,1,2,3,4,5,6,7,8,9,10]))
  refine dP 3 [] (mc 1 U I) ?_
  obtain ⟨y,hy⟩:=aA r.bu i om
  have La:=bH iC hy
  refine dS (IA i U (av 7 U) dI dc om om)<|dS (gv i 0 (vI y) U bV (av 7 U) La U dc U)<|dP 4 [] (mc 1 U I) ?_
  obtain ⟨z,hz⟩:=aA r.bu (i-1) om
  have Li:=bH iC hz
  refine dS (IA (i-1) U (av 7 U) dI dc om om)<|dS (gv (i-1) 0 (vI z) U bV (av 7 U) Li U dc U)<|dP 3 [] I ?_
  refine cu<|RK O<|bO U (aO fun J5=>?_) (aN fun J5=>?_)
  ·refine cg<|aJ<|KK W<|ao<|rP 2 [] I ?_
   refine aC ?_
   have Do:(vI (((i+1):Nat):Int))=(vI ((i:Int)+1)):=by exact cI om
   refine a_ (V ⟨(i+1),⟨om,xx J hx S (fun u v hu hv hw=>by (rw [hy] at hu; cases hu; rw [hz] at hw; cases hw; omega))⟩⟩ _ _ _ rfl os (cz 4<|aU rfl Do<|cR.nil _) (aK [0,1,2,3,4,5,6,7,8,9,10]))
  refine WS fun _ Ag=>rP 2 [] I ?_
  refine RK Ag<|ak<|LX hQ (false,60,0,0,none,0,[]) [] [] I U (by rfl) U U ?_
  exact o9<|qT (kY B (fun q:fP r=>by have q1:=(q.ids i y hy).2 z om hz; omega))
 refine bM<|ab<|ab<|aF<|KK o<|WS fun _ A0=>dY 1 [] (mc 1 U I) U<|rS (SX (bE (xs:=[(0,.tmp 89)]) (cs:=(kK.cells (kK.mk (wq r kA kC cA cC bA bC slA slC drA drC heA heC) (bj.mk none 0 0) (Value.map none)))) U U (bD RS U)) U U)<|dV U fun L=>bp 1 U<|RK A0<|ag fun _ A1=>WS fun _ A2=>rP 4 [] (mc 2 U I) ?_
 refine RK A2<|ax<|fu 121 1<|lx ?_
 have A:(0≤r.aI.length)∧(([]:List RA).length=0)∧(kH r 0):=by exact ⟨Nat.zero_le _,rfl,xq⟩
 refine bP (ι:={z:Nat×(List RA)×(OA)×Nat // (z.1≤r.aI.length)∧(z.2.1.length=z.1)∧(kH r z.1)}) [1,5,8,93,94] [3,4,5,6,7,8,9,10,11,12,13] U U (fun z=>[(95,(vI (z.1.1:Int)))]) (fun z=>[(bQ (bK E3 (hG r z.1.1) z.1.2.1)),(own z.1.2.2.1 z.1.2.2.2 121 1 (List.map sC (List.zipWith Bm (hG r z.1.1) z.1.2.1))),(cy L 125 (kK.cells (kK.mk (wq r kA kC cA cC bA bC slA slC drA drC heA heC) (bj.mk z.1.2.2.1 ((List.zipWith Bm (hG r z.1.1) z.1.2.1).length) z.1.2.2.2) (Value.map none))))]) (fun _=>rfl) (fun _=>rfl) (fun z=>r.aI.length-z.1.1) ⟨(0,([]:List RA),none,0),A⟩ (bf U) (aK [3,4,5,6,7,8,9,10,11,12,13,0,1,2]) ?_
 clear A
 rintro ⟨⟨h,tz,a,c⟩,⟨T,C,E⟩⟩ J42 Z
 try dsimp only at T C E
 try dsimp only
 refine WS fun _ A3=>rP 1 [] I ?_
 refine RK A3<|ag fun _ A4=>bO U (aO fun J6=>?_) (aN fun J6=>?_)
 ·refine bM<|ab<|ab<|aF<|KK A1<|ag fun _ C3=>?_
  have LA:hG r h=fU r:=by unfold fU; rw [show h=r.aI.length by omega]
  have GT:tz.length=r.aI.length:=by omega
  rw [LA,zm,show (List.zipWith Bm (fU r) tz).length=(fU r).length from by rw [List.length_zipWith]; omega]
  have X:fP r:=KW (n:=i) om om om om om N J E om
  refine ao<|rP 5 [] (mc 1 U I) ?_
  refine cX (Sa r kA kC az cA cC bA bC slA slC drA drC ha heA heC tz a c (Value.map none) L r.aI.length hin asm om (by exact X.Mg)) (mJ [3,4,5,6,7,8,9,10]<|aw (ar (n:=(fU r).length) 12 U (Mj (by rw [GE]; exact GT)))<|aw (eO 11 U Ti)<|eG 13 U U<|aS) U fun K Op=>?_
  try dsimp only
  refine rS (SX (cv U U) U U)<|rP 1 [] I ?_
  refine hU (vs:=[(Value.map (some K))]) (cs':=(kK.cells (kK.mk (wq r kA kC cA cC bA bC slA slC drA drC heA heC) (bj.mk a ((fU r).length) c) (Value.map (some K))))) (C':=[_,_,_,_,_,_,_,_,_,_,_,_,_,_,(cy L 125 (kK.cells (kK.mk (wq r kA kC cA cC bA bC slA slC drA drC heA heC) (bj.mk a ((fU r).length) c) (Value.map (some K)))))]) 14 U U U F_ U U U U U U U<|RK C3<|ag fun _ Di=>?_
  rw [show Cc r r.aI.length=OR r from rfl]
  refine ao<|rP 3 [] I ?_
  refine RK Di<|ak ?_
  refine LX hQ (true,0,L,K,a,c,tz) [14,13,12,0] [] I U (by (show List.all _ _=true; simp only [cond_true,fV,List.all_nil,DG,Bool.and_true]; rfl)) U U ?_
  exact ⟨fun _=>⟨CN B X,GT⟩,Oj⟩
 refine WK A4<|ag fun _ A5=>ax<|WS fun _ A6=>?_
 obtain ⟨ht,D⟩:=aA r.aI h om
 obtain ⟨G,AB⟩:=aA ha h om
 have Fn:(List.zipWith cL r.aI ha)[h]? =some (cL ht G):=cG D AB
 refine rS (IA h U (av 9 U) kF dc om om)<|rS (gv h 0 (vS G.1.1 ht.length G.1.2) U bV (av 9 U) Fn U dc U)<|rP 1 [] I ?_
 refine RK A6<|ag fun _ A7=>WS fun _ A8=>?_
 have Fk:=hin.fJ _ _ _ D AB
 have M2:=Fk.lS
 refine rP 4 [] I ?_
 refine RK A8<|cb U (aX fun Y=>?_) (aW fun Y=>?_)
 ·refine WS fun _ A9=>rP 2 [] I ?_
  refine RK A9<|ak<|LX hQ (false,60,0,0,none,0,[]) [] [] I U (by rfl) U U ?_
  exact o9<|qT (kY B (fun q:fP r=>by have q1:=(q.fJ ht (aP D)).1; omega))
 refine WK A7<|WS fun _ Ba=>bp 1 U<|RK Ba<|ag fun _ B3=>WS fun _ B9=>rP 3 [] I ?_
 refine RK B9<|ax<|fu 38 2 ?_
 have A:(0≤ht.length)∧(oF r.au ht 0):=by exact ⟨Nat.zero_le _,wi⟩
 refine bP (ι:={z:Nat×(OA)×Nat // (z.1≤ht.length)∧(oF r.au ht z.1)}) [1,5,8,10,93,94,95,103,104] [1,2,3,4,5,6,7,8,9,10,11,12,13,14] U U (fun z=>[(11,(vS z.1.2.1 (((ht.take z.1.1).map (gD r.au)).length) z.1.2.2)),(105,(vI (z.1.1:Int)))]) (fun z=>[(own z.1.2.1 z.1.2.2 38 2 (((ht.take z.1.1).map (gD r.au)).map ai.cells))]) (fun _=>rfl) (fun _=>rfl) (fun z=>ht.length-z.1.1) ⟨(0,none,0),A⟩ (bf U) (aK [1,2,3,4,5,6,7,8,9,10,11,12,13,14,0]) ?_
 clear A
 rintro ⟨⟨j,la,lc⟩,⟨AA,F⟩⟩ J53 b
 try dsimp only at AA F
 try dsimp only
 refine WS fun _ CB=>rP 1 [] I ?_
 refine RK CB<|ag fun _ Ci=>bO U (aO fun J2=>?_) (aN fun J2=>?_)
 ·refine bM<|ab<|ab<|aF<|KK B3<|ao<|bp 2 U<|rS (SX (cv U U) U U)<|rP 2 [] (mc 13 U I) ?_
  rw [show ((ht.take j).map (gD r.au))=ht.map (gD r.au) from by rw [List.take_of_length_le om]]
  refine rP 1 [] I ?_
  refine e9 (xs:=[.tmp 128]) (cs:=[(vS la ((ht.map (gD r.au)).length) lc)]) U IS N0 U U U U (by simp [Value.cells]) U U fun PE=>?_
  refine cP (es2:=(List.map sC (List.zipWith Bm (hG r (h+1)) (tz++[(la,lc)])))) (m':=(List.zipWith Bm (hG r (h+1)) (tz++[(la,lc)])).length) 13 U U U Ou U U sm (bo (es:=List.map sC [(bj.mk la ((ht.map (gD r.au)).length) lc)]) 0 U U (by simp [z_]) U) (Kz _) (by rw [List.length_zipWith,lz om]; omega) (by rw [List.length_zipWith,lz om]; simp only [maxLen]; omega) (by rw [uX D C,List.map_append]; rfl) (by rw [uX D C]; simp) U fun P R=>?_
  try dsimp only
  refine rS (SX (cv U U) U U)<|bp 1 U<|hU (vs:=[(vS P ((List.zipWith Bm (hG r (h+1)) (tz++[(la,lc)])).length) R)]) (cs':=(kK.cells (kK.mk (wq r kA kC cA cC bA bC slA slC drA drC heA heC) (bj.mk P ((List.zipWith Bm (hG r (h+1)) (tz++[(la,lc)])).length) R) (Value.map none)))) (C':=[_,_,_,_,_,_,_,_,_,_,_,_,_,_,(cy L 125 (kK.cells (kK.mk (wq r kA kC cA cC bA bC slA slC drA drC heA heC) (bj.mk P ((List.zipWith Bm (hG r (h+1)) (tz++[(la,lc)])).length) R) (Value.map none)))),_]) 14 U U U TB U U U U U U U<|aC<|aJ<|KK A5<|ao<|rP 2 [] I ?_
  refine aC<|yS (X':=bK E3 (hG r (h+1)) (tz++[(la,lc)])) 12 15 U U (Cw (a:=(la,lc)) D C) ?_
  have FS:(vI (((h+1):Nat):Int))=(vI ((h:Int)+1)):=by exact cI om
  refine a_ (Z ⟨((h+1),(tz++[(la,lc)]),P,R),⟨om,by simp; omega,xA E D (EP om F om)⟩⟩ _ _ _ U os (cz 5<|aU U FS<|cR.nil _) (aK [2,3,4,5,6,7,8,9,10,11,12,0,13,14]))
 refine WK Ci<|ag fun _ Ck=>ax<|WS fun _ Cp=>?_
 obtain ⟨d,hd⟩:=aA ht j om
 obtain ⟨da,Fd⟩:=aA G.2 j om
 have K8:(List.zipWith aq.cells ht G.2)[j]? =some (aq.cells d da):=cG hd Fd
 refine rS (IA j U (show g9 _ (rd G.1.1 ht.length 7 (List.zipWith aq.cells ht G.2)).holds from (cd 10 U (bB D AB cr))) ov dc om om)<|rS (jL j 0 (aR.cells (aR.mk d.Out d.cD d.Time (de.mk d.aV.Start d.aV.gL (bj.mk da.1 d.aV.aa.length da.2)))) U bV (show g9 _ (rd G.1.1 ht.length 7 (List.zipWith aq.cells ht G.2)).holds from (cd 10 U (bB D AB cr))) K8 U dc U U)<|AL U II fun Os=>e7 U Et U<|RK Cp<|WS fun _ Cx=>bp 1 U<|rS (LP (bW.cells (jx r.au kA kC cA cC bA bC)) 2 U bV U U U)<|rP 1 [] (mc 0 U I) ?_
 have Pl:=Fk.sig d (aP hd)
 refine rS (CL (DL r.au kA kC az cA cC bA bC d da.1 da.2 asm asm) (mJ [3,4,5,6,7]<|aw (show g9 _ (rd da.1 d.aV.aa.length 2 (d.aV.aa.map aH.cells)).holds from (cd 11 U (bB D AB (dH _ (bB hd Fd (by simp [aq.jU]))))))<|aS) U)<|bp 3 U<|AL U eh fun O4=>e7 U cW U<|bp 1 U<|RK Cx<|ag fun _ C0=>WS fun _ C1=>rP 2 [] I ?_
 refine RK C1<|bO U (aW fun M=>?_) (aX fun M=>?_)
 ·refine WK C0<|ao<|rP 2 [] (mc 0 U I) ?_
  refine e9 (xs:=[.tmp 119]) (cs:=(ai.cells (gD r.au d))) U lF eh U U U U (by simp [Value.cells,ai.bI]) U U fun O5=>?_
  refine cP (es2:=(List.map ai.cells ((ht.take (j+1)).map (gD r.au)))) (m':=((ht.take (j+1)).map (gD r.au)).length) 17 U U U Gd U U sm (bo (es:=List.map ai.cells [(gD r.au d)]) 0 U U (by simp [ai.bI]) U) (ld _) (by simp only [List.length_map,List.length_take]; omega) (by simp only [maxLen,List.length_map,List.length_take]; omega) (by rw [List.take_add_one,hd]; simp) sq U fun Hi If=>?_
  try dsimp only
  refine bp 1 U<|aC<|aJ<|KK Ck<|ao<|rP 2 [] I ?_
  refine aC ?_
  have Eq:(vI (((j+1):Nat):Int))=(vI ((j:Int)+1)):=by exact cI om
  refine a_ (b ⟨((j+1),Hi,If),⟨om,wg F hd M⟩⟩ _ _ _ U os (cz 10<|aU U Eq<|cR.nil _) (aK [3,4,5,6,7,8,9,10,11,12,13,14,15,16,17]))
 refine WS fun _ C2=>rP 2 [] I ?_
 refine RK C2<|ak<|LX hQ (false,60,0,0,none,0,[]) [] [] I U (by rfl) U U ?_
 exact o9<|qT (kY B (fun q:fP r=>by exact M ((q.fJ ht (aP D)).2 d (aP hd))))
end
section
open Go.RowKit
theorem BP (r:eU) (kA:OA) (kC:Nat) (az:List RA) (cA:OA) (cC:Nat) (bA:OA) (bC:Nat) (slA:OA) (slC:Nat) (drA:OA) (drC:Nat) (ha:List bZ) (heA:OA) (heC:Nat) (hin:iL r az ha):
 dG Tryz.prog 25 [(vA (ct.cells (wq r kA kC cA cC bA bC slA slC drA drC heA heC)))] ((rd iG 3 2 gI)::(I8 r kA az cA bA slA drA ha heA)) (vI (jE r)):=by
 have H:=hin.line
 have R:=hin.fE
 have S:=hin.has
 have J:=hin.fM
 have AB:=hin.draw
 have K:=jo (r:=r)
 refine bG kr Tryz.func25 U U fun X Q hQ hN=>?_
 try dsimp only
 refine WS fun _ G=>dV U fun W=>bp 1 U<|RK G<|WS fun _ C=>rP 1 [] (mc 0 U I) ?_
 refine cX (NJ r kA kC az cA cC bA bC slA slC drA drC ha heA heC hin) (aY [1,2,3,4,5,6,7,8,9]) U fun V E=>?_
 obtain ⟨F,N,P,O,AA,L,M⟩:=V
 cases F
 rotate_left 1
 ·obtain ⟨he,T⟩:=E.1 rfl
  try dsimp only [cond_true,cond_false,List.cons_append,List.nil_append]
  refine bp 5 U<|RK C<|WS fun _ B=>rP 2 [] I ?_
  refine RK B<|ak<|Q1 hQ U U U ?_
  first|rfl|(rw [he])
 obtain ⟨D,he⟩:=E.2 rfl
 try dsimp only at D he
 subst D
 try dsimp only [cond_true,cond_false,List.cons_append,List.nil_append]
 refine bp 5 U<|RK C<|WS fun _ A=>rP 2 [] I ?_
 refine RK A<|ak<|Q1 hQ U U U ?_
 first|rfl|(rw [he])
end
section
open Go.RowKit
theorem J1 (j:cw) (kA:OA) (kC:Nat) (az:List RA) (cA:OA) (cC:Nat) (bA:OA) (bC:Nat) (slA:OA) (slC:Nat) (drA:OA) (drC:Nat) (ha:List bZ) (heA:OA) (heC:Nat) (faA:OA) (faC:Nat) (prA:OA) (prC:Nat) (hin:er j az ha):
 dG Tryz.prog 37 [(vA (eY.cells (lJ j kA kC cA cC bA bC slA slC drA drC heA heC faA faC prA prC)))] ((rd iG 3 2 gI)::(pb j kA az cA bA slA drA ha heA faA prA)) (vI (dU j)):=by
 have Fk:=hin.race
 have K5:=hin.race.line
 have PE:=hin.race.fE
 have PP:=hin.race.has
 have NE:=hin.race.fM
 have L2:=hin.nf
 have M2:=hin.np
 refine bG kr Tryz.func37 U U fun w0 Q hQ hN=>?_
 try dsimp only
 refine WS fun _ J2=>dV U fun b2=>bp 1 U<|RK J2<|Ao U<|ag fun _ J3=>WS fun _ J4=>bp 1 U<|rS (LP (ct.cells (wq j.Race kA kC cA cC bA bC slA slC drA drC heA heC)) 0 U bV U U U)<|rS (CL (BP j.Race kA kC az cA cC bA bC slA slC drA drC ha heA heC asm) (aY [1,2,3,4,5,6,7,8,9]) U)<|bp 1 U<|RK J4<|WS fun _ J5=>rP 2 [] I ?_
 refine RK J5<|cb U (aX fun A=>?_) (aW fun A=>?_)
 ·refine WS fun _ J6=>rP 2 [] I ?_
  refine RK J6<|ak<|Q1 hQ U U U ?_
  exact cI (z8 A).symm
 refine WK J3<|WS fun _ J7=>rP 2 [] (mc 0 U I) ?_
 refine rS (FU U) ?_
 refine cX (ND j.aM faA faC (Value.func (.func 68) [].toArray [(vP b2)].toArray) (fun u8 u9=>(decide (¬ oY j.Race.au.bU u9))) (iH [(cy b2 36 (eY.cells (lJ j kA kC cA cC bA bC slA slC drA drC heA heC faA faC prA prC)))]) (by intro u8 u9 K6; exact lp (fi:=[]) (ca:=[(vP b2)]) (j8 (Kg u8 u9 j kA kC cA cC bA bC slA slC drA drC heA heC faA faC prA prC b2 (by (obtain ⟨i_,_,K0⟩:=K6; exact hin.kind _ (aP K0)))) (aY [0]))) asm) (eG 10 rfl rfl<|aw (j7 (aY [0]))<|aS) rfl fun La Ne=>?_
 obtain ⟨Op,O4⟩:=La
 try dsimp only
 refine bp 1 U<|RK J7<|ag fun _ b=>WS fun _ G=>rP 5 [] (mc 1 U I) ?_
 refine bS (t:=25) U (aN fun If=>?_) (aO fun If=>?_)
 ·refine bp 24 U<|RK G<|aL U<|WS fun _ c=>rP 1 [] I ?_
  refine RK c<|ak<|Q1 hQ U U U ?_
  exact cI (jQ A (fun q=>by have AB:=q.nf; have O:=q.min_; have V:=q.td; have W:=q.np; omega)).symm
 refine rP 5 [] I ?_
 refine bS (t:=30) U (aN fun S=>?_) (aO fun S=>?_)
 ·refine bp 19 U<|RK G<|aL U<|WS fun _ e=>rP 1 [] I ?_
  refine RK e<|ak<|Q1 hQ U U U ?_
  exact cI (jQ A (Er S)).symm
 refine rP 2 [] (mc 1 U I) ?_
 refine e9 (xs:=[.tmp 32]) (cs:=[(vI j.gu)]) U dI kR U U U U (by simp [Value.cells]) U U fun GE=>?_
 refine rS (CL (dG.eq (jy 0 60 ([j.gu]) (some ⟨GE,0,none⟩) 1 (by (simp; done))) cK) (aw (bo 0 U U (by simp [bX]) U)<|aS) U) ?_
 refine rP 3 [] I ?_
 refine bS (t:=37) U (aX fun JJ=>?_) (aW fun JJ=>?_)
 ·refine bp 12 U<|RK G<|aL U<|WS fun _ f=>rP 1 [] I ?_
  refine RK f<|ak<|Q1 hQ U U U ?_
  exact cI (jQ A (fun q=>by have AB:=q.nf; have O:=q.min_; have V:=q.td; have W:=q.np; omega)).symm
 refine rP 2 [] (mc 2 U I) ?_
 refine e9 (xs:=[.tmp 39]) (cs:=[(vI j.kU)]) U dI kR U U U U (by simp [Value.cells]) U U fun GT=>?_
 refine rS (CL (dG.eq (jy 0 100000 ([j.kU]) (some ⟨GT,0,none⟩) 1 (by (simp; done))) cK) (aw (bo 0 U U (by simp [bX]) U)<|aS) U) ?_
 refine rP 3 [] I ?_
 refine bS (t:=44) U (aX fun Jb=>?_) (aW fun Jb=>?_)
 ·refine bp 5 U<|RK G<|aL U<|WS fun _ g=>rP 1 [] I ?_
  refine RK g<|ak<|Q1 hQ U U U ?_
  exact cI (jQ A (fun q=>by have AB:=q.nf; have O:=q.min_; have V:=q.td; have W:=q.np; omega)).symm
 refine rP 5 [] (mc 3 U I) ?_
 refine RK G<|cb U (aN fun Jk=>?_) (aO fun Jk=>?_)
 ·refine WS fun _ h=>rP 1 [] I ?_
  refine RK h<|ak<|Q1 hQ U U U ?_
  exact cI (jQ A (fun q=>by have AB:=q.nf; have O:=q.min_; have V:=q.td; have W:=q.np; omega)).symm
 refine WK b<|WS fun _ l=>bp 1 U<|RK l<|WS fun _ m=>bp 1 U<|RK m<|ag fun _ n=>AA<|KK n<|ag fun _ C=>WS fun _ o=>rP 4 [] (mc 3 U I) ?_
 refine RK o<|ax ?_
 have N:(0≤j.aB.length)∧(oG j 0):=by exact ⟨Nat.zero_le _,xp⟩
 refine bP (ι:={z:Nat // (z≤j.aB.length)∧(oG j z)}) [1,5,51,52] [2,3,4,5,6,7,8,9,10,11,12,13,14] U U (fun z=>[(6,(vI (pR j z.1))),(53,(vI (z.1:Int)))]) (fun z=>[]) (fun _=>rfl) (fun _=>rfl) (fun z=>j.aB.length-z.1) ⟨0,N⟩ (bf U) (aK [2,3,4,5,6,7,8,9,10,11,12,13,14]) ?_
 clear N
 rintro ⟨k,⟨B,D⟩⟩ J28 P
 try dsimp only
 refine WS fun _ r=>rP 1 [] I ?_
 refine RK r<|ag fun _ s=>bO U (aO fun In=>?_) (aN fun In=>?_)
 ·refine bM<|ab<|ab<|aF<|KK C<|WS fun _ C1=>rP 2 [] I ?_
  refine RK C1<|ak<|Q1 hQ U U U ?_
  exact cI (Bo A ⟨om,BZ S,om,om,om,fun i p hi=>D i p (by have:=(aZ.1 hi).1; omega) hi⟩).symm
 refine WK s<|ag fun _ R=>ax<|WS fun _ u=>?_
 obtain ⟨p,hp⟩:=aA j.aB k om
 have K8:=bH bR.cells hp
 refine rS (IA k U (av 12 U) wM dc om om)<|rS (jL k 0 (bR.cells p) U bV (av 12 U) K8 U dc U U)<|AL U Br fun Or=>e7 U BU U<|RK u<|WS fun _ AD=>rP 1 [] I ?_
 have K4:=MD D B
 refine rP 3 [] (mc 0 U I) ?_
 refine e9 (xs:=[.tmp 60]) (cs:=[(vI p.Id)]) U dI kR U U U U (by simp [Value.cells]) U U fun Go=>?_
 refine rS (CL (dG.eq (jy ((pR j k)+1) 9999 ([p.Id]) (some ⟨Go,0,none⟩) 1 (by (simp; done))) cK) (aw (bo 0 U U (by simp [bX]) U)<|aS) U) ?_
 refine rP 1 [] I ?_
 refine cx (t:=63) U (aO fun Y=>?_) (aN fun Y=>?_)
 ·refine bp 32 U<|RK AD<|ag fun _ Ci=>WS fun _ Ck=>bp 1 U<|RK Ck<|bT U<|WK Ci<|ag fun _ L0=>WS fun _ Cp=>bp 2 U<|RK Cp<|aL U<|WS fun _ Cx=>bp 1 U<|RK Cx<|bM<|ab<|fF U<|ab<|ab<|aF<|KK C<|WS fun _ C0=>rP 2 [] I ?_
  refine RK C0<|ak<|Q1 hQ U U U ?_
  exact cI (jQ A (rY hp (fun q=>by have q0:=wS q B; have AB:=q.id; have O:=q.k6; have V:=q.fJ; have W:=q.fault; simp only [qQ] at O; omega))).symm
 refine rP 7 [0,1] (mc 3 U (mc 1 U I)) ?_
 refine e9 (xs:=[.tmp 70]) (cs:=[(vI p.gH)]) U dI kR U U U U (by simp [Value.cells]) U U fun Hi=>?_
 refine rS (CL (dG.eq (jy 0 ((j.Race.bu.length:Int)-1) ([p.gH]) (some ⟨Hi,0,none⟩) 1 (by (simp; done))) cK) (aw (bo 0 U U (by simp [bX]) U)<|aS) U) ?_
 refine rP 2 [] I ?_
 refine cx (t:=74) U (aO fun Z=>?_) (aN fun Z=>?_)
 ·refine bp 21 U<|RK AD<|ag fun _ A9=>WS fun _ Ba=>bp 1 U<|RK Ba<|bT U<|WK A9<|ag fun _ Lo=>WS fun _ B3=>bp 2 U<|RK B3<|aL U<|WS fun _ B9=>bp 1 U<|RK B9<|bM<|ab<|fF U<|ab<|ab<|aF<|KK C<|WS fun _ CB=>rP 2 [] I ?_
  refine RK CB<|ak<|Q1 hQ U U U ?_
  exact cI (jQ A (rY hp (fun q=>by have q0:=wS q B; have AB:=q.id; have O:=q.k6; have V:=q.fJ; have W:=q.fault; simp only [qQ] at O; omega))).symm
 refine rP 7 [0,1] (mc 4 U (mc 2 U I)) ?_
 refine e9 (xs:=[.tmp 81]) (cs:=[(vI p.ib)]) U dI kR U U U U (by simp [Value.cells]) U U fun H1=>?_
 refine rS (CL (dG.eq (jy 0 ((j.Race.aI.length:Int)-1) ([p.ib]) (some ⟨H1,0,none⟩) 1 (by (simp; done))) cK) (aw (bo 0 U U (by simp [bX]) U)<|aS) U) ?_
 refine rP 2 [] I ?_
 refine cx (t:=85) U (aO fun a=>?_) (aN fun a=>?_)
 ·refine bp 10 U<|RK AD<|ag fun _ A4=>WS fun _ A5=>bp 1 U<|RK A5<|bT U<|WK A4<|ag fun _ Lk=>WS fun _ A6=>bp 2 U<|RK A6<|aL U<|WS fun _ A7=>bp 1 U<|RK A7<|bM<|ab<|fF U<|ab<|ab<|aF<|KK C<|WS fun _ A8=>rP 2 [] I ?_
  refine RK A8<|ak<|Q1 hQ U U U ?_
  exact cI (jQ A (rY hp (fun q=>by have q0:=wS q B; have AB:=q.id; have O:=q.k6; have V:=q.fJ; have W:=q.fault; simp only [qQ] at O; omega))).symm
 refine rP 6 [0,1] (mc 5 U (mc 3 U I)) ?_
 refine e9 (xs:=[.tmp 91]) (cs:=[(vI p.gh)]) U dI kR U U U U (by simp [Value.cells]) U U fun IO=>?_
 refine rS (CL (dG.eq (jy 0 ((j.aM.length:Int)-1) ([p.gh]) (some ⟨IO,0,none⟩) 1 (by (simp; done))) cK) (aw (bo 0 U U (by simp [bX]) U)<|aS) U) ?_
 refine bp 2 U<|RK AD<|ag fun _ L=>WS fun _ v=>rP 1 [] I ?_
 refine RK v<|bO U (aO fun T=>?_) (aN fun T=>?_)
 ·refine WK L<|ag fun _ A0=>WS fun _ A1=>rP 2 [] I ?_
  refine RK A1<|bO U (aW fun F=>?_) (aX fun F=>?_)
  ·refine WK A0<|ao<|dY 3 [] (mc 4 U I) U<|aC<|aJ<|KK R<|ao<|rP 2 [] I ?_
   refine aC ?_
   have EQ:(vI (pR j (k+1)))=(vI p.Id):=by exact cI (nW hp)
   have Eq:(vI (((k+1):Nat):Int))=(vI ((k:Int)+1)):=by exact cI om
   refine a_ (P ⟨(k+1),(by exact absurd F T)⟩ _ _ _ U os (cz 4<|aU U EQ<|aU U Eq<|cR.nil _) (aK [5,6,7,8,9,10,11,12,13,14,15,16,17]))
  refine WS fun _ A2=>bp 1 U<|RK A2<|bM<|ab<|fF U<|ab<|ab<|aF<|KK C<|WS fun _ A3=>rP 2 [] I ?_
  refine RK A3<|ak<|Q1 hQ U U U ?_
  exact cI (jQ A (rY hp (fun q=>by have q0:=wS q B; have AB:=q.id; have O:=q.k6; have V:=q.fJ; have W:=q.fault; simp only [qQ] at O; omega))).symm
 refine ag fun _ w=>dp cj [11,12] [] [] [0,1,2,3,4,5,6,7,8,9,10,11,12,13,14,15,16,17] [] U U U U U<|eS U (FA 0 U eD U)<|eS U (FA 10 U eD U)<|eS U (L1 (vS heA j.Race.aI.length heC) 6 U bV U U)<|eS U (FA 2 U eD U)<|eS U (L1 (vI p.ib) 4 U bV U U) ?_
 have LA:=(dx A).2
 obtain ⟨ht,K⟩:=aA j.Race.aI ((p.ib).toNat) om
 obtain ⟨E,J⟩:=aA ha ((p.ib).toNat) om
 have Fd:(List.zipWith cL j.Race.aI ha)[(p.ib).toNat]? =some (cL ht E):=cG K J
 refine eS U (IA ((p.ib).toNat) U (av 14 U) kF dc om om)<|eS U (gv ((p.ib).toNat) 0 (vS E.1.1 ht.length E.1.2) U bV (av 14 U) Fd U dc U)<|eS U (FA 1 U eD U) ?_
 have FS:=Fk.fJ _ _ _ K J
 have L3:=FS.lS
 have Mg:=(LA.fJ ht (aP K)).1
 refine eS U (L1 (vI p.gH) 4 U bV U U) ?_
 obtain ⟨d,hd⟩:=aA ht ((p.gH).toNat) om
 obtain ⟨da,J8⟩:=aA E.2 ((p.gH).toNat) om
 have J9:(List.zipWith aq.cells ht E.2)[(p.gH).toNat]? =some (aq.cells d da):=cG hd J8
 refine eS U (IA ((p.gH).toNat) U (show g9 _ (rd E.1.1 ht.length 7 (List.zipWith aq.cells ht E.2)).holds from (cd 15 U (bB K J cr))) ov dc om om) ?_
 have M:=mF (j:=j) (p:=p) K hd
 have PV:=FS.sig d (aP hd)
 refine eS U (jL ((p.gH).toNat) 0 (aR.cells (aR.mk d.Out d.cD d.Time (de.mk d.aV.Start d.aV.gL (bj.mk da.1 d.aV.aa.length da.2)))) U bV (show g9 _ (rd E.1.1 ht.length 7 (List.zipWith aq.cells ht E.2)).holds from (cd 15 U (bB K J cr))) J9 U dc U U)<|eg U<|cf U fun T43 C2=>AL U II fun Os=>aC (C2 _ _ (aK [1,2,3,4,5,6,7,8,9,10,11,12,13,14,15,16,17,18]) ?_)
 refine cf U fun T45 C3=>e7 U Et U<|aC (C3 _ _ (aK [1,2,3,4,5,6,7,8,9,10,11,12,13,14,15,16,17,18]) ?_)
 refine e8 U<|KK w<|ao<|dY 1 [] (mc 0 U I) U<|rS (CL (ux d.Out d.cD d.Time (de.mk d.aV.Start d.aV.gL (bj.mk da.1 d.aV.aa.length da.2))) (aS) U)<|rP 1 [] I ?_
 refine cx (t:=109) U (aO fun H=>?_) (aN fun H=>?_)
 ·refine bp 9 U<|RK L<|ag fun _ Li=>WS fun _ AU=>bp 2 U<|RK AU<|aL U<|WS fun _ Ag=>bp 1 U<|RK Ag<|bM<|ab<|fF U<|ab<|ab<|aF<|KK C<|WS fun _ Ax=>rP 2 [] I ?_
  refine RK Ax<|ak<|Q1 hQ U U U ?_
  exact cI (jQ A (rY hp (fun q=>by obtain ⟨d2,X,r1,r2⟩:=q.lQ; rw [M] at X; cases X; first|exact H r1|omega))).symm
 refine rP 5 [0,1] (mc 0 U (mc 5 U I)) ?_
 refine e9 (xs:=[.tmp 114]) (cs:=[(vI p.At)]) U dI kR U U U U (by simp [Value.cells]) U U fun IR=>?_
 refine rS (CL (dG.eq (jy d.aV.Start 86400000 ([p.At]) (some ⟨IR,0,none⟩) 1 (by (simp; done))) cK) (aw (bo 0 U U (by simp [bX]) U)<|aS) U) ?_
 refine bp 2 U<|RK L<|ag fun _ x=>WS fun _ y=>rP 2 [] I ?_
 refine RK y<|bO U (aW fun F=>?_) (aX fun F=>?_)
 ·refine WK x<|ao<|dY 3 [] (mc 6 U I) U<|aC<|aJ<|KK R<|ao<|rP 2 [] I ?_
  refine aC ?_
  have Di:(vI (pR j (k+1)))=(vI p.Id):=by exact cI (nW hp)
  have Do:(vI (((k+1):Nat):Int))=(vI ((k:Int)+1)):=by exact cI om
  refine a_ (P ⟨(k+1),(by exact ⟨om,tx D hp (Nc hp Y K4.1 Z a T M H F)⟩)⟩ _ _ _ U os (cz 4<|aU U Di<|aU U Do<|cR.nil _) (aK [7,8,9,10,11,12,13,14,15,16,17,18,19]))
 refine WS fun _ AC=>bp 1 U<|RK AC<|bM<|ab<|fF U<|ab<|ab<|aF<|KK C<|WS fun _ AO=>rP 2 [] I ?_
 refine RK AO<|ak<|Q1 hQ U U U ?_
 exact cI (jQ A (rY hp (fun q=>by obtain ⟨d2,X,r1,r2⟩:=q.lQ; rw [M] at X; cases X; first|exact H r1|omega))).symm
theorem wY (j:cw) (kA:OA) (kC:Nat) (az:List RA) (cA:OA) (cC:Nat) (bA:OA) (bC:Nat) (slA:OA) (slC:Nat) (drA:OA) (drC:Nat) (ha:List bZ) (heA:OA) (heC:Nat) (faA:OA) (faC:Nat) (prA:OA) (prC:Nat) (hin:er j az ha):
 dG Tryz.prog 40 [(vA (eY.cells (lJ j kA kC cA cC bA bC slA slC drA drC heA heC faA faC prA prC)))] ((rd iG 3 2 gI)::(pb j kA az cA bA slA drA ha heA faA prA)) (vT [(vA (df.cells (df.mk (lJ j kA kC cA cC bA bC slA slC drA drC heA heC faA faC prA prC)))),(vI (dU j))]):=by
 refine bG kr Tryz.func40 U U fun E Q hQ hN=>?_
 try dsimp only
 refine WS fun _ A=>dV U fun C=>AL U HZ fun D=>bp 1 U<|RK A<|ag fun _ B=>cS cj 4 kr<|kf 1 [] (mc 1 U I) U<|dS (SX (bE (xs:=[(0,.tmp 4)]) (cs:=(df.cells (df.mk (lJ j kA kC cA cC bA bC slA slC drA drC heA heC faA faC prA prC)))) U U (bD Uo U)) U U)<|kf 1 [] (mc 1 U I) U<|dS (CL (J1 j kA kC az cA cC bA bC slA slC drA drC ha heA heC faA faC prA prC hin) (aY [2,3,4,5,6,7,8,9,10,11,12]) U)<|cu<|e7 U H9 U<|rP 1 [] I ?_
 refine RK B<|ak<|mh hQ [0] (mc 0 U I) U ?_
 rfl
end
section
open Go.RowKit
theorem CX (j:cw) (kA:OA) (kC:Nat) (az:List RA) (cA:OA) (cC:Nat) (bA:OA) (bC:Nat) (slA:OA) (slC:Nat) (drA:OA) (drC:Nat) (ha:List bZ) (heA:OA) (heC:Nat) (faA:OA) (faC:Nat) (prA:OA) (prC:Nat) (hin:er j az ha):
 lR Tryz.prog 8 [(vA (eY.cells (lJ j kA kC cA cC bA bC slA slC drA drC heA heC faA faC prA prC)))] ((rd iG 3 2 gI)::(pb j kA az cA bA slA drA ha heA faA prA)) (fun (x:(OA)×Nat)=>(vT [(vS x.1 ((iA j).length) x.2),(vI (dU j))])) (fun (x:(OA)×Nat)=>True) (fun (x:(OA)×Nat)=>[(own x.1 x.2 3 1 ((iA j).map iC))]):=by
 have S:=hin.race
 have L:=hin.race.line
 have V:=hin.race.fE
 have W:=hin.race.has
 have T:=hin.race.fM
 have P:=hin.nf
 have R:=hin.np
 refine dL kr Tryz.func8 U U fun a Q hQ hN=>?_
 try dsimp only
 refine WS fun _ E=>dV U fun Y=>bp 1 U<|bp 1 U<|RK E<|WS fun _ F=>dY 1 [] (mc 0 U I) U<|rS (CL (wY j kA kC az cA cC bA bC slA slC drA drC ha heA heC faA faC prA prC hin) (aY [1,2,3,4,5,6,7,8,9,10,11]) U)<|bp 3 U<|AL U HZ fun Z=>e7 U H9 U<|bp 1 U<|RK F<|ag fun _ G=>WS fun _ H=>rP 2 [] I ?_
 refine RK H<|cb U (aX fun A=>?_) (aW fun A=>?_)
 ·refine WS fun _ AB=>gn 3 1 ?_
  rw [show (own none 0 3 1 ([]:List (List Value)))=own none 0 3 1 ((iA j).map iC) from by rw [pY A]; rfl]
  refine bp 2 U<|rP 1 [] I ?_
  refine RK AB<|ak ?_
  refine LX hQ (none,0) [0] [] I U U U ?_ ?_
  ·(rw [pY A]; rfl)
  ·trivial
 refine WK G<|WS fun _ J=>rP 3 [0,1] (mc 1 U (mc 0 U I)) ?_
 refine rS (FU U) ?_
 refine cX (AS j.aB prA prC (Value.func (.func 42) [(vA (df.cells (df.mk (lJ j kA kC cA cC bA bC slA slC drA drC heA heC faA faC prA prC))))].toArray [].toArray) (fun N B=>(gJ j B)) (iH [(rd kA j.Race.au.bL.length 9 (j.Race.au.bL.map aD.cells)),(rd cA j.Race.au.aG.length 2 (List.zipWith aT.cells j.Race.au.aG az)),(iH (bK aT.jU j.Race.au.aG az)),(rd bA j.Race.au.aj.length 4 (j.Race.au.aj.map cO.cells)),(rd slA j.Race.bu.length 1 (j.Race.bu.map iC)),(rd drA j.Race.cN.length 1 (j.Race.cN.map iC)),(rd heA j.Race.aI.length 1 (List.zipWith cL j.Race.aI ha)),(iH (bK lM j.Race.aI ha)),(rd faA j.aM.length 4 (j.aM.map bg.cells)),(rd prA j.aB.length 5 (j.aB.map bR.cells))]) (by intro N B M; exact lp (fi:=[(vA (df.cells (df.mk (lJ j kA kC cA cC bA bC slA slC drA drC heA heC faA faC prA prC))))]) (ca:=[]) (j8 (vQ j kA kC az cA cC bA bC slA slC drA drC ha heA heC faA faC prA prC N B asm asm (by (obtain ⟨X,_,K⟩:=M; exact ⟨X,K⟩))) (aY [0,1,2,3,4,5,6,7,8,9]))) asm) (eG 12 rfl rfl<|aw (j7 (aY [3,4,5,6,7,8,9,10,11,12]))<|aS) rfl fun O AA=>?_
 obtain ⟨C,D⟩:=O
 try dsimp only
 refine rP 1 [] I ?_
 rw [show (kT (iK j.aB (fun N B=>(gJ j B))) j.aB.length)=iA j from by rw [qy A]; rfl]
 refine rP 1 [] I ?_
 refine RK J<|ak ?_
 refine LX hQ (C,D) [0] [] I U U U ?_ ?_
 ·(rw [A]; rfl)
 ·trivial
theorem M9 (j:cw) (kA:OA) (kC:Nat) (az:List RA) (cA:OA) (cC:Nat) (bA:OA) (bC:Nat) (slA:OA) (slC:Nat) (drA:OA) (drC:Nat) (ha:List bZ) (heA:OA) (heC:Nat) (faA:OA) (faC:Nat) (prA:OA) (prC:Nat) (hin:er j az ha):
 dG Tryz.prog 14 [(vA (eY.cells (lJ j kA kC cA cC bA bC slA slC drA drC heA heC faA faC prA prC)))] ((rd iG 3 2 gI)::(pb j kA az cA bA slA drA ha heA faA prA)) (vT [(vI (yb j)),(vI (xR j)),(vI (dU j))]):=by
 have R:=hin.race
 have M:=hin.race.line
 have Y:=hin.race.fE
 have Z:=hin.race.has
 have S:=hin.race.fM
 have O:=hin.nf
 have P:=hin.np
 refine bG kr Tryz.func14 U U fun k Q hQ hN=>?_
 try dsimp only
 refine WS fun _ G=>dV U fun f=>bp 3 U<|RK G<|WS fun _ H=>rP 1 [] (mc 0 U I) ?_
 refine cX (CX j kA kC az cA cC bA bC slA slC drA drC ha heA heC faA faC prA prC hin) (aY [1,2,3,4,5,6,7,8,9,10,11]) U fun c b=>?_
 obtain ⟨d,g⟩:=c
 try dsimp only
 refine bp 5 U<|RK H<|ag fun _ AB=>WS fun _ J=>rP 2 [] I ?_
 refine RK J<|cb U (aX fun A=>?_) (aW fun A=>?_)
 ·refine WS fun _ D=>rP 4 [] I ?_
  refine RK D<|ak<|Q3 hQ U U U U U ?_
  (have e:=zg A; rw [e.1,e.2]; done)
 refine WK AB<|WS fun _ E=>?_
 have C:=(dj A).2
 have X:(iA j).length≤8:=by have h:=C.np; have i:=tH (j:=j); rw [qy A]; omega
 have B:=C.td
 have N:=C.np
 have K:=xK (a:=((iA j).length:Int)) ⟨om,om⟩ B
 have L:=xK (a:=(j.aB.length:Int)) ⟨om,om⟩ B
 have T:=Int.mul_le_mul_of_nonneg_right (show (0:Int)≤((iA j).length:Int) by omega) B.1
 have AA:=Int.mul_le_mul_of_nonneg_right (show ((iA j).length:Int)≤8 by omega) B.1
 have V:=Int.mul_le_mul_of_nonneg_right (show (0:Int)≤(j.aB.length:Int) by omega) B.1
 have W:=Int.mul_le_mul_of_nonneg_right N B.1
 refine dY 4 [] (mc 1 U I) U<|rS (BI U (sW K))<|bp 1 U<|RK E<|ag fun _ F=>cS cj 12 kr<|kf 6 [] (mc 1 U I) U<|dS (BI U (sW L))<|dP 5 [] I ?_
 refine cu<|RK F<|ak<|Q3 hQ U U U U U ?_
 (have e:=yq A; rw [e.1,e.2,A,qy A]; rfl)
theorem Lt (i:Int) (p:bR) (sq:Int) (g1:Nat) (j:cw) (kA:OA) (kC:Nat) (az:List RA) (cA:OA) (cC:Nat) (bA:OA) (bC:Nat) (slA:OA) (slC:Nat) (drA:OA) (drC:Nat) (ha:List bZ) (heA:OA) (heC:Nat) (faA:OA) (faC:Nat) (prA:OA) (prC g2:Nat) (hin:er j az ha) (hok:dU j=0) (hp: ∃ i:Nat,j.aB[i]? =some p):
 dG Tryz.prog 49 [(vI i),(vA (bR.cells p)),(vP g1),(vP g2)] ((cy g1 3 [(vI sq)])::((pb j kA az cA bA slA drA ha heA faA prA)++[(cy g2 97 (df.cells (df.mk (lJ j kA kC cA cC bA bC slA slC drA drC heA heC faA faC prA prC))))])) (vB (Aj j sq p)):=by
 refine bG kr Tryz.func49 U U fun E Q hQ hN=>?_
 try dsimp only
 refine WS fun _ C=>dV U fun D=>bp 1 U<|RK C<|WS fun _ B=>rP 5 [0,1] (mc 0 U (mr 1 U I)) ?_
 refine cx (t:=11) U (aO fun A=>?_) (aN fun A=>?_)
 ·refine rP 7 [] I ?_
  refine RK B<|ak<|Q1 hQ U U U ?_
  (rw [MK A]; done)
 refine dY 3 [0,1] (mr 12 U (mc 0 U I)) U<|rS (CL (vQ j kA kC az cA cC bA bC slA slC drA drC ha heA heC faA faC prA prC i p hin hok hp) (aY [2,3,4,5,6,7,8,9,10,11]) U)<|rP 3 [] I ?_
 refine RK B<|ak<|Q1 hQ U U U ?_
 (rw [I0 A]; done)
theorem Nr (j:cw) (kA:OA) (kC:Nat) (az:List RA) (cA:OA) (cC:Nat) (bA:OA) (bC:Nat) (slA:OA) (slC:Nat) (drA:OA) (drC:Nat) (ha:List bZ) (heA:OA) (heC:Nat) (faA:OA) (faC:Nat) (prA:OA) (prC:Nat) (sq:Int) (hin:er j az ha):
 dG Tryz.prog 16 [(vA (eY.cells (lJ j kA kC cA cC bA bC slA slC drA drC heA heC faA faC prA prC))),(vI sq)] ((rd iG 3 2 gI)::(pb j kA az cA bA slA drA ha heA faA prA)) (vT [(vI (rO j sq)),(vI (ql j sq))]):=by
 have c:=hin.race
 have W:=hin.race.line
 have i:=hin.race.fE
 have k:=hin.race.has
 have d:=hin.race.fM
 have Z:=hin.nf
 have b:=hin.np
 refine bG kr Tryz.func16 U U fun q Q hQ hN=>?_
 try dsimp only
 refine WS fun _ M=>dV U fun o=>wV U U fun AB=>bp 2 U<|RK M<|WS fun _ N=>dY 1 [] (mc 1 U I) U<|rS (CL (wY j kA kC az cA cC bA bC slA slC drA drC ha heA heC faA faC prA prC hin) (aY [2,3,4,5,6,7,8,9,10,11,12]) U)<|bp 3 U<|AL U HZ fun J=>e7 U H9 U<|bp 1 U<|RK N<|ag fun _ O=>WS fun _ P=>rP 2 [] I ?_
 refine RK P<|cb U (aX fun A=>?_) (aW fun A=>?_)
 ·refine WS fun _ R=>rP 3 [] I ?_
  refine RK R<|ak<|Q2 hQ U U U U ?_
  (have e:=z9 (s:=sq) A; rw [e.1,e.2]; done)
 refine WK O<|ag fun _ S=>WS fun _ C=>rP 6 [0,1] (mc 2 U (mc 1 U I)) ?_
 refine e9 (xs:=[.tmp 22]) (cs:=[(vI sq)]) U dI kR U U U U (by simp [Value.cells]) U U fun K=>?_
 refine rS (CL (dG.eq (jy 0 ((j.Race.bu.length:Int)-1) ([sq]) (some ⟨K,0,none⟩) 1 (by (simp; done))) cK) (aw (bo 0 U U (by simp [bX]) U)<|aS) U) ?_
 refine rP 1 [] I ?_
 refine RK C<|cb U (aX fun L=>?_) (aW fun L=>?_)
 ·refine WS fun _ D=>rP 2 [] I ?_
  refine RK D<|ak<|Q2 hQ U U U U ?_
  (have e:=zL (s:=sq) A om; rw [e.1,e.2]; done)
 refine WK S<|WS fun _ E=>rP 2 [] (mc 3 U I) ?_
 refine rS (FU U) ?_
 refine cX (AS j.aB prA prC (Value.func (.func 49) [].toArray [(vP AB),(vP J)].toArray) (fun H B=>(Aj j sq B)) (iH [(cy AB 3 [(vI sq)]),(rd kA j.Race.au.bL.length 9 (j.Race.au.bL.map aD.cells)),(rd cA j.Race.au.aG.length 2 (List.zipWith aT.cells j.Race.au.aG az)),(iH (bK aT.jU j.Race.au.aG az)),(rd bA j.Race.au.aj.length 4 (j.Race.au.aj.map cO.cells)),(rd slA j.Race.bu.length 1 (j.Race.bu.map iC)),(rd drA j.Race.cN.length 1 (j.Race.cN.map iC)),(rd heA j.Race.aI.length 1 (List.zipWith cL j.Race.aI ha)),(iH (bK lM j.Race.aI ha)),(rd faA j.aM.length 4 (j.aM.map bg.cells)),(rd prA j.aB.length 5 (j.aB.map bR.cells)),(cy J 97 (df.cells (df.mk (lJ j kA kC cA cC bA bC slA slC drA drC heA heC faA faC prA prC))))]) (by intro H B X; exact lp (fi:=[]) (ca:=[(vP AB),(vP J)]) (j8 (Lt H B sq AB j kA kC az cA cC bA bC slA slC drA drC ha heA heC faA faC prA prC J asm asm (by (obtain ⟨n,_,V⟩:=X; exact ⟨n,V⟩))) (aY [0,1,2,3,4,5,6,7,8,9,10,11]))) asm) (eG 14 rfl rfl<|aw (j7 (aY [2,5,6,7,8,9,10,11,12,13,14,1]))<|aS) rfl fun Y f=>?_
 obtain ⟨g,h⟩:=Y
 try dsimp only
 refine bp 1 U<|RK E<|WS fun _ F=>rP 1 [] I ?_
 have G:=(dj A).2
 have m:=G.np
 have AA:=G.td
 have l:(kT (iK j.aB fun _ p=>Aj j sq p) j.aB.length).length≤8:=Nat.le_trans nj om
 have T:=xK (a:= -(((kT (iK j.aB fun _ p=>Aj j sq p) j.aB.length).length:Nat):Int)) ⟨om,om⟩ AA
 refine bp 1 U<|rS (NG U ⟨om,om⟩)<|dY 2 [] (mc 4 U I) U<|rS (BI U (sW T))<|rP 2 [] I ?_
 refine RK F<|ak<|Q2 hQ U U U U ?_
 (have e:=KH (s:=sq) A om; rw [e.1,e.2]; done)
end
section
open Go.RowKit
theorem Kl (l:List bg) (lA:OA) (lC:Nat) (f:Value) (p:bg→Bool) (X:ay) (hf: ∀ x0,x0∈l→Dy Tryz.prog f [.agg (bg.cells x0).toArray] [X] (.bool (p x0))) (hlen:l.length≤1000000):
 dG Tryz.prog 123 [(vS lA l.length lC),f] [(rd lA l.length 4 (l.map bg.cells)),X] (vI (s9 p l)):=by
 refine bG kr Tryz.func123 U U fun R Q hQ hN=>?_
 try dsimp only
 refine WS fun _ G=>bp 1 U<|RK G<|ag fun _ H=>WS fun _ AA=>rP 3 [] I ?_
 refine RK AA<|ax ?_
 have B:(0≤l.length)∧((l.take 0).any p=false):=by simp
 refine bP (ι:={z:Nat // (z≤l.length)∧((l.take z).any p=false)}) [0,1,7] [0,1] U U (fun z=>[(8,(vI (z.1:Int)))]) (fun z=>[]) (fun _=>rfl) (fun _=>rfl) (fun z=>l.length-z.1) ⟨0,B⟩ (bf U) (aK [0,1]) ?_
 clear B
 rintro ⟨i,⟨N,A⟩⟩ J4 F
 try dsimp only
 refine WS fun _ J=>rP 1 [] I ?_
 refine RK J<|ag fun _ K=>bO U (aO fun P=>?_) (aN fun P=>?_)
 ·refine bM<|ab<|ab<|aF<|KK H<|WS fun _ E=>rP 1 [] I ?_
  refine RK E<|ak<|Q1 hQ U U U ?_
  exact cI (qh om A).symm
 refine WK K<|ag fun _ L=>ax<|WS fun _ M=>bp 2 U<|RK M<|WS fun _ C=>rP 3 [] I ?_
 obtain ⟨x,hx⟩:=aA l i om
 have O:=bH bg.cells hx
 refine rS (IA i U (av 0 U) xZ dc om om)<|rS (jL i 0 (bg.cells x) U bV (av 0 U) O U dc U U)<|rS (SX (pX U U U (hf x (aP hx)) (aY [1])) U U)<|RK C<|cb U (fun hp=>?_) (fun hp=>?_)
 ·refine WS fun _ D=>rP 2 [] I ?_
  refine RK D<|ak<|Q1 hQ U U U ?_
  exact cI (uh hx hp A).symm
 refine cg<|aJ<|KK L<|ao<|rP 2 [] I ?_
 refine aC ?_
 refine a_ (F ⟨(i+1),⟨om,uo hx A hp⟩⟩ _ _ _ U os (bf U) (aK [0,1]))
theorem BG (l:List bg) (lA:OA) (lC:Nat) (f:Value) (p:bg→Bool) (X:ay) (hf: ∀ x0,x0∈l→Dy Tryz.prog f [.agg (bg.cells x0).toArray] [X] (.bool (p x0))) (hlen:l.length≤1000000):
 dG Tryz.prog 98 [(vS lA l.length lC),f] [(rd lA l.length 4 (l.map bg.cells)),X] (vB (l.any p)):=by
 refine bG kr Tryz.func98 U U fun C Q hQ hN=>?_
 try dsimp only
 refine WS fun _ A=>bp 1 U<|RK A<|WS fun _ B=>bp 2 U<|rS (CL (Kl l lA lC f p X (by exact hf) hlen) (aY [0,1]) U)<|rP 2 [] I ?_
 refine RK B<|ak<|Q1 hQ U U U ?_
 exact cB se
theorem QC (f:bg) (fm:List (Int×Bool)) (gm:Nat) (j:cw) (kA:OA) (kC:Nat) (az:List RA) (cA:OA) (cC:Nat) (bA:OA) (bC:Nat) (slA:OA) (slC:Nat) (drA:OA) (drC:Nat) (ha:List bZ) (heA:OA) (heC:Nat) (faA:OA) (faC:Nat) (prA:OA) (prC:Nat) (d:aq) (sgA:OA) (sgC g1:Nat) (g2 g3:Nat) (hin:er j az ha) (hok:dU j=0) (hfm:f∈j.aM) (hsl:d.aV.aa.length≤1000000):
 dG Tryz.prog 99 [(vA (bg.cells f)),(vP g1),(vP g2),(vP g3)] ((kx iV gm (cT vB fm))::((pb j kA az cA bA slA drA ha heA faA prA)++[(rd sgA d.aV.aa.length 2 (d.aV.aa.map aH.cells)),(cy g1 144 [(Value.map (some gm))]),(cy g2 97 (df.cells (df.mk (lJ j kA kC cA cC bA bC slA slC drA drC heA heC faA faC prA prC)))),(cy g3 43 (aR.cells (aR.mk d.Out d.cD d.Time (g8 d.aV sgA sgC))))])) (vB (((List.lookup (o5 j.aM f) fm).getD false)&& !decide (gd j.Race.au f d=0))):=by
 have L:=hin.race
 have AB:=hin.race.line
 have P:=hin.race.fE
 have R:=hin.race.has
 have M:=hin.race.fM
 have J:=hin.nf
 have K:=hin.np
 have D:=(dj hok).1
 have G:=(dj hok).2
 have H:=(dx D).1
 have S:=(dx D).2
 have F:=(dw H).2.head
 unfold eL at F
 have C:=G.fault f hfm
 have O:0≤f.hE∧f.hE≤1000000:=by have N:=C.2.2; split at N<;>omega
 refine bG kr Tryz.func99 U U fun AA Q hQ hN=>?_
 try dsimp only
 refine WS fun _ E=>dV U fun T=>bp 1 U<|RK E<|ag fun _ B=>cS cj 15 kr<|kf 5 [0,1,2] (mr 13 U (mr 14 U (mc 0 U I))) U<|dS (CL (CD j.aM faA faC f asm) (aY [10]) U)<|dS (SX (wy (kV:=iV) (x:=(o5 j.aM f)) (l:=fm) (f:=Value.bool) (z:=false) U U U Cl (iW oV) Vv (by exact Mx 1 U)) U U)<|dP 1 [] I ?_
 refine jm (t:=13) U (fun A=>?_) (fun A=>?_)
 ·refine dP 7 [] I ?_
  refine cu<|RK B<|ak<|Q1 hQ U U U ?_
  (rw [A,Bool.false_and]; done)
 refine kf 3 [0,1,2] (mr 14 U (mc 0 U (mr 15 U I))) U<|dS (CL (Gb j kA kC az cA cC bA bC slA slC drA drC ha heA heC faA faC prA prC f d sgA sgC hin (by exact C.1) asm hsl) (aY [2,3,4,5,6,7,8,9,10,11,12]) U)<|dS (BI U s7)<|dP 2 [] I ?_
 refine cu<|RK B<|ak<|Q1 hQ U U U ?_
 (rw [A,Bool.true_and]; done)
end
section
open Go.RowKit
theorem L9 (fm:List (Int×Bool)) (gm:Nat) (j:cw) (kA:OA) (kC:Nat) (az:List RA) (cA:OA) (cC:Nat) (bA:OA) (bC:Nat) (slA:OA) (slC:Nat) (drA:OA) (drC:Nat) (ha:List bZ) (heA:OA) (heC:Nat) (faA:OA) (faC:Nat) (prA:OA) (prC g1 g2:Nat) (hin:er j az ha) (hok:dU j=0):
 O6 Tryz.prog 97 [] [(vP g1),(vP g2)] [(kx iV gm (cT vB fm)),(rd kA j.Race.au.bL.length 9 (j.Race.au.bL.map aD.cells)),(rd cA j.Race.au.aG.length 2 (List.zipWith aT.cells j.Race.au.aG az)),(iH (bK aT.jU j.Race.au.aG az)),(rd bA j.Race.au.aj.length 4 (j.Race.au.aj.map cO.cells)),(rd slA j.Race.bu.length 1 (j.Race.bu.map iC)),(rd drA j.Race.cN.length 1 (j.Race.cN.map iC)),(rd heA j.Race.aI.length 1 (List.zipWith cL j.Race.aI ha)),(iH (bK lM j.Race.aI ha)),(rd faA j.aM.length 4 (j.aM.map bg.cells)),(rd prA j.aB.length 5 (j.aB.map bR.cells)),(cy g1 97 (df.cells (df.mk (lJ j kA kC cA cC bA bC slA slC drA drC heA heC faA faC prA prC)))),(cy g2 144 [(Value.map (some gm))])] ((0:Nat)) (Js (eT j (l7 j.aM fm))) (fun k=>k=j.Race.aI.length):=by
 have Ci:=hin.race
 have IO:=hin.race.line
 have J5:=hin.race.fE
 have J6:=hin.race.has
 have Jb:=hin.race.fM
 have Id:=hin.nf
 have JJ:=hin.np
 have CB:=(dj hok).1
 have J7:=(dj hok).2
 have H1:=(dx CB).1
 have IR:=(dx CB).2
 have Go:=(dw H1).2.head
 unfold eL at Go
 refine MR kr Tryz.func97 U U fun l J Z A0 w0 Q hY Do Di hQ hN=>?_
 try dsimp only
 refine WS fun _ Eq=>rP 6 [] (mr 12 U I) ?_
 refine RK Eq<|ax ?_
 have B:(0≤j.Race.aI.length)∧(J 0 A0)∧(Fo A0 w0 A0):=by exact ⟨Nat.zero_le _,Do,Di⟩
 refine bP (ι:={z:Nat×ay // (z.1≤j.Race.aI.length)∧(J z.1 z.2)∧(Fo A0 w0 z.2)}) [0,1,2,15,16] [1,2,3,4,5,6,7,8,9,10,11,12,13] U U (fun z=>[(17,(vI (z.1.1:Int)))]) (fun z=>[z.1.2]) (fun _=>rfl) (fun _=>rfl) (fun z=>j.Race.aI.length-z.1.1) ⟨(0,A0),B⟩ (bf U) (aK [1,2,3,4,5,6,7,8,9,10,11,12,13,0]) ?_
 clear B
 rintro ⟨⟨h,A⟩,⟨X,F,G⟩⟩ J2 EQ
 try dsimp only at X F G
 try dsimp only
 refine WS fun _ FS=>rP 1 [] I ?_
 refine RK FS<|ag fun _ Fd=>bO U (aO fun h5=>?_) (aN fun h5=>?_)
 ·refine bM<|ab<|ab<|aF ?_
  refine hN _ _ _ (j4 (vs:=[]) trivial fun w hs=>Qx 13 U (by show h=j.Race.aI.length; omega) F G hs)
 refine WK Fd<|ag fun _ Fk=>ax<|WS fun _ Fn=>?_
 obtain ⟨ht,E⟩:=aA j.Race.aI h om
 obtain ⟨C,D⟩:=aA ha h om
 have B9:(List.zipWith cL j.Race.aI ha)[h]? =some (cL ht C):=cG E D
 refine rS (IA h U (av 7 U) kF dc om om) ?_
 have B3:=Ci.fJ _ _ _ E D
 have If:=B3.lS
 have In:=(IR.fJ ht (aP E)).1
 refine rS (gv h 0 (vS C.1.1 ht.length C.1.2) U bV (av 7 U) B9 U dc U)<|rP 1 [] I ?_
 refine RK Fn<|WS fun _ GE=>mZ (kV:=iV) U U fun b9=>?_
 try dsimp only
 refine bp 1 U<|RK GE<|ag fun _ b=>WS fun _ e=>rP 3 [] I ?_
 refine RK e<|ax ?_
 skip
 have B:(0≤ht.length):=by exact Nat.zero_le _
 refine bP (ι:={z:Nat // (z≤ht.length)}) [0,1,2,5,6,15,16,17,23] [1,2,3,4,5,6,7,8,9,10,11,12,13,14] U U (fun z=>[(24,(vI (z.1:Int)))]) (fun z=>[(kx iV b9 (cT vB (iJ (lP j.Race.au j.aM fm ht) z.1 0)))]) (fun _=>rfl) (fun _=>rfl) (fun z=>ht.length-z.1) ⟨0,B⟩ (bf U) (aK [1,2,3,4,5,6,7,8,9,10,11,12,13,14,0]) ?_
 clear B
 rintro ⟨q,Hi⟩ J12 Y
 try dsimp only
 refine WS fun _ g=>rP 1 [] I ?_
 refine RK g<|ag fun _ i=>cb U (aN fun C1=>?_) (aO fun C1=>?_)
 ·refine WK i<|ag fun _ m=>ax<|WS fun _ o=>bp 2 U<|RK o<|ao<|rP 2 [] I ?_
  have A2:(eC (iJ (lP j.Race.au j.aM fm ht) q 0) (q:Int) true)=(iJ (lP j.Race.au j.aM fm ht) (q+1) 0):=by exact JH
  refine je (kV:=iV) (x:=(q:Int)) (C':=[_,_,_,_,_,_,_,_,_,_,_,_,_,_,(kx iV b9 (cT vB (iJ (lP j.Race.au j.aM fm ht) (q+1) 0)))]) 14 U U U U Cl (iW oV) U ((gX _ _ _ _).symm.trans (congrArg _ A2)) U<|aC<|aJ<|KK m<|ao<|rP 2 [] I ?_
  refine aC ?_
  have A3:(vI (((q+1):Nat):Int))=(vI ((q:Int)+1)):=by exact cI om
  refine a_ (Y ⟨(q+1),(by first|omega|(simp only []; omega))⟩ _ _ _ U os (cz 9<|aU U A3<|cR.nil _) (aK [0,1,2,3,4,5,6,7,8,9,10,11,12,13,14]))
 refine bM<|ab<|ab<|aF<|KK b<|ag fun _ p=>WS fun _ r=>rP 3 [] I ?_
 refine RK r<|ax ?_
 rw [show (iJ (lP j.Race.au j.aM fm ht) q 0)=(iJ (lP j.Race.au j.aM fm ht) ht.length 0) from by rw [show q=ht.length by omega]]
 have B:(0≤ht.length):=by exact Nat.zero_le _
 refine bP (ι:={z:Nat // (z≤ht.length)}) [0,1,2,5,6,15,16,17,30,31] [0,1,2,3,4,5,6,7,8,9,10,11,12,13] U U (fun z=>[(32,(vI (z.1:Int)))]) (fun z=>[(kx iV b9 (cT vB (iJ (lP j.Race.au j.aM fm ht) ht.length z.1)))]) (fun _=>rfl) (fun _=>rfl) (fun z=>ht.length-z.1) ⟨0,B⟩ (bf U) (aK [0,1,2,3,4,5,6,7,8,9,10,11,12,13,14]) ?_
 clear B
 rintro ⟨q,Cp⟩ J22 R
 try dsimp only
 refine WS fun _ s=>rP 1 [] I ?_
 refine RK s<|ag fun _ t=>bO U (aO fun C2=>?_) (aN fun C2=>?_)
 ·refine bM<|ab<|ab<|aF<|KK p<|WS fun _ y=>bp 1 U<|RK y<|ag fun _ AC=>WS fun _ AO=>rP 3 [] I ?_
  refine RK AO<|ax ?_
  rw [show (iJ (lP j.Race.au j.aM fm ht) ht.length q)=(iJ (lP j.Race.au j.aM fm ht) ht.length ht.length) from by rw [show q=ht.length by omega]]
  refine fu 3 1 ?_
  have B:(0≤ht.length):=by exact Nat.zero_le _
  refine bP (ι:={z:Nat×(OA)×Nat // (z.1≤ht.length)}) [0,1,2,5,6,15,16,17,47] [1,2,3,4,5,6,7,8,9,10,11,12,13,14,15] U U (fun z=>[(10,(vS z.1.2.1 ((kT (lP j.Race.au j.aM fm ht) z.1.1).length) z.1.2.2)),(48,(vI (z.1.1:Int)))]) (fun z=>[(own z.1.2.1 z.1.2.2 3 1 ((kT (lP j.Race.au j.aM fm ht) z.1.1).map iC))]) (fun _=>rfl) (fun _=>rfl) (fun z=>ht.length-z.1.1) ⟨(0,none,0),B⟩ (bf U) (aK [1,2,3,4,5,6,7,8,9,10,11,12,13,14,15,0]) ?_
  clear B
  rintro ⟨⟨q,a,c⟩,M⟩ J37 S
  try dsimp only at M
  try dsimp only
  refine WS fun _ AU=>rP 1 [] I ?_
  refine RK AU<|ag fun _ Ag=>bO U (aO fun C3=>?_) (aN fun C3=>?_)
  ·refine bM<|ab<|ab<|aF<|KK AC<|ag fun _ V=>?_
   rw [show (kT (lP j.Race.au j.aM fm ht) q)=(kT (lP j.Race.au j.aM fm ht) ht.length) from by rw [show q=ht.length by omega]]
   refine ao<|rP 2 [] I ?_
   refine KE (k:=h) (k':=(h+1)) 13 15 U hY F G U U U ⟨_,_,_,KY E,U,U,U⟩ U U U U (fun B50 K AB=>?_) (fun B50 K AB=>?_)
   rotate_left 1
   ·refine rP 1 [] I ?_
    refine RK V<|aL U<|ak ?_
    refine hQ _ _ _ (j4 (vs:=[]) trivial fun w hs=>FB 0 U K AB hs)
   refine bp 1 U<|RK V<|bT U<|cg<|aJ<|KK Fk<|ao<|rP 2 [] I ?_
   refine aC ?_
   have A9:(vI (((h+1):Nat):Int))=(vI ((h:Int)+1)):=by exact cI om
   refine a_ (EQ ⟨((h+1),B50),⟨om,K,AB⟩⟩ _ _ _ U os (cz 5<|aU U A9<|cR.nil _) (aK [1,2,3,4,5,6,7,8,9,10,11,12,13,0]))
  refine WK Ag<|ag fun _ AA=>ax<|WS fun _ Ax=>bp 2 U<|RK Ax<|WS fun _ A1=>rP 2 [] I ?_
  refine rS (SX (wy (kV:=iV) (x:=(q:Int)) (l:=(iJ (lP j.Race.au j.aM fm ht) ht.length ht.length)) (f:=Value.bool) (z:=false) U U U Cl (iW oV) Vv (by exact av 14 U)) U U)<|RK A1<|bO U (fun W=>?_) (fun W=>?_)
  ·refine cg<|aJ<|KK AA<|ao<|rP 2 [] I ?_
   refine aC ?_
   rw [show (kT (lP j.Race.au j.aM fm ht) q)=(kT (lP j.Race.au j.aM fm ht) (q+1)) from (zK (by rw [← zU (P:=(lP j.Race.au j.aM fm ht)) (show q<ht.length by omega)]; simpa using W)).symm]
   have A8:(vI (((q+1):Nat):Int))=(vI ((q:Int)+1)):=by exact cI om
   refine a_ (S ⟨((q+1),a,c),(by first|omega|(simp only []; omega))⟩ _ _ _ U os (cz 10<|aU U A8<|cR.nil _) (aK [0,1,2,3,4,5,6,7,8,9,10,11,12,13,14,15]))
  refine ao<|rP 2 [] I ?_
  refine e9 (xs:=[.tmp 55]) (cs:=[(vI (q:Int))]) U dI kR U U U U (by simp [Value.cells]) U U fun J3=>?_
  refine cP (es2:=(List.map iC (kT (lP j.Race.au j.aM fm ht) (q+1)))) (m':=(kT (lP j.Race.au j.aM fm ht) (q+1)).length) 16 U U U pg U U sm (bo (es:=List.map iC [(q:Int)]) 0 U U (by simp [bX]) U) (jN _) (by have:=nj (P:=(lP j.Race.au j.aM fm ht)) (n:=q); omega) (by have:=nj (P:=(lP j.Race.au j.aM fm ht)) (n:=q); simp only [maxLen]; omega) (by rw [vO (by rw [← zU (P:=(lP j.Race.au j.aM fm ht)) (show q<ht.length by omega)]; exact W)]; simp) sm U fun Cx C0=>?_
  try dsimp only
  refine bp 1 U<|aC<|aJ<|KK AA<|ao<|rP 2 [] I ?_
  refine aC ?_
  have A7:(vI (((q+1):Nat):Int))=(vI ((q:Int)+1)):=by exact cI om
  refine a_ (S ⟨((q+1),Cx,C0),(by first|omega|(simp only []; omega))⟩ _ _ _ U os (cz 10<|aU U A7<|cR.nil _) (aK [1,2,3,4,5,6,7,8,9,10,11,12,13,14,15,16]))
 refine WK t<|ag fun _ T=>ax<|WS fun _ u=>rP 1 [] I ?_
 obtain ⟨d,hd⟩:=aA ht q om
 obtain ⟨da,Ba⟩:=aA C.2 q om
 have GT:(List.zipWith aq.cells ht C.2)[q]? =some (aq.cells d da):=cG hd Ba
 refine rS (IA q U (show g9 _ (rd C.1.1 ht.length 7 (List.zipWith aq.cells ht C.2)).holds from (cd 8 U (bB E D cr))) ov dc om om) ?_
 have J8:=B3.sig d (aP hd)
 refine rS (jL q 0 (aR.cells (aR.mk d.Out d.cD d.Time (de.mk d.aV.Start d.aV.gL (bj.mk da.1 d.aV.aa.length da.2)))) U bV (show g9 _ (rd C.1.1 ht.length 7 (List.zipWith aq.cells ht C.2)).holds from (cd 8 U (bB E D cr))) GT U dc U U)<|AL U II fun L=>bp 1 U<|e7 U Et U<|RK u<|WS fun _ v=>rP 3 [] (mr 12 U I) ?_
 refine rS (FU U) ?_
 refine rS (CL (BG j.aM faA faC (Value.func (.func 99) [].toArray [(vP g2),(vP g1),(vP L)].toArray) (fun O=>(((List.lookup (o5 j.aM O) fm).getD false)&& !decide (gd j.Race.au O d=0))) (iH [(kx iV gm (cT vB fm)),(rd kA j.Race.au.bL.length 9 (j.Race.au.bL.map aD.cells)),(rd cA j.Race.au.aG.length 2 (List.zipWith aT.cells j.Race.au.aG az)),(iH (bK aT.jU j.Race.au.aG az)),(rd bA j.Race.au.aj.length 4 (j.Race.au.aj.map cO.cells)),(rd slA j.Race.bu.length 1 (j.Race.bu.map iC)),(rd drA j.Race.cN.length 1 (j.Race.cN.map iC)),(rd heA j.Race.aI.length 1 (List.zipWith cL j.Race.aI ha)),(iH (bK lM j.Race.aI ha)),(rd faA j.aM.length 4 (j.aM.map bg.cells)),(rd prA j.aB.length 5 (j.aB.map bR.cells)),(rd da.1 d.aV.aa.length 2 (d.aV.aa.map aH.cells)),(cy g2 144 [(Value.map (some gm))]),(cy g1 97 (df.cells (df.mk (lJ j kA kC cA cC bA bC slA slC drA drC heA heC faA faC prA prC)))),(cy L 43 (aR.cells (aR.mk d.Out d.cD d.Time (de.mk d.aV.Start d.aV.gL (bj.mk da.1 d.aV.aa.length da.2)))))]) (by intro O N; exact lp (fi:=[]) (ca:=[(vP g2),(vP g1),(vP L)]) (j8 (QC O fm gm j kA kC az cA cC bA bC slA slC drA drC ha heA heC faA faC prA prC d da.1 da.2 g2 g1 L (by first|assumption|exact N|omega) (by first|assumption|exact N|omega) (by first|assumption|exact N|omega) (by first|assumption|exact N|omega)) (aY [0,1,2,3,4,5,6,7,8,9,10,11,12,13,14]))) asm) (eG 10 U U<|aw (j7 (mJ [1,2,3,4,5,6,7,8,9,10,11]<|aw (show g9 _ (rd da.1 d.aV.aa.length 2 (d.aV.aa.map aH.cells)).holds from (cd 9 U (bB E D (dH _ (bB hd Ba (by simp [aq.jU]))))))<|eG 13 U U<|eG 12 U U<|eG 0 U U<|aS))<|aS) U) ?_
 refine rP 1 [] I ?_
 refine RK v<|bO U (fun H=>?_) (fun H=>?_)
 ·rw [Bool.not_eq_false'] at H
  refine cg<|aJ<|KK T<|ao<|rP 2 [] I ?_
  refine aC ?_
  rw [show (iJ (lP j.Race.au j.aM fm ht) ht.length q)=(iJ (lP j.Race.au j.aM fm ht) ht.length (q+1)) from GH (by rw [ER hd]; simpa using H)]
  have A6:(vI (((q+1):Nat):Int))=(vI ((q:Int)+1)):=by exact cI om
  refine a_ (R ⟨(q+1),(by first|omega|(simp only []; omega))⟩ _ _ _ U os (cz 10<|aU U A6<|cR.nil _) (aK [1,2,3,4,5,6,7,8,9,10,11,12,13,14,15]))
 rw [Bool.not_eq_true'] at H
 refine ao<|rP 2 [] I ?_
 have A4:(fz (iJ (lP j.Race.au j.aM fm ht) ht.length q) (q:Int))=(iJ (lP j.Race.au j.aM fm ht) ht.length (q+1)):=by exact IW (by rw [ER hd]; exact H)
 refine tj (kV:=iV) (x:=(q:Int)) (C':=[_,_,_,_,_,_,_,_,_,_,_,_,_,_,_,(kx iV b9 (cT vB (iJ (lP j.Race.au j.aM fm ht) ht.length (q+1))))]) 15 U U U U Cl (iW oV) U ((nS _ _ _).symm.trans (congrArg _ A4)) U<|aC<|aJ<|KK T<|ao<|rP 2 [] I ?_
 refine aC ?_
 have A5:(vI (((q+1):Nat):Int))=(vI ((q:Int)+1)):=by exact cI om
 refine a_ (R ⟨(q+1),(by first|omega|(simp only []; omega))⟩ _ _ _ U os (cz 10<|aU U A5<|cR.nil _) (aK [1,2,3,4,5,6,7,8,9,10,11,12,13,14,15]))
end
end Go.Proofs.YtkaenmjhfajbkaaGreatDoor
