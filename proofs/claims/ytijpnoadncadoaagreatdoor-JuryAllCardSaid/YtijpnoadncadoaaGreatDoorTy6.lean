/-
 The statement juryAll_said, part 6 of 8: V5, V6, Wh1, V4, V8, Wh2, Jw3, Jw4, Jw5, Rc1, Rc2, Rc3, Rc4, Rs1, S2, Rs2, Rs3, Rs4, Rt2, Jw6.
 Conditions: none.
-/
import Derived.Test.YtijpnoadncadoaaGreatDoorTy1
import Derived.Test.YtijpnoadncadoaaGreatDoorTy2
import Derived.Test.YtijpnoadncadoaaGreatDoorTy3
import Derived.Test.YtijpnoadncadoaaGreatDoorTy4
import Derived.Test.YtijpnoadncadoaaGreatDoorTy5
namespace Go.Proofs.YtijpnoadncadoaaGreatDoor
set_option maxRecDepth 100000
set_option maxHeartbeats 4000000
set_option linter.unusedVariables false
section
open Go.RowKit
theorem Af (ln:cV) (ri:cN) (e:List Int) (tms:List TM) (e_A:OA) (e_C:Nat) (tb:List Nat) (t_A:OA) (t_C gw:Nat) (hw:Ft (cO ln ri e tms)) (hn:ln.ab.n=e.length) (htb:tb.length=tms.length):
 Kw Tryz.prog 68 [(vP gw)] [(rd e_A e.length 1 (e.map iC)),(rd t_A tms.length 1 (List.zipWith f_ tms tb)),(dL (br pf tms tb))] (cm gw 150 (bV.cells (bV.mk ln ri (bH.mk e_A e.length e_C) (bH.mk t_A tms.length t_C) (bH.mk none 0 0) (bH.mk none 0 0)))) (fun (x:(List FM)×(List Nat)×(OA)×Nat×(List FM)×(List Nat)×(OA)×Nat)=>(vT [])) (fun (x:(List FM)×(List Nat)×(OA)×Nat×(List FM)×(List Nat)×(OA)×Nat)=>u0 (cO ln ri e tms) x.1∧r_ (cO ln ri e tms) x.2.2.2.2.1∧x.2.1.length=x.1.length∧x.2.2.2.2.2.1.length=x.2.2.2.2.1.length) (fun (x:(List FM)×(List Nat)×(OA)×Nat×(List FM)×(List Nat)×(OA)×Nat)=>(bX [(cm gw 150 (bV.cells (bV.mk ln ri (bH.mk e_A e.length e_C) (bH.mk t_A tms.length t_C) (bH.mk x.2.2.1 x.1.length x.2.2.2.1) (bH.mk x.2.2.2.2.2.2.1 x.2.2.2.2.1.length x.2.2.2.2.2.2.2)))),(own x.2.2.1 x.2.2.2.1 156 1 (List.zipWith f_ x.1 x.2.1)),(bX (br mE x.1 x.2.1)),(own x.2.2.2.2.2.2.1 x.2.2.2.2.2.2.2 156 1 (List.zipWith f_ x.2.2.2.2.1 x.2.2.2.2.2.1)),(bX (br mE x.2.2.2.2.1 x.2.2.2.2.2.1))])):=by
 have VN:e.length≤6:=hw.n
 have VO:tms.length=e.length:=hw.times
 refine uu kr Tryz.func68 U U fun w0 Q hQ hN=>?_
 try dsimp only
 refine WS fun _ Do=>vR U U fun W=>RK Do<|WS fun _ Eq=>eN 1 [] (mc 0 U I) U<|rS (SX (cM U U) U U)<|rP 5 [] (mc 1 U I) ?_
 refine RK Eq ?_
 refine kD (ι:={z:(OA)×(OA) // True}) [0,1,2] [0,2,3,4] U U (fun z=>[]) (fun z=>[(own z.1.1 (ln.ab.n+1) 156 1 (List.map oC (List.replicate (ln.ab.n+1) (none:Option Nat)))),(own z.1.2 (ln.ab.n+1) 156 1 (List.map oC (List.replicate (ln.ab.n+1) (none:Option Nat)))),(cm gw 150 (bV.cells (bV.mk ln ri (bH.mk e_A e.length e_C) (bH.mk t_A tms.length t_C) (bH.mk z.1.1 (ln.ab.n+1) (ln.ab.n+1)) (bH.mk z.1.2 (ln.ab.n+1) (ln.ab.n+1)))))]) (fun _=>rfl) (fun _=>rfl) ?_ fun K4 FS=>?_
 ·rintro ⟨⟨fA,bA⟩,_⟩
  try dsimp only
  refine Ai 6 U U fun wz Sz hz=>?_
  have VK:(List.replicate (ln.ab.n+1) (none:Option Nat)).length=(ln.ab.n+1):=List.length_replicate
  try dsimp only
  refine kD (ι:={z:Nat // True}) [0,1,2] [0,1,2,3,4,6] U U (fun z=>[]) (fun z=>[(bX (br mE [[((aC.mk 0 0),ri.Start)]] [z.1])),(own fA (ln.ab.n+1) 156 1 (List.map oC (dk [z.1] (ln.ab.n+1))))]) (fun _=>rfl) (fun _=>rfl) ?_ fun K5 UT=>?_
  ·rintro ⟨ga,_⟩
   try dsimp only
   refine aj fun _ Fd=>WS fun _ Fn=>rP 2 [] I ?_
   refine RK Fn<|aB<|qE ?_
   have C:(0≤ln.ab.n)∧(([[((aC.mk 0 0),ri.Start)]]).length=0+1)∧(([ga]).length=0+1)∧(p6 (cO ln ri e tms) ([[((aC.mk 0 0),ri.Start)]])):=by exact ⟨Nat.zero_le _,rfl,rfl,p6.first⟩
   refine vN (ι:={z:Nat×(List FM)×(List Nat)×(List Nat) // (z.1≤ln.ab.n)∧(z.2.1.length=z.1+1)∧(z.2.2.1.length=z.1+1)∧(p6 (cO ln ri e tms) z.2.1)}) (fun z=>z.1.2.2.2.map jE) (fun z=>[(0,(vP gw)),(1,(vP W)),(2,(vI (ln.ab.n:Int))),(52,(vI (ln.ab.n:Int))),(53,(vI (z.1.1:Int)))]) (fun z=>[(bX (z.1.2.2.2.map lV)),(cm gw 150 (bV.cells (bV.mk ln ri (bH.mk e_A e.length e_C) (bH.mk t_A tms.length t_C) (bH.mk fA (ln.ab.n+1) (ln.ab.n+1)) (bH.mk bA (ln.ab.n+1) (ln.ab.n+1))))).ro,(cm W 108 [(vP gw)]),(rd e_A e.length 1 (e.map iC)).ro,(rd t_A tms.length 1 (List.zipWith f_ tms tb)).ro,(dL (br pf tms tb)).ro,(own bA (ln.ab.n+1) 156 1 (List.map oC (List.replicate (ln.ab.n+1) (none:Option Nat)))),(bX (br mE z.1.2.1 z.1.2.2.1)),(own fA (ln.ab.n+1) 156 1 (List.map oC (dk z.1.2.2.1 (ln.ab.n+1))))]) (fun z=>ln.ab.n-z.1.1) ⟨(0,[[((aC.mk 0 0),ri.Start)]],[ga],([]:List Nat)),C⟩ U (bx U) (aP [0,1,2,3,4,5,6,7,8]) ?_
   clear C
   rintro ⟨⟨b,fs,fb,T0⟩,⟨Jc,A6,Jt,M⟩⟩ J8 US
   try dsimp only at Jc A6 Jt M
   try dsimp only
   have VL:(dk fb (ln.ab.n+1)).length=(ln.ab.n+1):=mV om
   refine WS fun _ GE=>rP 1 [] I ?_
   refine RK GE<|aj fun _ AO=>cu U (aU fun UB=>?_) (aT fun UB=>?_)
   ·refine WK AO<|aj fun _ LE=>aB<|WS fun _ LT=>rP 1 [] I ?_
    refine AL U j5 fun s=>MK U ER U U<|RK LT<|aj fun _ La=>dH cp [6,8] [6] [0] [0,1,2,3,4,5,6,7,8] [0,1,2,3,4,5,6,7,8,9] U U U U U<|eS U (Dy 3 U cb U)<|eS U (SX (cM U U) U U)<|eS U (FA 12 U fE U)<|eS U (Io (vS fA (ln.ab.n+1) (ln.ab.n+1)) 2 U cb U U)<|eS U (Dy 0 U cb U)<|eS U (BI U (n9 ⟨om,om⟩)) ?_
    obtain ⟨U3,Td⟩:=aJ (dk fb (ln.ab.n+1)) (b+1) om
    have hx17m:(List.map oC (dk fb (ln.ab.n+1)))[(b+1)]? =some (oC U3):=by rw [fz,Td]; rfl
    refine fS U (IA (b+1) U (aN (n:=(ln.ab.n+1)) 9 U sq) oc dc om om) ?_
    refine ep U<|lX U fun T18 Qr=>lj (kV:=d_) U U fun B=>?_
    try dsimp only
    refine aD (Qr _ _ (aP [1,2,3,4,5,6,7,8,9]) (aP [1,2,3,4,5,6,7,8,9,10]) ?_)
    refine cj U fun T20 Qx=>?_
    have R7:((dk fb (ln.ab.n+1)).set (b+1) (some B))=(dk (fb++[B]) (ln.ab.n+1)):=by exact q9 om om
    refine iU (k:=(b+1)) (o:=0) (vs:=[(Value.map (some B))]) (es':=(List.map oC (dk (fb++[B]) (ln.ab.n+1)))) (C':=[_,_,_,_,_,_,_,_,_,_,(own fA (ln.ab.n+1) 156 1 (List.map oC (dk (fb++[B]) (ln.ab.n+1))))]) 10 U U U Ie U U U U hx17m U dc (by exact (List.map_set (f:=oC) (l:=(dk fb (ln.ab.n+1))) (i:=(b+1)) (a:=(some B))).symm.trans (congrArg _ R7)) U<|aD (Qx _ _ (aP [1,2,3,4,5,6,7,8,9]) ?_)
    refine fH U<|KK La<|aj fun _ Li=>?_
    have UX:(dk (fb++[B]) (ln.ab.n+1)).length=(ln.ab.n+1):=mV (by simp; omega)
    obtain ⟨mb,N⟩:=aJ fs b om
    obtain ⟨ga,Z⟩:=aJ fb b om
    refine yQ 9 N Z U U U ?_
    try dsimp only
    refine dg cp 7 kr<|lu 1 [] (mc 6 U I) U<|dS (SX (cM U U) U U)<|dP 3 [0,1] (mr 5 U (mc 3 U I)) ?_
    have Sw:(List.map oC (dk (fb++[B]) (ln.ab.n+1)))[b]? =some (oC (some ga)):=pZ (mj (Ik Z))
    refine dS (IA b U (aN (n:=(ln.ab.n+1)) 11 U sq) oc dc om om) ?_
    refine dS (hG b 0 (Value.map (some ga)) U cb (aN (n:=(dk (fb++[B]) (ln.ab.n+1)).length) 11 U sm) Sw U dc U)<|cE<|yS 0 U U oV U U fun CF=>?_
    try dsimp only
    refine RK Li<|aB ?_
    have C:(∀ p∈mb,p∈mb)∧(xK (cO ln ri e tms) b ([]:FM))∧(jU (cO ln ri e tms) b mb ([]:FM) mb):=by exact ⟨fun p hp=>hp,xK.start,jU.start⟩
    refine vN (ι:={z:FM×FM×(List Nat) // (∀ p∈z.1,p∈mb)∧(xK (cO ln ri e tms) b z.2.1)∧(jU (cO ln ri e tms) b mb z.2.1 z.1)}) (fun z=>z.1.2.2.map jE) (fun z=>[(0,(vP gw)),(1,(vP W)),(2,(vI (ln.ab.n:Int))),(3,(vP s)),(52,(vI (ln.ab.n:Int))),(53,(vI (b:Int))),(71,(vP CF))]) (fun z=>[(zZ d_ CF ga (cK iV mb) (cK iV z.1.1) none),(bX (iT mE fs fb b)),(jM d_ B (cK iV z.1.2.1)),(cm s 3 [(vI (b:Int))]),(bX (z.1.2.2.map lV)),(cm gw 150 (bV.cells (bV.mk ln ri (bH.mk e_A e.length e_C) (bH.mk t_A tms.length t_C) (bH.mk fA (ln.ab.n+1) (ln.ab.n+1)) (bH.mk bA (ln.ab.n+1) (ln.ab.n+1))))).ro,(cm W 108 [(vP gw)]),(rd e_A e.length 1 (e.map iC)).ro,(rd t_A tms.length 1 (List.zipWith f_ tms tb)).ro,(dL (br pf tms tb)).ro,(own bA (ln.ab.n+1) 156 1 (List.map oC (List.replicate (ln.ab.n+1) (none:Option Nat)))),(own fA (ln.ab.n+1) 156 1 (List.map oC (dk (fb++[B]) (ln.ab.n+1))))]) (fun z=>z.1.1.length) ⟨(mb,([]:FM),T0),C⟩ U (bx U) (aP [0,1,2,3,4,5,6,7,8,9,10,11]) ?_
    clear C
    rintro ⟨⟨left,m,A7⟩,⟨c,d,g⟩⟩ J26 K8
    try dsimp only at c d g
    try dsimp only
    refine WS fun _ Ck=>wS oZ.inj (f:=iV) 0 U U U U (fun UM=>?_) (fun t v hm J2=>?_)
    ·refine bE 1 U<|RK Ck<|aj fun _ VB=>cg U<|bL<|ai<|ai<|aG<|aL<|KK LE<|aq<|rP 2 [] I ?_
     refine aD<|Ig (C':=[(jM d_ ga (cK iV mb)),(bX (iT mE fs fb b)),(jM d_ B (cK iV m)),(cm s 3 [(vI (b:Int))]),(bX (A7.map lV)),(cm gw 150 (bV.cells (bV.mk ln ri (bH.mk e_A e.length e_C) (bH.mk t_A tms.length t_C) (bH.mk fA (ln.ab.n+1) (ln.ab.n+1)) (bH.mk bA (ln.ab.n+1) (ln.ab.n+1))))).ro,(cm W 108 [(vP gw)]),(rd e_A e.length 1 (e.map iC)).ro,(rd t_A tms.length 1 (List.zipWith f_ tms tb)).ro,(dL (br pf tms tb)).ro,(own bA (ln.ab.n+1) 156 1 (List.map oC (List.replicate (ln.ab.n+1) (none:Option Nat)))),(own fA (ln.ab.n+1) 156 1 (List.map oC (dk (fb++[B]) (ln.ab.n+1))))]) 0 U J_ U<|H9 1 0 N Z U U U ?_
     try dsimp only
     refine yc (X':=br mE (fs++[m]) (fb++[B])) 0 1 U U (yJ om U) ?_
     try dsimp only
     have R8:(vI (((b+1):Nat):Int))=(vI ((b:Int)+1)):=by exact cI om
     refine a7 (US ⟨((b+1),(fs++[m]),(fb++[B]),A7),⟨om,by simp; omega,by simp; omega,M.add A6 N d g UM⟩⟩ _ _ _ U os (cw 4<|aX U R8<|df.nil _) (aP [2,3,4,5,6,7,8,0,9]))
    try dsimp only
    refine bE 1 U<|RK Ck<|aj fun _ Lk=>aQ U<|WK Lk<|aB<|WS fun _ L2=>rS (SX (xO 0 U U U) U U)<|bE 2 U<|AL U tM fun J5=>AL U j5 fun J6=>rL U rN U<|MK U ER U U<|RK L2<|WS fun _ L3=>rP 2 [0,1] (mc 8 U (mc 5 U I)) ?_
    refine cX (uQ gw b) (aM) U fun U7 VE=>?_
    obtain ⟨C0,C3⟩:=U7
    try dsimp only
    refine RK L3<|aB<|jd 11 U (by exact fun _ h=>h)<|jd 13 U (by exact fun _ h=>h)<|jd 15 U (by exact fun _ h=>h)<|jd 12 U (by exact fun _ h=>h) ?_
    refine tq (L0:=[(0,(vP gw)),(1,(vP W)),(2,(vI (ln.ab.n:Int))),(3,(vP s)),(4,(vP J5)),(5,(vP J6)),(52,(vI (ln.ab.n:Int))),(53,(vI (b:Int))),(71,(vP CF))]) (F:=[(rd e_A e.length 1 (e.map iC)).ro,(rd t_A tms.length 1 (List.zipWith f_ tms tb)).ro,(dL (br pf tms tb)).ro,(cm gw 150 (bV.cells (bV.mk ln ri (bH.mk e_A e.length e_C) (bH.mk t_A tms.length t_C) (bH.mk fA (ln.ab.n+1) (ln.ab.n+1)) (bH.mk bA (ln.ab.n+1) (ln.ab.n+1))))).ro,(cm C0 108 [(vP gw)]),(cm C3 3 [(vI (b:Int))])]) (fun k (y:FM)=>(nH (cO ln ri e tms) b mb left y (t,v) k)) (fun k y=>[(cm J6 3 [(vI v)]),(cm J5 158 (aC.cells t)),(zZ d_ CF ga (cK iV mb) (cK iV (eO left t)) (some (t,(vI v)))),(bX (iT mE fs fb b)),(jM d_ B (cK iV y)),(cm s 3 [(vI (b:Int))]),(bX (A7.map lV)),(cm gw 150 (bV.cells (bV.mk ln ri (bH.mk e_A e.length e_C) (bH.mk t_A tms.length t_C) (bH.mk fA (ln.ab.n+1) (ln.ab.n+1)) (bH.mk bA (ln.ab.n+1) (ln.ab.n+1))))).ro,(cm W 108 [(vP gw)]),(rd e_A e.length 1 (e.map iC)).ro,(rd t_A tms.length 1 (List.zipWith f_ tms tb)).ro,(dL (br pf tms tb)).ro,(own bA (ln.ab.n+1) 156 1 (List.map oC (List.replicate (ln.ab.n+1) (none:Option Nat)))),(own fA (ln.ab.n+1) 156 1 (List.map oC (dk (fb++[B]) (ln.ab.n+1))))]) (fun _ (_:Unit)=>False) (fun _ _=>[]) [6,7,8,9,10,11,12,13,14,15,16,17,18,19] [3,2,1,0,4,5] m rfl rfl (r9 ln ri e tms e_A e_C tb t_A t_C fA (ln.ab.n+1) (ln.ab.n+1) bA (ln.ab.n+1) (ln.ab.n+1) gw b C0 C3 om om) rfl rfl rfl (by exact nH.start d g) (by simp only [List.forall_mem_cons,List.not_mem_nil,false_imp_iff,implies_true,and_true]; exact ⟨⟨_,aR (i:=0) rfl,(dy (bR _))⟩,⟨_,aR (i:=1) rfl,(dy (bR _))⟩,⟨_,aR (i:=2) rfl,(dy (bR _))⟩,⟨_,aR (i:=3) rfl,(dy (bR _))⟩,⟨_,aR (i:=4) rfl,(bR _)⟩,⟨_,aR (i:=5) rfl,(bR _)⟩⟩) (by rintro k x k2 ⟨o,_,rfl,_⟩; rfl) rfl (bx rfl) ?_ ?_ (fun _ _ _ h=>h.elim) (fun _ _ h=>h.elim)
    rotate_left 1
    ·rintro U2 k O A5 IR
     have D:=IR
     try dsimp only
     refine aL<|aL<|H_ (X:=A7.map lV) 13 0 U U ?_
     try dsimp only
     refine qt 9 U Aq U ?_
     refine a7 (K8 ⟨((eO left t),O,(U2::A7)),⟨l7 c,D.on,D.next J2 hm A5⟩⟩ _ _ _ U (mh hm) (bx U) (aP [9,10,11,12,0,4,14,1,2,3,18,19]))
    rintro k x k2 O l ra rb S w1 K39 Qr40 Un hx IO Ma H U5 U9
    obtain ⟨o,ho,rfl,rfl⟩:=hx
    have D:=IO
    try dsimp only
    refine WS fun _ M2=>rP 1 [] I ?_
    refine RK M2<|aq<|AL U dN fun VG=>fu U cS U<|aD<|ic (fun _ _ h=>h) (aP [1,0,2,3,4,5,6,7,8,9,10,11,12,13,14,15])<|a7 (Ma _ _ ?_)
    refine aB<|aj fun _ NE=>dH cp [16,18] [] [] [0,1,2,3,4,5,6,7,8,9,10,11,12,13,14,15] [] U U U U U<|eS U (Dy 2 U cb U)<|eS U (Dy 10 U cb U)<|eS U (SX (cM U U) U U)<|eS U (FA 10 U fE U)<|eS U (Io (vS e_A e.length e_C) 9 U cb U U)<|eS U (Dy 7 U cb U) ?_
    obtain ⟨y,hy⟩:=aJ e b om
    have J3:=bK iC hy
    refine eS U (IA b U (aA 11 U) dp dc om om)<|eS U (hG b 0 (vI y) U cb (aA 11 U) J3 U dc U) ?_
    have UW:=hw.least y (aR hy)
    have hp:=M.mem N (c _ hm)
    have UV:=HS hw _ _ hp
    have UZ:=uK o.1
    have Uk:=hw.opt ho
    have VM:=hw.now
    dsimp only at UV
    refine eS U (BI U (n9 ⟨om,om⟩))<|eS U (FA 0 U fE U)<|eS U (L1 (vI o.2.Lo) 1 U cb U U)<|eS U (MX U)<|eS U (LW 3 U cb U U)<|eS U (MV U)<|eS U (CL (Ih o.1) (aM) U)<|eS U (CL (vX t (e7 o.1) om om) (aM) U)<|eS U (AG U)<|ep U<|cj U fun T45 Rl=>AL U tM fun VH=>aD (Rl _ _ (aP [1,2,3,4,5,6,7,8,9,10,11,12,13,14,15,16]) ?_)
    refine cj U fun T47 R0=>fu U rN U<|aD (R0 _ _ (aP [1,2,3,4,5,6,7,8,9,10,11,12,13,14,15,16]) ?_)
    refine fH U<|KK NE<|aj fun _ NN=>dg cp 15 kr<|lu 1 [] (mc 11 U I) U<|dS (SX (cM U U) U U)<|dP 4 [0,1] (mr 10 U (mc 8 U I)) ?_
    have S1:(List.map oC (dk (fb++[B]) (ln.ab.n+1)))[(b+1)]? =some (oC (some B)):=pZ (mj (z6 om))
    refine dS (IA (b+1) U (aN (n:=(ln.ab.n+1)) 16 U sq) oc dc om om) ?_
    refine dS (hG (b+1) 0 (Value.map (some B)) U cb (aN (n:=(dk (fb++[B]) (ln.ab.n+1)).length) 16 U sm) S1 U dc U)<|lu 1 [] (mc 0 U I) U<|dS (SX (sD (kV:=d_) (x:=(dv t (e7 o.1))) (l:=O) (f:=iV) (z:=0) U U U oV oZ Uu (by exact aA 7 U)) U U)<|kI 5 U<|cE<|RK NN<|aj fun _ A0=>dg cp 19 kr<|lu 4 [0,1] (mc 2 U (mc 11 U I)) U<|dS (SX (cM U U) U U)<|lu 3 [] (mr 10 U I) U<|dS (MN U)<|dP 2 [] I ?_
    refine js (t:=121) U (aT fun P=>?_) (aU fun P=>?_)
    ·refine dP 8 [] I ?_
     refine cE<|RK A0<|cg U<|cf<|aL ?_
     exact H O _ _ (by exact D.skip (JJ hy P)) (aP [1,3,4,5,6,7,8,9,10,11,12,13,14,15,16])
    refine dP 3 [] I ?_
    refine gY (t:=124) U (fun R=>?_) (fun R=>?_)
    ·rw [Bool.not_eq_true'] at R
     refine kI 5 U<|cE<|RK A0<|aQ U<|dg cp 10 kr<|lu 1 [] (mc 11 U I) U<|dS (SX (cM U U) U U)<|dP 4 [0,1] (mr 10 U (mc 8 U I)) ?_
     have S2:(List.map oC (dk (fb++[B]) (ln.ab.n+1)))[(b+1)]? =some (oC (some B)):=pZ (mj (z6 om))
     refine dS (IA (b+1) U (aN (n:=(ln.ab.n+1)) 16 U sq) oc dc om om) ?_
     refine dS (hG (b+1) 0 (Value.map (some B)) U cb (aN (n:=(dk (fb++[B]) (ln.ab.n+1)).length) 16 U sm) S2 U dc U)<|dP 2 [] (mc 0 U I) ?_
     refine cE<|il (kV:=d_) (x:=(dv t (e7 o.1))) (C':=[_,_,_,_,_,_,_,(jM d_ B (cK iV (dz O (dv t (e7 o.1)) (max (v+y) o.2.Lo)))),_,_,_,_,_,_,_,_,_]) 7 U U U U oV oZ U (fU _ _ _ _).symm U<|aD<|aL ?_
     exact H (dz O (dv t (e7 o.1)) (max (v+y) o.2.Lo)) _ _ (by exact D.set hp ho (Aa hy P) (.inl (by simpa using R))) (aP [1,3,4,5,6,7,8,9,10,11,12,13,14,15,16])
    rw [Bool.not_eq_false'] at R
    refine dP 5 [] I ?_
    refine cE<|RK A0<|bQ U (aT fun u=>?_) (aU fun u=>?_)
    ·refine cf<|aL ?_
     exact H O _ _ (by exact D.oy (Aa hy P) (by simpa using R) u) (aP [1,3,4,5,6,7,8,9,10,11,12,13,14,15,16])
    refine dg cp 10 kr<|lu 1 [] (mc 11 U I) U<|dS (SX (cM U U) U U)<|dP 4 [0,1] (mr 10 U (mc 8 U I)) ?_
    have TI:(List.map oC (dk (fb++[B]) (ln.ab.n+1)))[(b+1)]? =some (oC (some B)):=pZ (mj (z6 om))
    refine dS (IA (b+1) U (aN (n:=(ln.ab.n+1)) 16 U sq) oc dc om om) ?_
    refine dS (hG (b+1) 0 (Value.map (some B)) U cb (aN (n:=(dk (fb++[B]) (ln.ab.n+1)).length) 16 U sm) TI U dc U)<|dP 2 [] (mc 0 U I) ?_
    refine cE<|il (kV:=d_) (x:=(dv t (e7 o.1))) (C':=[_,_,_,_,_,_,_,(jM d_ B (cK iV (dz O (dv t (e7 o.1)) (max (v+y) o.2.Lo)))),_,_,_,_,_,_,_,_,_]) 7 U U U U oV oZ U (fU _ _ _ _).symm U<|aD<|aL ?_
    exact H (dz O (dv t (e7 o.1)) (max (v+y) o.2.Lo)) _ _ (by exact D.set hp ho (Aa hy P) (.inr u)) (aP [1,3,4,5,6,7,8,9,10,11,12,13,14,15,16])
   refine bL<|ai<|ai<|aG<|KK Fd<|WS fun _ A1=>rP 1 [] I ?_
   refine AL U j5 fun T4=>MK U ER U U<|RK A1<|aB ?_
   rw [GC]
   refine qE ?_
   have C:(0≤ln.ab.n+1)∧(([]:List FM).length=0)∧(([]:List Nat).length=0)∧(h_ (cO ln ri e tms) (ln.ab.n+1-0) ([]:List FM)):=by exact ⟨Nat.zero_le _,rfl,rfl,h_.none_⟩
   refine vN (ι:={z:Nat×(List FM)×(List Nat)×Nat×(List Nat) // (z.1≤ln.ab.n+1)∧(z.2.1.length=z.1)∧(z.2.2.1.length=z.1)∧(h_ (cO ln ri e tms) (ln.ab.n+1-z.1) z.2.1)}) (fun z=>z.1.2.2.2.2.map jE) (fun z=>[(0,(vP gw)),(1,(vP W)),(2,(vI (ln.ab.n:Int))),(12,(Value.pointer (some ⟨z.1.2.2.2.1,0,none⟩)))]) (fun z=>[(bX (br mE z.1.2.1 z.1.2.2.1)),(cm z.1.2.2.2.1 3 [(vI ((ln.ab.n:Int)-(z.1.1:Int)))]),(bX (z.1.2.2.2.2.map lV)),(cm gw 150 (bV.cells (bV.mk ln ri (bH.mk e_A e.length e_C) (bH.mk t_A tms.length t_C) (bH.mk fA (ln.ab.n+1) (ln.ab.n+1)) (bH.mk bA (ln.ab.n+1) (ln.ab.n+1))))).ro,(cm W 108 [(vP gw)]),(rd e_A e.length 1 (e.map iC)).ro,(rd t_A tms.length 1 (List.zipWith f_ tms tb)).ro,(dL (br pf tms tb)).ro,(own bA (ln.ab.n+1) 156 1 (List.map oC (hH z.1.2.2.1 (ln.ab.n+1)))),(bX (br mE fs fb)),(own fA (ln.ab.n+1) 156 1 (List.map oC (dk fb (ln.ab.n+1))))]) (fun z=>ln.ab.n+1-z.1.1) ⟨(0,([]:List FM),([]:List Nat),T4,T0),C⟩ U (bx U) (aP [0,1,2,3,4,5,6,7,8,9,10]) ?_
   clear C
   rintro ⟨⟨j,bs,bb,gq,q⟩,⟨BV,B3,B9,E⟩⟩ J57 Ci
   try dsimp only at BV B3 B9 E
   try dsimp only
   refine aj fun _ A2=>WS fun _ A3=>rP 2 [] (mc 1 U I) ?_
   refine RK A3<|bQ U (aT fun Kf=>?_) (aU fun Kf=>?_)
   ·refine bL<|ai<|ai<|aG ?_
    rw [show (List.map oC (dk fb (ln.ab.n+1)))=(List.zipWith f_ fs fb) from by rw [ye om]; exact (zX om).symm]
    rw [show (List.map oC (hH bb (ln.ab.n+1)))=(List.zipWith f_ bs bb) from by rw [GM om]; exact (zX om).symm]
    refine za (C1:=[(own fA (ln.ab.n+1) 156 1 (List.zipWith f_ fs fb)),(bX (br mE fs fb)),(own bA (ln.ab.n+1) 156 1 (List.zipWith f_ bs bb)),(bX (br mE bs bb)),(bX (q.map lV))]) hz [10,9,8,0,2] U U (by simp only [fy,List.all_nil,oY,Ld,Bool.and_true]; rfl) ?_
    rw [show (cm gw 150 (bV.cells (bV.mk ln ri (bH.mk e_A e.length e_C) (bH.mk t_A tms.length t_C) (bH.mk fA (ln.ab.n+1) (ln.ab.n+1)) (bH.mk bA (ln.ab.n+1) (ln.ab.n+1)))))=(cm gw 150 (bV.cells (bV.mk ln ri (bH.mk e_A e.length e_C) (bH.mk t_A tms.length t_C) (bH.mk fA fs.length (ln.ab.n+1)) (bH.mk bA bs.length (ln.ab.n+1))))) from by rw [show fs.length=(ln.ab.n+1) from by omega,show bs.length=(ln.ab.n+1) from by omega]]
    refine NU [(cm gw 150 (bV.cells (bV.mk ln ri (bH.mk e_A e.length e_C) (bH.mk t_A tms.length t_C) (bH.mk fA fs.length (ln.ab.n+1)) (bH.mk bA bs.length (ln.ab.n+1))))),(own fA (ln.ab.n+1) 156 1 (List.zipWith f_ fs fb)),(bX (br mE fs fb)),(own bA (ln.ab.n+1) 156 1 (List.zipWith f_ bs bb)),(bX (br mE bs bb))] [(bX (q.map lV))] ?_
    refine hN _ _ _ (Is 1 U U<|jI (vs:=[]) trivial fun w hs=>P4 (fs,fb,fA,(ln.ab.n+1),bs,bb,bA,(ln.ab.n+1)) 0 ?_ ?_ U (by show List.all _ _=true; simp only [fy,List.all_nil,oY,Bool.and_true]; rfl) hs)
    ·clear hs w hQ hN A3 A2 A1 AO GE Fn Fd Eq Do; rfl
    ·clear hs w hQ hN A3 A2 A1 AO GE Fn Fd Eq Do; exact ⟨M.ok (by show fs.length=e.length+1; omega),h_.ok (by have:=E; rwa [show ln.ab.n+1-j=0 by omega] at this) (by show bs.length=e.length+1; omega),dso,dso⟩
   refine WK A2<|aj fun _ Cp=>aB<|aj fun _ NZ=>?_
   obtain ⟨b,VJ⟩: ∃ b:Nat,b+j=ln.ab.n:=⟨ln.ab.n-j,om⟩
   rw [show (ln.ab.n:Int)-(j:Int)=(b:Int) from by omega]
   have VD:(hH bb (ln.ab.n+1)).length=(ln.ab.n+1):=yU om
   refine dH cp [5,12,13,15] [11] [0,1,2] [0,1,2,3,4,5,6,7,9,10] [0,1,2,3,4,5,6,7,8,9,10] U U U U U<|eS U (Dy 4 U cb U)<|eS U (SX (cM U U) U U)<|eS U (FA 13 U fE U)<|eS U (Io (vS bA (ln.ab.n+1) (ln.ab.n+1)) 3 U cb U U)<|eS U (Dy 1 U cb U)<|eS U (SX (a_ (xs:=[]) (cs:=(aC.cells (aC.mk 0 0))) U U (bf AQ U)) U U)<|eS U (Dy 4 U cb U)<|eS U (SX (cM U U) U U)<|eS U (FA 7 U fE U)<|eS U (FA 8 U fE U)<|eS U (Io (vI ri.fJ) 3 U cb U U) ?_
   obtain ⟨U4,Te⟩:=aJ (hH bb (ln.ab.n+1)) b om
   have hx63m:(List.map oC (hH bb (ln.ab.n+1)))[b]? =some (oC U4):=by rw [fz,Te]; rfl
   refine fS U (IA b U (aN (n:=(ln.ab.n+1)) 8 U sq) oc dc om om) ?_
   refine ep U<|lX U fun T64 R1=>lj (kV:=d_) U U fun A=>?_
   try dsimp only
   refine aD (R1 _ _ (aP [1,2,3,4,5,6,7,8,10,11]) (aP [1,2,3,4,5,6,7,8,9,10,11]) ?_)
   refine lX U fun T66 R2=>?_
   have R9:(dz ([]:List (aC×Int)) (aC.mk 0 0) ri.fJ)=[((aC.mk 0 0),ri.fJ)]:=by rfl
   refine yk (kV:=d_) (x:=(aC.mk 0 0)) (C':=[(jM d_ A (cK iV ([((aC.mk 0 0),ri.fJ)]))),_,_,_,_,_,_,_,_,_,_,_]) 0 U U U U oV oZ U ((fU _ _ _ _).symm.trans (congrArg _ R9)) U<|aD (R2 _ _ (aP [1,2,3,4,5,6,7,8,10,11]) (aP [1,2,3,4,5,6,7,8,9,10,11]) ?_)
   refine lX U fun T68 R3=>rS (MV U)<|aD (R3 _ _ (aP [1,2,3,4,5,6,7,8,10,11]) (aP [1,2,3,4,5,6,7,8,9,10,11]) ?_)
   refine cj U fun T69 R4=>?_
   have ST:((hH bb (ln.ab.n+1)).set b (some A))=(hH (A::bb) (ln.ab.n+1)):=by exact FY om
   refine iU (k:=b) (o:=0) (vs:=[(Value.map (some A))]) (es':=(List.map oC (hH (A::bb) (ln.ab.n+1)))) (C':=[_,_,_,_,_,_,_,_,_,(own bA (ln.ab.n+1) 156 1 (List.map oC (hH (A::bb) (ln.ab.n+1)))),_,_]) 9 U U U Ie U U U U hx63m U dc (by exact (List.map_set (f:=oC) (l:=(hH bb (ln.ab.n+1))) (i:=b) (a:=(some A))).symm.trans (congrArg _ ST)) U<|aD (R4 _ _ (aP [1,2,3,4,5,6,7,8,10,11]) ?_)
   refine fH U<|KK NZ<|aj fun _ Ne=>WS fun _ Nn=>rP 3 [] (mc 2 U I) ?_
   refine RK Nn<|cu U (aU fun Kn=>?_) (aT fun Kn=>?_)
   ·refine bL<|ai<|aG<|KK Cp<|aj fun _ N_=>WS fun _ OR=>eN 1 [] (mc 2 U I) U<|RK OR<|aq<|AL U j5 fun T6=>MK U ER U U<|RK N_<|aq<|rP 2 [] (mc 0 U I) ?_
    refine MK U ER U U<|aD ?_
    rw [show (b:Int)-1=(ln.ab.n:Int)-(((j+1):Nat):Int) from by omega]
    refine yL (ms:=bs) (m:=[((aC.mk 0 0),ri.fJ)]) (a:=A) 2 1 U U U ?_
    try dsimp only
    refine a7 (Ci ⟨((j+1),([((aC.mk 0 0),ri.fJ)]::bs),(A::bb),T6,q),⟨om,by simp; omega,by simp; omega,by exact h_.end_ (b:=b) E om om (by show e.length≤b; omega)⟩⟩ _ _ _ U os (bx U) (aP [0,1,3,4,5,6,7,8,9,10,11]))
   refine WK Ne<|aj fun _ Ob=>?_
   have UY:(hH (A::bb) (ln.ab.n+1)).length=(ln.ab.n+1):=yU (by simp; omega)
   obtain ⟨mb,N⟩:=aJ bs 0 om
   obtain ⟨ga,Z⟩:=aJ bb 0 om
   refine yQ 1 N Z U U U ?_
   try dsimp only
   refine dg cp 8 kr<|lu 1 [] (mc 6 U I) U<|dS (SX (cM U U) U U)<|dP 4 [0,1] (mr 5 U (mc 3 U I)) ?_
   have TU:(List.map oC (hH (A::bb) (ln.ab.n+1)))[(b+1)]? =some (oC (some ga)):=pZ (sY (i:=1) (by simpa using Z) (by simp; omega))
   refine dS (IA (b+1) U (aN (n:=(ln.ab.n+1)) 10 U sq) oc dc om om) ?_
   refine dS (hG (b+1) 0 (Value.map (some ga)) U cb (aN (n:=(hH (A::bb) (ln.ab.n+1)).length) 10 U sm) TU U dc U)<|cE<|yS 0 U U oV U U fun Cf=>?_
   try dsimp only
   refine RK Ob<|aB ?_
   have C:(∀ p∈mb,p∈mb)∧(vE (cO ln ri e tms) b ([((aC.mk 0 0),ri.fJ)]))∧(jD (cO ln ri e tms) b mb ([((aC.mk 0 0),ri.fJ)]) mb):=by exact ⟨fun p hp=>hp,vE.start (by show b<e.length; omega),jD.start⟩
   refine vN (ι:={z:FM×FM×(List Nat) // (∀ p∈z.1,p∈mb)∧(vE (cO ln ri e tms) b z.2.1)∧(jD (cO ln ri e tms) b mb z.2.1 z.1)}) (fun z=>z.1.2.2.map jE) (fun z=>[(0,(vP gw)),(1,(vP W)),(2,(vI (ln.ab.n:Int))),(12,(vP gq)),(171,(vP Cf))]) (fun z=>[(zZ d_ Cf ga (cK iV mb) (cK iV z.1.1) none),(bX (iT mE bs bb 0)),(jM d_ A (cK iV z.1.2.1)),(cm gq 3 [(vI (b:Int))]),(bX (z.1.2.2.map lV)),(cm gw 150 (bV.cells (bV.mk ln ri (bH.mk e_A e.length e_C) (bH.mk t_A tms.length t_C) (bH.mk fA (ln.ab.n+1) (ln.ab.n+1)) (bH.mk bA (ln.ab.n+1) (ln.ab.n+1))))).ro,(cm W 108 [(vP gw)]),(rd e_A e.length 1 (e.map iC)).ro,(rd t_A tms.length 1 (List.zipWith f_ tms tb)).ro,(dL (br pf tms tb)).ro,(own bA (ln.ab.n+1) 156 1 (List.map oC (hH (A::bb) (ln.ab.n+1)))),(bX (br mE fs fb)),(own fA (ln.ab.n+1) 156 1 (List.map oC (dk fb (ln.ab.n+1))))]) (fun z=>z.1.1.length) ⟨(mb,[((aC.mk 0 0),ri.fJ)],q),C⟩ U (bx U) (aP [0,1,2,3,4,5,6,7,8,9,10,11,12]) ?_
   clear C
   rintro ⟨⟨left,m,V⟩,⟨J,K,L⟩⟩ J80 LA
   try dsimp only at J K L
   try dsimp only
   refine WS fun _ Cx=>wS oZ.inj (f:=iV) 0 U U U U (fun K0=>?_) (fun t v hm J2=>?_)
   ·refine bE 1 U<|RK Cx<|aj fun _ VC=>cg U<|bL<|ai<|ai<|aG<|aL<|KK Cp<|aj fun _ Ok=>WS fun _ Oo=>eN 1 [] (mc 3 U I) U<|RK Oo<|aq<|AL U j5 fun J7=>MK U ER U U<|RK Ok<|aq<|rP 2 [] (mc 0 U I) ?_
    refine MK U ER U U<|aD<|Ig (C':=[(cm J7 3 [(vI ((b:Int)-1))]),(jM d_ ga (cK iV mb)),(bX (iT mE bs bb 0)),(jM d_ A (cK iV m)),(cm gq 3 [(vI (b:Int))]),(bX (V.map lV)),(cm gw 150 (bV.cells (bV.mk ln ri (bH.mk e_A e.length e_C) (bH.mk t_A tms.length t_C) (bH.mk fA (ln.ab.n+1) (ln.ab.n+1)) (bH.mk bA (ln.ab.n+1) (ln.ab.n+1))))).ro,(cm W 108 [(vP gw)]),(rd e_A e.length 1 (e.map iC)).ro,(rd t_A tms.length 1 (List.zipWith f_ tms tb)).ro,(dL (br pf tms tb)).ro,(own bA (ln.ab.n+1) 156 1 (List.map oC (hH (A::bb) (ln.ab.n+1)))),(bX (br mE fs fb)),(own fA (ln.ab.n+1) 156 1 (List.map oC (dk fb (ln.ab.n+1))))]) 1 U J_ U<|H9 2 1 N Z U U U ?_
    try dsimp only
    rw [show (b:Int)-1=(ln.ab.n:Int)-(((j+1):Nat):Int) from by omega]
    refine yL (ms:=bs) (m:=m) (a:=A) 0 2 U U U ?_
    try dsimp only
    refine a7 (Ci ⟨((j+1),(m::bs),(A::bb),J7,V),⟨om,by simp; omega,by simp; omega,by exact h_.more (b:=b) E om om (by show b<e.length; omega) N K L K0⟩⟩ _ _ _ U os (bx U) (aP [0,1,3,4,5,6,7,8,9,10,11]))
   try dsimp only
   refine bE 1 U<|RK Cx<|aj fun _ Op=>aQ U<|WK Op<|aB<|WS fun _ Or=>rS (SX (xO 0 U U U) U U)<|bE 2 U<|AL U tM fun J9=>AL U j5 fun KW=>rL U rN U<|MK U ER U U<|RK Or<|WS fun _ Os=>rP 2 [0,1] (mc 8 U (mc 5 U I)) ?_
   refine cX (uQ gw b) (aM) U fun U8 VF=>?_
   obtain ⟨C2,Di⟩:=U8
   try dsimp only
   refine RK Os<|aB<|jd 11 U (by exact fun _ h=>h)<|jd 13 U (by exact fun _ h=>h)<|jd 15 U (by exact fun _ h=>h)<|jd 12 U (by exact fun _ h=>h) ?_
   refine tq (L0:=[(0,(vP gw)),(1,(vP W)),(2,(vI (ln.ab.n:Int))),(12,(vP gq)),(13,(vP J9)),(14,(vP KW)),(171,(vP Cf))]) (F:=[(rd e_A e.length 1 (e.map iC)).ro,(rd t_A tms.length 1 (List.zipWith f_ tms tb)).ro,(dL (br pf tms tb)).ro,(cm gw 150 (bV.cells (bV.mk ln ri (bH.mk e_A e.length e_C) (bH.mk t_A tms.length t_C) (bH.mk fA (ln.ab.n+1) (ln.ab.n+1)) (bH.mk bA (ln.ab.n+1) (ln.ab.n+1))))).ro,(cm C2 108 [(vP gw)]),(cm Di 3 [(vI (b:Int))])]) (fun k (y:FM)=>(nA (cO ln ri e tms) b mb left y (t,v) k)) (fun k y=>[(cm KW 3 [(vI v)]),(cm J9 158 (aC.cells t)),(zZ d_ Cf ga (cK iV mb) (cK iV (eO left t)) (some (t,(vI v)))),(bX (iT mE bs bb 0)),(jM d_ A (cK iV y)),(cm gq 3 [(vI (b:Int))]),(bX (V.map lV)),(cm gw 150 (bV.cells (bV.mk ln ri (bH.mk e_A e.length e_C) (bH.mk t_A tms.length t_C) (bH.mk fA (ln.ab.n+1) (ln.ab.n+1)) (bH.mk bA (ln.ab.n+1) (ln.ab.n+1))))).ro,(cm W 108 [(vP gw)]),(rd e_A e.length 1 (e.map iC)).ro,(rd t_A tms.length 1 (List.zipWith f_ tms tb)).ro,(dL (br pf tms tb)).ro,(own bA (ln.ab.n+1) 156 1 (List.map oC (hH (A::bb) (ln.ab.n+1)))),(bX (br mE fs fb)),(own fA (ln.ab.n+1) 156 1 (List.map oC (dk fb (ln.ab.n+1))))]) (fun _ (_:Unit)=>False) (fun _ _=>[]) [6,7,8,9,10,11,12,13,14,15,16,17,18,19,20] [3,2,1,0,4,5] m rfl rfl (r9 ln ri e tms e_A e_C tb t_A t_C fA (ln.ab.n+1) (ln.ab.n+1) bA (ln.ab.n+1) (ln.ab.n+1) gw b C2 Di om om) rfl rfl rfl (by exact nA.start K L) (by simp only [List.forall_mem_cons,List.not_mem_nil,false_imp_iff,implies_true,and_true]; exact ⟨⟨_,aR (i:=0) rfl,(dy (bR _))⟩,⟨_,aR (i:=1) rfl,(dy (bR _))⟩,⟨_,aR (i:=2) rfl,(dy (bR _))⟩,⟨_,aR (i:=3) rfl,(dy (bR _))⟩,⟨_,aR (i:=4) rfl,(bR _)⟩,⟨_,aR (i:=5) rfl,(bR _)⟩⟩) (by rintro k x k2 ⟨o,_,rfl,_⟩; rfl) rfl (bx rfl) ?_ ?_ (fun _ _ _ h=>h.elim) (fun _ _ h=>h.elim)
   rotate_left 1
   ·rintro To k O A5 A9
    have D:=A9
    try dsimp only
    refine aL<|aL<|H_ (X:=V.map lV) 13 0 U U ?_
    try dsimp only
    refine qt 9 U Aq U ?_
    refine a7 (LA ⟨((eO left t),O,(To::V)),⟨l7 J,D.on,D.next J2 hm A5⟩⟩ _ _ _ U (mh hm) (bx U) (aP [9,10,11,12,0,4,14,1,2,3,18,19,20]))
   rintro k x k2 O l ra rb S w1 K95 Qr96 Un hx Id PP AB U6 U_
   obtain ⟨o,ho,rfl,rfl⟩:=hx
   have D:=Id
   try dsimp only
   refine WS fun _ Pi=>rP 1 [] I ?_
   refine RK Pi<|aq<|AL U dN fun VI=>fu U cS U<|aD<|ic (fun _ _ h=>h) (aP [1,0,2,3,4,5,6,7,8,9,10,11,12,13,14,15,16])<|a7 (PP _ _ ?_)
   refine aB<|aj fun _ EF=>dH cp [16,18] [] [] [0,1,2,3,4,5,6,7,8,9,10,11,12,13,14,15,16] [] U U U U U<|eS U (Dy 2 U cb U)<|eS U (FA 1 U fE U)<|eS U (L1 (vI o.2.Hi) 1 U cb U U) ?_
   have hp:=E.Tf (b:=b) om N (J _ hm)
   have UU:=G0 hw hp
   have UZ:=uK o.1
   have Uk:=hw.opt ho
   dsimp only at UU
   refine eS U (MN U)<|eS U (Dy 10 U cb U)<|eS U (SX (cM U U) U U)<|eS U (FA 10 U fE U)<|eS U (Io (vS e_A e.length e_C) 9 U cb U U)<|eS U (Dy 7 U cb U) ?_
   obtain ⟨y,hy⟩:=aJ e b om
   have J3:=bK iC hy
   refine eS U (IA b U (aA 11 U) dp dc om om)<|eS U (hG b 0 (vI y) U cb (aA 11 U) J3 U dc U) ?_
   have UW:=hw.least y (aR hy)
   refine eS U (BI U (wg ⟨om,om⟩))<|eS U (LW 3 U cb U U)<|eS U (MV U)<|eS U (CL (Ih o.1) (aM) U)<|eS U (CL (vX t (e7 o.1) om om) (aM) U)<|eS U (AG U)<|ep U<|cj U fun T101 GT=>AL U tM fun VA=>aD (GT _ _ (aP [1,2,3,4,5,6,7,8,9,10,11,12,13,14,15,16,17]) ?_)
   refine cj U fun T103 Gl=>fu U rN U<|aD (Gl _ _ (aP [1,2,3,4,5,6,7,8,9,10,11,12,13,14,15,16,17]) ?_)
   refine fH U<|KK EF<|aj fun _ EQ=>dg cp 14 kr<|lu 1 [] (mc 11 U I) U<|dS (SX (cM U U) U U)<|dP 3 [0,1] (mr 10 U (mc 8 U I)) ?_
   have If:(List.map oC (hH (A::bb) (ln.ab.n+1)))[b]? =some (oC (some A)):=pZ (sY (i:=0) rfl (by simp; omega))
   refine dS (IA b U (aN (n:=(ln.ab.n+1)) 15 U sq) oc dc om om) ?_
   refine dS (hG b 0 (Value.map (some A)) U cb (aN (n:=(hH (A::bb) (ln.ab.n+1)).length) 15 U sm) If U dc U)<|lu 1 [] (mc 0 U I) U<|dS (SX (sD (kV:=d_) (x:=(dv t (e7 o.1))) (l:=O) (f:=iV) (z:=0) U U U oV oZ Uu (by exact aA 7 U)) U U)<|kI 5 U<|cE<|RK EQ<|WS fun _ Y=>eN 3 [0,1] (mc 3 U (mc 2 U I)) U<|rS (MN U)<|rP 4 [] (mc 2 U I) ?_
   refine ck (t:=217) U (aT fun T=>?_) (aU fun T=>?_)
   ·refine rP 8 [] I ?_
    refine RK Y<|cg U<|cf<|aL ?_
    exact AB O _ _ (by exact D.skip (Lr T)) (aP [1,3,4,5,6,7,8,9,10,11,12,13,14,15,16,17])
   refine rP 3 [] I ?_
   refine bU (t:=220) U (fun AA=>?_) (fun AA=>?_)
   ·rw [Bool.not_eq_true'] at AA
    refine bE 5 U<|RK Y<|aQ U<|dg cp 9 kr<|lu 1 [] (mc 11 U I) U<|dS (SX (cM U U) U U)<|dP 3 [0,1] (mr 10 U (mc 8 U I)) ?_
    have In:(List.map oC (hH (A::bb) (ln.ab.n+1)))[b]? =some (oC (some A)):=pZ (sY (i:=0) rfl (by simp; omega))
    refine dS (IA b U (aN (n:=(ln.ab.n+1)) 15 U sq) oc dc om om) ?_
    refine dS (hG b 0 (Value.map (some A)) U cb (aN (n:=(hH (A::bb) (ln.ab.n+1)).length) 15 U sm) In U dc U)<|dP 2 [] (mc 0 U I) ?_
    refine cE<|il (kV:=d_) (x:=(dv t (e7 o.1))) (C':=[_,_,_,_,_,_,_,(jM d_ A (cK iV (dz O (dv t (e7 o.1)) ((min v o.2.Hi)-y)))),_,_,_,_,_,_,_,_,_,_]) 7 U U U U oV oZ U (fU _ _ _ _).symm U<|aD<|aL ?_
    exact AB (dz O (dv t (e7 o.1)) ((min v o.2.Hi)-y)) _ _ (by exact D.set (by show b<e.length; omega) hp ho (zx hy T) (.inl (by simpa using AA))) (aP [1,3,4,5,6,7,8,9,10,11,12,13,14,15,16,17])
   rw [Bool.not_eq_false'] at AA
   refine rP 5 [] I ?_
   refine RK Y<|bQ U (aT fun AC=>?_) (aU fun AC=>?_)
   ·refine cf<|aL ?_
    exact AB O _ _ (by exact D.oy (zx hy T) (by simpa using AA) AC) (aP [1,3,4,5,6,7,8,9,10,11,12,13,14,15,16,17])
   refine dg cp 9 kr<|lu 1 [] (mc 11 U I) U<|dS (SX (cM U U) U U)<|dP 3 [0,1] (mr 10 U (mc 8 U I)) ?_
   have Ja:(List.map oC (hH (A::bb) (ln.ab.n+1)))[b]? =some (oC (some A)):=pZ (sY (i:=0) rfl (by simp; omega))
   refine dS (IA b U (aN (n:=(ln.ab.n+1)) 15 U sq) oc dc om om) ?_
   refine dS (hG b 0 (Value.map (some A)) U cb (aN (n:=(hH (A::bb) (ln.ab.n+1)).length) 15 U sm) Ja U dc U)<|dP 2 [] (mc 0 U I) ?_
   refine cE<|il (kV:=d_) (x:=(dv t (e7 o.1))) (C':=[_,_,_,_,_,_,_,(jM d_ A (cK iV (dz O (dv t (e7 o.1)) ((min v o.2.Hi)-y)))),_,_,_,_,_,_,_,_,_,_]) 7 U U U U oV oZ U (fU _ _ _ _).symm U<|aD<|aL ?_
   exact AB (dz O (dv t (e7 o.1)) ((min v o.2.Hi)-y)) _ _ (by exact D.set (by show b<e.length; omega) hp ho (zx hy T) (.inr AC)) (aP [1,3,4,5,6,7,8,9,10,11,12,13,14,15,16,17])
  refine dH cp [4,11,12,14] [10] [0,1,2] [0,1,2,3,4,6] [0,1,2,3,4,5,6] U U U U U<|eS U (Dy 1 U cb U)<|eS U (SX (cM U U) U U)<|eS U (FA 12 U fE U)<|eS U (Io (vS fA (ln.ab.n+1) (ln.ab.n+1)) 0 U cb U U)<|eS U (SX (a_ (xs:=[]) (cs:=(aC.cells (aC.mk 0 0))) U U (bf AQ U)) U U)<|eS U (Dy 1 U cb U)<|eS U (SX (cM U U) U U)<|eS U (FA 7 U fE U)<|eS U (FA 7 U fE U)<|eS U (Io (vI ri.Start) 0 U cb U U) ?_
  obtain ⟨x6,U0⟩:=aJ (List.replicate (ln.ab.n+1) (none:Option Nat)) 0 om
  have hx7m:(List.map oC (List.replicate (ln.ab.n+1) (none:Option Nat)))[0]? =some (oC x6):=by rw [fz,U0]; rfl
  refine fS U (IA 0 U (aN (n:=(ln.ab.n+1)) 5 U sq) oc dc U om) ?_
  refine ep U<|lX U fun T8 G5=>lj (kV:=d_) U U fun r=>?_
  try dsimp only
  refine aD (G5 _ _ (aP [1,2,3,4,5,7]) (aP [1,2,3,4,5,6,7]) ?_)
  refine lX U fun T10 G=>?_
  have R5:(dz ([]:List (aC×Int)) (aC.mk 0 0) ri.Start)=[((aC.mk 0 0),ri.Start)]:=by rfl
  refine yk (kV:=d_) (x:=(aC.mk 0 0)) (C':=[(jM d_ r (cK iV ([((aC.mk 0 0),ri.Start)]))),_,_,_,_,_,_,_]) 0 U U U U oV oZ U ((fU _ _ _ _).symm.trans (congrArg _ R5)) U<|aD (G _ _ (aP [1,2,3,4,5,7]) (aP [1,2,3,4,5,6,7]) ?_)
  refine lX U fun T12 Pl=>rS (MV U)<|aD (Pl _ _ (aP [1,2,3,4,5,7]) (aP [1,2,3,4,5,6,7]) ?_)
  refine cj U fun T13 Pv=>?_
  have R6:((List.replicate (ln.ab.n+1) (none:Option Nat)).set 0 (some r))=(dk [r] (ln.ab.n+1)):=by rw [uG]; exact q9 rfl sm
  refine iU (k:=0) (o:=0) (vs:=[(Value.map (some r))]) (es':=(List.map oC (dk [r] (ln.ab.n+1)))) (C':=[_,_,_,_,_,_,(own fA (ln.ab.n+1) 156 1 (List.map oC (dk [r] (ln.ab.n+1)))),_]) 6 U U U Ie U U U U hx7m U dc (by exact (List.map_set (f:=oC) (l:=(List.replicate (ln.ab.n+1) (none:Option Nat))) (i:=0) (a:=(some r))).symm.trans (congrArg _ R6)) U<|aD (Pv _ _ (aP [1,2,3,4,5,7]) ?_)
  refine fH U<|DA<|yc (X:=[]) (X':=br mE [[((aC.mk 0 0),ri.Start)]] [r]) 0 1 U U U ?_
  try dsimp only
  refine a7 (ic (bx U) (aP [1,2,3,4,5,7,0,6]) (UT ⟨r,trivial⟩))
 refine l3 cp [0,1,2,3,5,6,8,9,11,12] [4,7,10,13] [false,false,false,false,false,false,false,false,false,false] [] [(cm W 108 [(vP gw)]),(rd e_A e.length 1 (e.map iC)).ro,(rd t_A tms.length 1 (List.zipWith f_ tms tb)).ro,(dL (br pf tms tb)).ro] [] kr (aP [0,2,3,4]) (aP [])<|eS U (Dy 0 U cb U)<|eS U (Dy 0 U cb U)<|eS U (MV U)<|eS U (BI U (n9 ⟨om,om⟩))<|eS U (MV U)<|eS U (BI U (n9 ⟨om,om⟩))<|eS U (SX (cM U U) U U)<|eS U (FA 12 U fE U)<|eS U (SX (cM U U) U U)<|eS U (FA 13 U fE U)<|ep U<|mz [4,7] kr (iy ?_<|iy ?_<|pX)
 rotate_left 1
 ·refine NO U U [4,10,13] fun T5 Go=>?_
  refine u3 (n:=(ln.ab.n+1)) (es:=(List.map oC (List.replicate (ln.ab.n+1) (none:Option Nat)))) U U U B2 om om (by simp only [maxLen]; omega) (by rw [List.map_replicate]; rfl) U fun b6=>?_
  try dsimp only
  refine aD (Go _ _ (aP [1,3,4,5]) ?_)
  refine N1 4<|NO U U [10,13] fun T7 A4=>?_
  refine u3 (n:=(ln.ab.n+1)) (es:=(List.map oC (List.replicate (ln.ab.n+1) (none:Option Nat)))) U U U B2 om om (by simp only [maxLen]; omega) (by rw [List.map_replicate]; rfl) U fun b8=>?_
  try dsimp only
  refine aD (A4 _ _ (aP [2,4,5,6]) ?_)
  refine N1 10<|NO U U [13] fun T9 H1=>Rm (bV.cells (bV.mk ln ri (bH.mk e_A e.length e_C) (bH.mk t_A tms.length t_C) (bH.mk (some ⟨b8,0,none⟩) (ln.ab.n+1) (ln.ab.n+1)) (bH.mk none 0 0))) U yM U U<|aD (H1 _ _ (aP [2,4,5,6]) ?_)
  refine N1 13<|NO U U [] fun T10 G=>Rm (bV.cells (bV.mk ln ri (bH.mk e_A e.length e_C) (bH.mk t_A tms.length t_C) (bH.mk (some ⟨b8,0,none⟩) (ln.ab.n+1) (ln.ab.n+1)) (bH.mk (some ⟨b6,0,none⟩) (ln.ab.n+1) (ln.ab.n+1)))) U yM U U<|aD (G _ _ (aP [2,4,5,6]) ?_)
  refine lx ?_
  refine a7 (ic (bx U) (aP [2,4,5,6,0,1,3]) (FS ⟨((some ⟨b8,0,none⟩),(some ⟨b6,0,none⟩)),trivial⟩))
 refine NO U U [7,10,13] fun T5 Go=>?_
 refine u3 (n:=(ln.ab.n+1)) (es:=(List.map oC (List.replicate (ln.ab.n+1) (none:Option Nat)))) U U U B2 om om (by simp only [maxLen]; omega) (by rw [List.map_replicate]; rfl) U fun b6=>?_
 try dsimp only
 refine aD (Go _ _ (aP [1,3,4,5]) ?_)
 refine mz [7,10] kr (iy ?_<|iy ?_<|pX)
 rotate_left 1
 ·refine NO U U [7,13] fun T7 A4=>UH (bV.cells (bV.mk ln ri (bH.mk e_A e.length e_C) (bH.mk t_A tms.length t_C) (bH.mk (some ⟨b6,0,none⟩) (ln.ab.n+1) (ln.ab.n+1)) (bH.mk none 0 0))) U yM U U<|aD (A4 _ _ (aP [1,3,4,5]) ?_)
  refine N1 7<|NO U U [13] fun T8 G5=>?_
  refine u3 (n:=(ln.ab.n+1)) (es:=(List.map oC (List.replicate (ln.ab.n+1) (none:Option Nat)))) U U U B2 om om (by simp only [maxLen]; omega) (by rw [List.map_replicate]; rfl) U fun r=>?_
  try dsimp only
  refine aD (G5 _ _ (aP [2,4,5,6]) ?_)
  refine N1 13<|NO U U [] fun T10 G=>Rm (bV.cells (bV.mk ln ri (bH.mk e_A e.length e_C) (bH.mk t_A tms.length t_C) (bH.mk (some ⟨b6,0,none⟩) (ln.ab.n+1) (ln.ab.n+1)) (bH.mk (some ⟨r,0,none⟩) (ln.ab.n+1) (ln.ab.n+1)))) U yM U U<|aD (G _ _ (aP [2,4,5,6]) ?_)
  refine lx ?_
  refine a7 (ic (bx U) (aP [2,4,5,6,1,0,3]) (FS ⟨((some ⟨b6,0,none⟩),(some ⟨r,0,none⟩)),trivial⟩))
 refine NO U U [10,13] fun T7 A4=>?_
 refine u3 (n:=(ln.ab.n+1)) (es:=(List.map oC (List.replicate (ln.ab.n+1) (none:Option Nat)))) U U U B2 om om (by simp only [maxLen]; omega) (by rw [List.map_replicate]; rfl) U fun b8=>?_
 try dsimp only
 refine aD (A4 _ _ (aP [2,4,5,6]) ?_)
 refine N1 10<|NO U U [13] fun T9 H1=>Rm (bV.cells (bV.mk ln ri (bH.mk e_A e.length e_C) (bH.mk t_A tms.length t_C) (bH.mk (some ⟨b6,0,none⟩) (ln.ab.n+1) (ln.ab.n+1)) (bH.mk none 0 0))) U yM U U<|aD (H1 _ _ (aP [2,4,5,6]) ?_)
 refine N1 13<|NO U U [] fun T10 G=>Rm (bV.cells (bV.mk ln ri (bH.mk e_A e.length e_C) (bH.mk t_A tms.length t_C) (bH.mk (some ⟨b6,0,none⟩) (ln.ab.n+1) (ln.ab.n+1)) (bH.mk (some ⟨b8,0,none⟩) (ln.ab.n+1) (ln.ab.n+1)))) U yM U U<|aD (G _ _ (aP [2,4,5,6]) ?_)
 refine lx ?_
 refine a7 (ic (bx U) (aP [2,4,5,6,1,0,3]) (FS ⟨((some ⟨b6,0,none⟩),(some ⟨b8,0,none⟩)),trivial⟩))
end
section
open Go.RowKit
theorem C9 (l:bg) (kA:OA) (kC:Nat) (az:List RA) (cA:OA) (cC:Nat) (bA:OA) (bC g1:Nat) (bm:Int) (g2:Nat) (hin:eo l az):
 dx Tryz.prog 43 [(vP g1),(vP g2)] [(rd kA l.aV.length 9 (l.aV.map ao.cells)),(rd cA l.ar.length 2 (List.zipWith ay.cells l.ar az)),(dL (br ay.gn l.ar az)),(rd bA l.ab.length 4 (l.ab.map bI.cells)),(cm g1 28 (cV.cells (jN l kA kC cA cC bA bC))),(cm g2 3 [(vI bm)])] (vI (jn l bm)):=by
 have K:=hin.sH
 have J:=hin.sI
 have H:=hin.ot
 have AA:=hin.sL
 refine bB kr Tryz.func43 U U fun L Q hQ hN=>?_
 try dsimp only
 refine WS fun _ B=>bE 1 U<|RK B<|aj fun _ C=>WS fun _ D=>rP 5 [0,1] (mr 4 U (mr 5 U I)) ?_
 refine dZ (xs:=[.tmp 7]) (cs:=[(vI bm)]) U dp j5 U U U U (by simp [Value.cells]) U U fun G=>?_
 refine rS (CL (dx.eq (g_ 0 ((l.ab.length:Int)-1) ([bm]) (some ⟨G,0,none⟩) 1 (by (simp; done))) cv) (aK (bk 0 U U (by simp [bJ]) U)<|aM) U) ?_
 refine rP 1 [] I ?_
 refine RK D<|cu U (bp fun A=>?_) (bo fun A=>?_)
 ·refine WS fun _ E=>rP 1 [] I ?_
  refine RK E<|ak<|Q1 hQ U U U ?_
  exact cI (if_neg om).symm
 refine WK C<|WS fun _ F=>rP 1 [] I ?_
 refine RK F<|ak<|Q1 hQ U U U ?_
 exact cI (if_pos om).symm
theorem K6 (l:bg) (kA:OA) (kC:Nat) (az:List RA) (cA:OA) (cC:Nat) (bA:OA) (bC:Nat) (r:cx) (sgA:OA) (sgC:Nat) (hin:eo l az) (hsl:r.aa.length≤1000000):
 q6 Tryz.prog 42 [(vA (cV.cells (jN l kA kC cA cC bA bC))),(vA (cN.cells (jf r sgA sgC))),(vS none 0 0)] [(rd kA l.aV.length 9 (l.aV.map ao.cells)),(rd cA l.ar.length 2 (List.zipWith ay.cells l.ar az)),(dL (br ay.gn l.ar az)),(rd bA l.ab.length 4 (l.ab.map bI.cells)),(rd sgA r.aa.length 2 (r.aa.map aF.cells))] (fun (x:Bool×Int×Nat×(OA)×Nat×(OA)×Nat×(List Nat)×(List FM)×(List Nat)×(OA)×Nat×(List FM)×(List Nat)×(OA)×Nat)=>bif x.1 then (vT [(Value.pointer (some ⟨x.2.2.1,0,none⟩)),(vI 0)]) else (vT [(Value.pointer none),(vI x.2.1)])) (fun (x:Bool×Int×Nat×(OA)×Nat×(OA)×Nat×(List Nat)×(List FM)×(List Nat)×(OA)×Nat×(List FM)×(List Nat)×(OA)×Nat)=>(x.1=true→(dF l r 0=0∧u0 (bW l r) x.2.2.2.2.2.2.2.2.1∧r_ (bW l r) x.2.2.2.2.2.2.2.2.2.2.2.2.1∧x.2.2.2.2.2.2.2.2.2.1.length=x.2.2.2.2.2.2.2.2.1.length∧x.2.2.2.2.2.2.2.2.2.2.2.2.2.1.length=x.2.2.2.2.2.2.2.2.2.2.2.2.1.length∧x.2.2.2.2.2.2.2.1.length=(cG l r.aa r.aa.length).length))∧(x.1=false→(x.2.1=dF l r 0∧ ¬ dF l r 0=0))) (fun (x:Bool×Int×Nat×(OA)×Nat×(OA)×Nat×(List Nat)×(List FM)×(List Nat)×(OA)×Nat×(List FM)×(List Nat)×(OA)×Nat)=>bif x.1 then [(cm x.2.2.1 150 (bV.cells (bV.mk (jN l kA kC cA cC bA bC) (jf r sgA sgC) (bH.mk x.2.2.2.1 ((b_ l l.ab.length).length) x.2.2.2.2.1) (bH.mk x.2.2.2.2.2.1 ((cG l r.aa r.aa.length).length) x.2.2.2.2.2.2.1) (bH.mk x.2.2.2.2.2.2.2.2.2.2.1 x.2.2.2.2.2.2.2.2.1.length x.2.2.2.2.2.2.2.2.2.2.2.1) (bH.mk x.2.2.2.2.2.2.2.2.2.2.2.2.2.2.1 x.2.2.2.2.2.2.2.2.2.2.2.2.1.length x.2.2.2.2.2.2.2.2.2.2.2.2.2.2.2)))),(own x.2.2.2.1 x.2.2.2.2.1 3 1 ((b_ l l.ab.length).map iC)),(own x.2.2.2.2.2.1 x.2.2.2.2.2.2.1 153 1 (List.zipWith f_ (cG l r.aa r.aa.length) x.2.2.2.2.2.2.2.1)),(bX (br pf (cG l r.aa r.aa.length) x.2.2.2.2.2.2.2.1)),(own x.2.2.2.2.2.2.2.2.2.2.1 x.2.2.2.2.2.2.2.2.2.2.2.1 156 1 (List.zipWith f_ x.2.2.2.2.2.2.2.2.1 x.2.2.2.2.2.2.2.2.2.1)),(bX (br mE x.2.2.2.2.2.2.2.2.1 x.2.2.2.2.2.2.2.2.2.1)),(own x.2.2.2.2.2.2.2.2.2.2.2.2.2.2.1 x.2.2.2.2.2.2.2.2.2.2.2.2.2.2.2 156 1 (List.zipWith f_ x.2.2.2.2.2.2.2.2.2.2.2.2.1 x.2.2.2.2.2.2.2.2.2.2.2.2.2.1)),(bX (br mE x.2.2.2.2.2.2.2.2.2.2.2.2.1 x.2.2.2.2.2.2.2.2.2.2.2.2.2.1))] else []):=by
 have ST:=hin.sH
 have R8:=hin.sI
 have R6:=hin.ot
 have R7:=hin.sL
 have R9:=hin.side
 refine fR kr Tryz.func42 U U fun w0 Q hQ hN=>?_
 try dsimp only
 refine WS fun _ NN=>er U fun b2=>er U fun b3=>bE 2 U<|RK NN<|aj fun _ NZ=>WS fun _ Ne=>eN 1 [] (mc 1 U I) U<|rS (CL (wU l kA kC az cA cC bA bC hin) (bq [2,3,4,5]) U)<|bE 1 U<|RK Ne<|WS fun _ Nn=>rP 2 [] I ?_
 refine RK Nn<|cu U (bp fun B=>?_) (bo fun B=>?_)
 ·refine WS fun _ N_=>rP 3 [] I ?_
  refine RK N_<|ak ?_
  refine LX hQ (false,(dw l),0,none,0,none,0,[],[],[],none,0,[],[],none,0) [] [] I U (by first|rfl|(show List.all _ _=true; simp only [cond_true,fy,List.all_nil,oY,qU,Bool.and_true]; rfl)) U U ?_
  refine ⟨xU,fun _=>?_⟩; first|exact Ej (fX (r:=r) (me:=0) B) B|exact nD (cY (me:=0) A (fun q:dR l r=>by have p:=q.time; have s:=q.len; omega))|exact nD (cY (me:=0) A (j3 hx (by unfold g5 ij; omega)))|exact nD (gQ (me:=0) A H (by first|rfl|exact h156) (show gX (bW l r)=[] from hE (Int.natCast_eq_zero.1 C)))
 refine WK NZ<|aj fun _ OR=>WS fun _ w=>?_
 have A:dw l=0:=B
 obtain ⟨K8,e⟩:=dK A
 have Ok:=e.head
 unfold eL at Ok
 refine rP 2 [] (mc 0 U I) ?_
 refine dZ (xs:=[.tmp 24]) (cs:=[(vI r.Start)]) U dp j5 U U U U (by simp [Value.cells]) U U fun La=>?_
 refine rS (CL (dx.eq (g_ 0 86400000 ([r.Start]) (some ⟨La,0,none⟩) 1 sd) cv) (aK (bk 0 U U (by simp [bJ]) U)<|aM) U) ?_
 refine rP 2 [] I ?_
 refine bU (t:=28) U (bp fun L0=>?_) (bo fun L0=>?_)
 ·refine bE 14 U<|RK w<|aQ U<|WS fun _ A7=>rP 2 [] I ?_
  refine RK A7<|ak ?_
  refine LX hQ (false,51,0,none,0,none,0,[],[],[],none,0,[],[],none,0) [] [] I U (by first|rfl|(show List.all _ _=true; simp only [cond_true,fy,List.all_nil,oY,qU,Bool.and_true]; rfl)) U U ?_
  refine ⟨xU,fun _=>?_⟩; first|exact Ej (fX (r:=r) (me:=0) B) B|exact nD (cY (me:=0) A (fun q:dR l r=>by have p:=q.time; have s:=q.len; omega))|exact nD (cY (me:=0) A (j3 hx (by unfold g5 ij; omega)))|exact nD (gQ (me:=0) A H (by first|rfl|exact h156) (show gX (bW l r)=[] from hE (Int.natCast_eq_zero.1 C)))
 refine rP 4 [] (mc 1 U I) ?_
 refine dZ (xs:=[.tmp 32]) (cs:=[(vI r.fJ)]) U dp j5 U U U U (by simp [Value.cells]) U U fun Li=>?_
 refine rS (CL (dx.eq (g_ r.Start 86400000 ([r.fJ]) (some ⟨Li,0,none⟩) 1 sd) cv) (aK (bk 0 U U (by simp [bJ]) U)<|aM) U) ?_
 refine rP 3 [] I ?_
 refine bU (t:=37) U (bp fun L3=>?_) (bo fun L3=>?_)
 ·refine bE 5 U<|RK w<|aQ U<|WS fun _ A8=>rP 2 [] I ?_
  refine RK A8<|ak ?_
  refine LX hQ (false,51,0,none,0,none,0,[],[],[],none,0,[],[],none,0) [] [] I U (by first|rfl|(show List.all _ _=true; simp only [cond_true,fy,List.all_nil,oY,qU,Bool.and_true]; rfl)) U U ?_
  refine ⟨xU,fun _=>?_⟩; first|exact Ej (fX (r:=r) (me:=0) B) B|exact nD (cY (me:=0) A (fun q:dR l r=>by have p:=q.time; have s:=q.len; omega))|exact nD (cY (me:=0) A (j3 hx (by unfold g5 ij; omega)))|exact nD (gQ (me:=0) A H (by first|rfl|exact h156) (show gX (bW l r)=[] from hE (Int.natCast_eq_zero.1 C)))
 refine rP 5 [] (mc 2 U I) ?_
 refine RK w<|cu U (aU fun Ma=>?_) (aT fun Ma=>?_)
 ·refine WS fun _ A9=>rP 2 [] I ?_
  refine RK A9<|ak ?_
  refine LX hQ (false,51,0,none,0,none,0,[],[],[],none,0,[],[],none,0) [] [] I U (by first|rfl|(show List.all _ _=true; simp only [cond_true,fy,List.all_nil,oY,qU,Bool.and_true]; rfl)) U U ?_
  refine ⟨xU,fun _=>?_⟩; first|exact Ej (fX (r:=r) (me:=0) B) B|exact nD (cY (me:=0) A (fun q:dR l r=>by have p:=q.time; have s:=q.len; omega))|exact nD (cY (me:=0) A (j3 hx (by unfold g5 ij; omega)))|exact nD (gQ (me:=0) A H (by first|rfl|exact h156) (show gX (bW l r)=[] from hE (Int.natCast_eq_zero.1 C)))
 refine WK OR<|WS fun _ BV=>rS (SX (a_ (xs:=[(0,.const (vI (-1)))]) (cs:=(aF.cells (aF.mk (-1) 0))) U U (bf Hy U)) U U)<|AL U FW fun Y=>fu U uT U<|RK BV<|aj fun _ B3=>dH cp [5,6,7,8] [] [] [0,1,2,3,4,5,6,7,8,9] [] U U U U U<|eS U (LW 4 U cb U U)<|eS U (LW 3 U cb U U)<|eS U (FA 3 U fE U)<|eS U (L1 (vS bA l.ab.length bC) 4 U cb U U)<|eS U (LN U OJ)<|ep U<|cj U fun T18 IO=>?_
 refine u3 (n:=l.ab.length) (es:=(List.map oC (List.replicate l.ab.length (none:Option Nat)))) U U U Ni om om (by simp only [maxLen]; omega) (by rw [List.map_replicate]; rfl) U fun E=>?_
 try dsimp only
 refine aD (IO _ _ (aP [1,2,3,4,5,6,7,8,9,10]) ?_)
 refine cj U fun T20 IR=>rS (SX (a_ (xs:=[(0,.tmp 44),(1,.tmp 45),(3,.tmp 49)]) (cs:=(bV.cells (bV.mk (jN l kA kC cA cC bA bC) (jf r sgA sgC) (bH.mk none 0 0) (bH.mk (some ⟨E,0,none⟩) l.ab.length l.ab.length) (bH.mk none 0 0) (bH.mk none 0 0)))) U U (bf Ng U)) U U)<|aD (IR _ _ (aP [1,2,3,4,5,6,7,8,9,10]) ?_)
 refine cj U fun T21 Id=>er U fun M=>aD (Id _ _ (aP [2,3,4,5,6,7,8,9,10,11]) ?_)
 refine cj U fun T23 If=>rS (AG U)<|aD (If _ _ (aP [2,3,4,5,6,7,8,9,10,11]) ?_)
 refine fH U<|KK B3<|aj fun _ B9=>WS fun _ CF=>rP 4 [] (mc 6 U I) ?_
 refine RK CF<|aB ?_
 rw [uG]
 refine ew 3 1<|qE ?_
 have G:(0≤l.ab.length)∧(([]:List Nat).length=0):=by exact ⟨Nat.zero_le _,rfl⟩
 refine bT (ι:={z:Nat×(OA)×Nat×(List Nat) // (z.1≤l.ab.length)∧(z.2.2.2.length=z.1)}) [2,3,4,6,7,9,10,54] [4,7,8,9,10,11,12,13] U U (fun z=>[(55,(vI (z.1.1:Int)))]) (fun z=>[(bX (br pf (List.replicate z.1.1 ([]:TM)) z.1.2.2.2)),(own z.1.2.1 z.1.2.2.1 3 1 ((b_ l z.1.1).map iC)),(cm M 150 (bV.cells (bV.mk (jN l kA kC cA cC bA bC) (jf r sgA sgC) (bH.mk z.1.2.1 ((b_ l z.1.1).length) z.1.2.2.1) (bH.mk (some ⟨E,0,none⟩) l.ab.length l.ab.length) (bH.mk none 0 0) (bH.mk none 0 0)))),(own (some ⟨E,0,none⟩) l.ab.length 153 1 (List.map oC (dk z.1.2.2.2 l.ab.length)))]) (fun _=>rfl) (fun _=>rfl) (fun z=>l.ab.length-z.1.1) ⟨(0,none,0,([]:List Nat)),G⟩ (bx U) (aP [4,7,8,9,10,11,12,13,0,1,2,3]) ?_
 clear G
 rintro ⟨⟨b,a,c,fb⟩,⟨y,Z⟩⟩ J26 A6
 try dsimp only at y Z
 try dsimp only
 have Oo:(dk fb l.ab.length).length=l.ab.length:=mV om
 refine WS fun _ Cf=>rP 1 [] I ?_
 refine RK Cf<|aj fun _ Ci=>cu U (aU fun L2=>?_) (aT fun L2=>?_)
 ·refine WK Ci<|aj fun _ Ck=>aB<|WS fun _ Cp=>rP 2 [] I ?_
  refine RK Cp<|aj fun _ Cx=>dH cp [12,13,16] [4] [0] [0,1,2,3,4,5,6,7,8,11] [0,1,2,3,4,5,6,7,8,9,10,11] U U U U U<|eS U (MV U)<|eS U (MV U)<|eS U (SX (cM U U) U U)<|eS U (FA 10 U fE U)<|fS U (L1 (vS a ((b_ l b).length) c) 10 U cb U U)<|eS U (LW 2 U cb U U)<|eS U (MV U) ?_
  refine eS U (CL (IZ l kA kC az cA cC bA bC (b:Int) hin sd (by exact e.sZ) sd) (bq [3,4,5,6]) U) ?_
  have Sw:=Aj K8 e.sZ b
  have Sz:=e.Pv b om
  simp only [Int.toNat_natCast]
  refine eS U (BI U (tn ⟨om,om⟩))<|eS U (FA 1 U fE U)<|eS U (L1 (vI l.ku) 2 U cb U U) ?_
  refine eS U (CL (Hp (1000*(kY l (b:Int).toNat)) l.ku sd sd) (aM) U) ?_
  refine eS U (SX (cM U U) U U)<|eS U (FA 10 U fE U)<|ep U<|lX U fun T33 In=>dZ (xs:=[.tmp 69]) (cs:=[(vI (oE (1000*(kY l (b:Int).toNat)) l.ku))]) U dp j5 U U U U (by simp [Value.cells]) U U fun R1=>aD (In _ _ (aP [1,2,3,4,5,6,7,8,9,12]) (aP [1,2,3,4,5,6,7,8,9,10,11,12]) ?_)
  refine cj U fun T35 Ja=>?_
  refine fg (es2:=(List.map iC (b_ l (b+1)))) (m':=(b_ l (b+1)).length) 10 U U U ub U U (by simp [cP]) (bk (es:=List.map iC [(oE (1000*(kY l (b:Int).toNat)) l.ku)]) 0 U U (by simp [bJ]) U) (lT _) (by have:=cP (l:=l) (n:=b); first|omega|(simp; omega)) (by simp only [maxLen,cP]; omega) (by rw [qx]; simp [dV]) (by simp [cP]) U fun A0 A1=>?_
  try dsimp only
  refine aD (Ja _ _ (aP [1,2,3,4,5,6,7,8,9,12]) ?_)
  refine cj U fun T38 Jc=>TC (bV.cells (bV.mk (jN l kA kC cA cC bA bC) (jf r sgA sgC) (bH.mk A0 ((b_ l (b+1)).length) A1) (bH.mk (some ⟨E,0,none⟩) l.ab.length l.ab.length) (bH.mk none 0 0) (bH.mk none 0 0))) U KV U U<|aD (Jc _ _ (aP [1,2,3,4,5,6,7,8,9,12]) ?_)
  refine fH U<|KK Cx<|aq<|bE 1 U<|rS (SX (cM U U) U U)<|rP 3 [] (mc 11 U I) ?_
  refine lj (kV:=iV) U U fun K=>?_
  try dsimp only
  obtain ⟨Os,LE⟩:=aJ (dk fb l.ab.length) b om
  have hx41m:(List.map oC (dk fb l.ab.length))[b]? =some (oC Os):=by rw [fz,LE]; rfl
  refine rS (IA b U (aN (n:=l.ab.length) 13 U sq) wJ dc om om) ?_
  have Jt:((dk fb l.ab.length).set b (some K))=(dk (fb++[K]) l.ab.length):=by exact q9 om om
  refine iU (k:=b) (o:=0) (vs:=[(Value.map (some K))]) (es':=(List.map oC (dk (fb++[K]) l.ab.length))) (C':=[_,_,_,_,_,_,_,_,_,_,_,_,_,(own (some ⟨E,0,none⟩) l.ab.length 153 1 (List.map oC (dk (fb++[K]) l.ab.length)))]) 13 U U U Ea U U U U hx41m U dc (by exact (List.map_set (f:=oC) (l:=(dk fb l.ab.length)) (i:=b) (a:=(some K))).symm.trans (congrArg _ Jt)) U<|aD<|aL<|KK Ck<|aq<|rP 2 [] I ?_
  refine aD<|yc (X':=br pf (List.replicate (b+1) ([]:TM)) (fb++[K])) 10 0 U U (Ew Z) ?_
  try dsimp only
  have J2:(vI (((b+1):Nat):Int))=(vI ((b:Int)+1)):=by exact cI om
  refine a7 (A6 ⟨((b+1),A0,A1,(fb++[K])),⟨om,by simp; omega⟩⟩ _ _ _ U os (cw 8<|aX U J2<|df.nil _) (aP [2,3,4,5,6,7,8,9,0,10,11,12]))
 refine bL<|ai<|ai<|aG<|KK B9<|aj fun _ C0=>WS fun _ C1=>rP 4 [] (mc 1 U I) ?_
 refine RK C1<|aB ?_
 rw [show (List.replicate b ([]:TM))=cG l r.aa 0 from by rw [xw,show b=l.ab.length by omega]]
 rw [show b_ l b=b_ l l.ab.length from by rw [show b=l.ab.length by omega]]
 have G:(0≤r.aa.length)∧(ou l r.aa 0):=by exact ⟨Nat.zero_le _,uM⟩
 refine bT (ι:={z:Nat // (z≤r.aa.length)∧(ou l r.aa z)}) [2,3,4,6,7,9,10,83,84] [1,2,3,4,5,6,7,9,10,11] U U (fun z=>[(85,(vI (z.1:Int)))]) (fun z=>[(cm Y 78 (aF.cells (kv r.aa z.1))),(bX (br pf (cG l r.aa z.1) fb))]) (fun _=>rfl) (fun _=>rfl) (fun z=>r.aa.length-z.1) ⟨0,G⟩ (bx U) (aP [1,2,3,4,5,6,7,9,10,11,0,8]) ?_
 clear G
 rintro ⟨i,⟨LT,D⟩⟩ J46 V
 try dsimp only
 have Op:(cG l r.aa i).length=l.ab.length:=gr
 have Oo:(dk fb l.ab.length).length=l.ab.length:=mV om
 refine WS fun _ C2=>rP 1 [] I ?_
 refine RK C2<|aj fun _ C3=>bQ U (aT fun M2=>?_) (aU fun M2=>?_)
 ·refine bL<|ai<|ai<|aG<|KK C0<|aj fun _ GT=>aj fun _ Gl=>?_
  have H:dR l r:=xd om om D om
  refine aq<|rP 3 [] I ?_
  refine RK Gl<|aB<|qo 1<|kz fun R81 Qr=>WS fun _ Go=>rS (SX (fV (r:= .bool false) U U U p7) U U)<|RK Go<|aj fun _ Pl=>cg U<|bL<|ai<|ai<|aG<|KK GT<|aj fun _ G5=>?_
  rw [show cG l r.aa i=cG l r.aa r.aa.length from by rw [show i=r.aa.length by omega]]
  have AO:(cG l r.aa r.aa.length).length=l.ab.length:=gr
  rw [show (List.map oC (dk fb l.ab.length))=(List.zipWith f_ (cG l r.aa r.aa.length) fb) from Qm om AO]
  rw [show (cm M 150 (bV.cells (bV.mk (jN l kA kC cA cC bA bC) (jf r sgA sgC) (bH.mk a ((b_ l l.ab.length).length) c) (bH.mk (some ⟨E,0,none⟩) l.ab.length l.ab.length) (bH.mk none 0 0) (bH.mk none 0 0))))=(cm M 150 (bV.cells (bV.mk (jN l kA kC cA cC bA bC) (jf r sgA sgC) (bH.mk a ((b_ l l.ab.length).length) c) (bH.mk (some ⟨E,0,none⟩) ((cG l r.aa r.aa.length).length) l.ab.length) (bH.mk none 0 0) (bH.mk none 0 0)))) from by rw [AO]]
  have LA:=lg K8 e H
  have Qx:(b_ l l.ab.length).length=l.ab.length:=cP
  refine aq<|rP 1 [] I ?_
  refine nT 8 U U U U (Af (jN l kA kC cA cC bA bC) (jf r sgA sgC) (b_ l l.ab.length) (cG l r.aa r.aa.length) a c fb (some ⟨E,0,none⟩) l.ab.length M (by exact LA) (by exact cP.symm) (by rw [AO]; omega)) U (dW 7 U U (jg sm) (dW 9 U U (jg (by rw [List.length_zipWith]; omega)) (dW 11 U U qQ qT))) U (fun PP Ob=>?_)
  obtain ⟨J,AA,S,T,AB,R,O,P⟩:=PP
  refine Em (X:=[(cm M 150 (bV.cells (bV.mk (jN l kA kC cA cC bA bC) (jf r sgA sgC) (bH.mk a ((b_ l l.ab.length).length) c) (bH.mk (some ⟨E,0,none⟩) ((cG l r.aa r.aa.length).length) l.ab.length) (bH.mk S J.length T) (bH.mk O AB.length P)))),(own S T 156 1 (List.zipWith f_ J AA)),(bX (br mE J AA)),(own O P 156 1 (List.zipWith f_ AB R)),(bX (br mE AB R))]) 8 U U ?_
  try dsimp only
  obtain ⟨AC,K0,K4,K5⟩:=Ob
  dsimp only at AC K0 K4 K5
  refine RK G5<|aj fun _ Hi=>WS fun _ H1=>rP 1 [] I ?_
  refine cX (uD (jN l kA kC cA cC bA bC) (jf r sgA sgC) (b_ l l.ab.length) (cG l r.aa r.aa.length) a c fb (some ⟨E,0,none⟩) l.ab.length J AB AA S T R O P M (by exact LA) sd (by exact cP.symm) (by exact AC) sd) (aK (aN (n:=(b_ l l.ab.length).length) 12 U sm)<|aK (aN (n:=(cG l r.aa r.aa.length).length) 13 U (by rw [List.length_zipWith]; omega))<|aK (fM 15 U k8)<|aK (aN (n:=J.length) 1 U (by rw [List.length_zipWith]; omega))<|aK (fM 2 U k8)<|aK (aN (n:=AB.length) 3 U (by rw [List.length_zipWith]; omega))<|aK (fM 4 U k8)<|gT 0 U U<|aM) U fun Pi Rl=>?_
  obtain ⟨R0,R5⟩:=Pi
  try dsimp only
  refine rP 2 [] I ?_
  refine RK H1<|bQ U (aT fun C=>?_) (aU fun C=>?_)
  ·refine WK Hi<|WS fun _ v=>rP 3 [] I ?_
   refine RK v<|ak ?_
   refine LX hQ (true,0,M,a,c,(some ⟨E,0,none⟩),l.ab.length,fb,J,AA,S,T,AB,R,O,P) [1,13,14,16,2,3,4,5] [] I U (by first|rfl|(show List.all _ _=true; simp only [cond_true,fy,List.all_nil,oY,qU,Bool.and_true]; rfl)) U U ?_
   exact ⟨fun _=>⟨kP A H (by first|rfl|exact h156) (fun q=>C (congrArg (fun z:List Int=>(z.length:Int)) q)),AC,K0,K4,K5,dso⟩,PJ⟩
  refine WS fun _ u=>rP 2 [] I ?_
  refine RK u<|ak ?_
  refine LX hQ (false,8,0,none,0,none,0,[],[],[],none,0,[],[],none,0) [] [] I U (by first|rfl|(show List.all _ _=true; simp only [cond_true,fy,List.all_nil,oY,qU,Bool.and_true]; rfl)) U U ?_
  refine ⟨xU,fun _=>?_⟩; first|exact Ej (fX (r:=r) (me:=0) B) B|exact nD (cY (me:=0) A (fun q:dR l r=>by have p:=q.time; have s:=q.len; omega))|exact nD (cY (me:=0) A (j3 hx (by unfold g5 ij; omega)))|exact nD (gQ (me:=0) A H (by first|rfl|exact h156) (show gX (bW l r)=[] from hE (Int.natCast_eq_zero.1 C)))
 refine WK C3<|aj fun _ W=>aB<|WS fun _ Di=>rP 1 [] I ?_
 obtain ⟨x,hx⟩:=aJ r.aa i om
 have Or:=bK aF.cells hx
 refine rS (IA i U (aA 6 U) zU dc om om)<|rS (lh i 0 (aF.cells x) U cb (aA 6 U) Or U dc U U)<|AL U FW fun R2=>bE 1 U<|fu U uT U<|RK Di<|aj fun _ g=>WS fun _ L=>rP 6 [0,1] (mc 2 U (mc 0 U I)) ?_
 refine dZ (xs:=[.tmp 95]) (cs:=[(vI x.eZ)]) U dp j5 U U U U (by simp [Value.cells]) U U fun Lk=>?_
 refine rS (CL (dx.eq (g_ 0 ((l.ab.length:Int)-1) ([x.eZ]) (some ⟨Lk,0,none⟩) 1 sd) cv) (aK (bk 0 U U (by simp [bJ]) U)<|aM) U) ?_
 refine rP 2 [] I ?_
 refine bU (t:=99) U (bp fun NE=>?_) (bo fun NE=>?_)
 ·refine bE 27 U<|RK L<|aQ U<|WS fun _ Do=>rP 2 [] I ?_
  refine RK Do<|ak ?_
  refine LX hQ (false,51,0,none,0,none,0,[],[],[],none,0,[],[],none,0) [] [] I U (by first|rfl|(show List.all _ _=true; simp only [cond_true,fy,List.all_nil,oY,qU,Bool.and_true]; rfl)) U U ?_
  refine ⟨xU,fun _=>?_⟩; first|exact Ej (fX (r:=r) (me:=0) B) B|exact nD (cY (me:=0) A (fun q:dR l r=>by have p:=q.time; have s:=q.len; omega))|exact nD (cY (me:=0) A (j3 hx (by unfold g5 ij; omega)))|exact nD (gQ (me:=0) A H (by first|rfl|exact h156) (show gX (bW l r)=[] from hE (Int.natCast_eq_zero.1 C)))
 refine rP 2 [] (mc 1 U I) ?_
 refine dZ (xs:=[.tmp 101]) (cs:=[(vI x.Read)]) U dp j5 U U U U (by simp [Value.cells]) U U fun Lo=>?_
 refine rS (CL (dx.eq (g_ 0 86400000 ([x.Read]) (some ⟨Lo,0,none⟩) 1 sd) cv) (aK (bk 0 U U (by simp [bJ]) U)<|aM) U) ?_
 refine rP 3 [] I ?_
 refine bU (t:=106) U (bp fun A2=>?_) (bo fun A2=>?_)
 ·refine bE 20 U<|RK L<|aQ U<|WS fun _ EF=>rP 2 [] I ?_
  refine RK EF<|ak ?_
  refine LX hQ (false,51,0,none,0,none,0,[],[],[],none,0,[],[],none,0) [] [] I U (by first|rfl|(show List.all _ _=true; simp only [cond_true,fy,List.all_nil,oY,qU,Bool.and_true]; rfl)) U U ?_
  refine ⟨xU,fun _=>?_⟩; first|exact Ej (fX (r:=r) (me:=0) B) B|exact nD (cY (me:=0) A (fun q:dR l r=>by have p:=q.time; have s:=q.len; omega))|exact nD (cY (me:=0) A (j3 hx (by unfold g5 ij; omega)))|exact nD (gQ (me:=0) A H (by first|rfl|exact h156) (show gX (bW l r)=[] from hE (Int.natCast_eq_zero.1 C)))
 refine rP 7 [0,1] (mc 2 U (mc 13 U I)) ?_
 refine bU (t:=113) U (aU fun A3=>?_) (aT fun A3=>?_)
 ·refine bE 13 U<|RK L<|aQ U<|WS fun _ EQ=>rP 2 [] I ?_
  refine RK EQ<|ak ?_
  refine LX hQ (false,51,0,none,0,none,0,[],[],[],none,0,[],[],none,0) [] [] I U (by first|rfl|(show List.all _ _=true; simp only [cond_true,fy,List.all_nil,oY,qU,Bool.and_true]; rfl)) U U ?_
  refine ⟨xU,fun _=>?_⟩; first|exact Ej (fX (r:=r) (me:=0) B) B|exact nD (cY (me:=0) A (fun q:dR l r=>by have p:=q.time; have s:=q.len; omega))|exact nD (cY (me:=0) A (j3 hx (by unfold g5 ij; omega)))|exact nD (gQ (me:=0) A H (by first|rfl|exact h156) (show gX (bW l r)=[] from hE (Int.natCast_eq_zero.1 C)))
 refine rP 6 [0,1] (mc 2 U (mc 13 U I)) ?_
 refine ck (t:=119) U (aT fun A4=>?_) (aU fun A4=>?_)
 ·refine bE 7 U<|RK L<|cg U<|WK g<|aj fun _ j=>WS fun _ Fn=>rP 2 [0,1] (mc 4 U (mc 2 U I)) ?_
  refine rS (CL (z8 l kA kC az cA cC bA bC x hin sd sd) (bq [5,6,7,8]) U) ?_
  refine AL U dN fun R4=>fu U cS U<|RK Fn<|WS fun _ GE=>rP 5 [] (mc 0 U I) ?_
  refine RK GE<|bQ U (aT fun F=>?_) (aU fun F=>?_)
  ·refine WK j<|aq<|rP 1 [] (mc 3 U I) ?_
   refine ib (vs:=(aF.cells x)) (cs':=(aF.cells x)) (C':=[_,_,_,_,_,_,_,_,_,_,_,_,_,_,(cm Y 78 (aF.cells x)),_]) 14 U U U uT U U U U U U U<|aD<|aL<|KK W ?_
   have J9:(aF.cells x)=(aF.cells (kv r.aa (i+1))):=by rw [jP hx]
   rw [J9]
   refine aq<|rP 2 [] I ?_
   refine aD ?_
   rw [show (cG l r.aa i)=(cG l r.aa (i+1)) from (px hx F).symm]
   have KW:(vI (((i+1):Nat):Int))=(vI ((i:Int)+1)):=by exact cI om
   refine a7 (V ⟨(i+1),⟨om,ji D hx (by unfold g5 ij; omega)⟩⟩ _ _ _ U os (cw 9<|aX U KW<|df.nil _) (aP [4,5,6,7,8,9,10,11,12,13,14,15]))
  obtain ⟨mb,d⟩:=aJ (cG l r.aa i) ((x.eZ).toNat) om
  obtain ⟨ga,N⟩:=aJ fb ((x.eZ).toNat) om
  refine yQ 15 d N U U U ?_
  try dsimp only
  refine dg cp 10 kr<|kI 1 U<|dS (SX (cM U U) U U)<|dP 4 [0,1] (mc 14 U (mc 5 U I)) ?_
  have Kn:(List.map oC (dk fb l.ab.length))[(x.eZ).toNat]? =some (oC (some ga)):=pZ (mj N)
  refine dS (IA ((x.eZ).toNat) U (aN (n:=l.ab.length) 15 U sq) wJ dc om om) ?_
  refine dS (hG ((x.eZ).toNat) 0 (Value.map (some ga)) U cb (aN (n:=(dk fb l.ab.length).length) 15 U sm) Kn U dc U)<|lu 2 [] (mc 2 U I) U<|cE<|il (kV:=iV) (x:=(i:Int)) (C':=[(jM iV ga (cK jG (dz mb (i:Int) (cJ l x)))),_,_,_,_,_,_,_,_,_,_,_,_,_,_,_,_]) 0 U U U U rO (gJ rM) U (fU _ _ _ _).symm U<|RK j<|aq<|rP 1 [] (mc 5 U I) ?_
  refine ib (vs:=(aF.cells x)) (cs':=(aF.cells x)) (C':=[_,_,_,_,_,_,_,_,_,_,_,_,_,_,_,_,(cm Y 78 (aF.cells x))]) 16 U U U uT U U U U U U U<|aD<|aL<|KK W ?_
  have J7:(aF.cells x)=(aF.cells (kv r.aa (i+1))):=by rw [jP hx]
  rw [J7]
  refine aq<|rP 2 [] I ?_
  refine aD ?_
  refine zF (f:=pf) (ms:=(cG l r.aa i)) (m:=(dz mb (i:Int) (cJ l x))) 1 0 (by rw [gr]; omega) N U U U ?_
  rw [rq hx om F d]
  have J8:(vI (((i+1):Nat):Int))=(vI ((i:Int)+1)):=by exact cI om
  refine a7 (V ⟨(i+1),⟨om,ji D hx (by unfold g5 ij; omega)⟩⟩ _ _ _ U os (cw 9<|aX U J8<|df.nil _) (aP [5,6,7,8,9,10,11,12,13,14,15,0]))
 refine rP 7 [0,1] (mc 2 U (mc 13 U I)) ?_
 refine RK L<|cu U (aU fun A5=>?_) (aT fun A5=>?_)
 ·refine WS fun _ Eq=>rP 2 [] I ?_
  refine RK Eq<|ak ?_
  refine LX hQ (false,51,0,none,0,none,0,[],[],[],none,0,[],[],none,0) [] [] I U (by first|rfl|(show List.all _ _=true; simp only [cond_true,fy,List.all_nil,oY,qU,Bool.and_true]; rfl)) U U ?_
  refine ⟨xU,fun _=>?_⟩; first|exact Ej (fX (r:=r) (me:=0) B) B|exact nD (cY (me:=0) A (fun q:dR l r=>by have p:=q.time; have s:=q.len; omega))|exact nD (cY (me:=0) A (j3 hx (by unfold g5 ij; omega)))|exact nD (gQ (me:=0) A H (by first|rfl|exact h156) (show gX (bW l r)=[] from hE (Int.natCast_eq_zero.1 C)))
 refine WK g<|aj fun _ h=>WS fun _ FS=>rP 2 [0,1] (mc 4 U (mc 2 U I)) ?_
 refine rS (CL (z8 l kA kC az cA cC bA bC x hin sd sd) (bq [5,6,7,8]) U) ?_
 refine AL U dN fun R3=>fu U cS U<|RK FS<|WS fun _ Fd=>rP 5 [] (mc 0 U I) ?_
 refine RK Fd<|bQ U (aT fun F=>?_) (aU fun F=>?_)
 ·refine WK h<|aq<|rP 1 [] (mc 3 U I) ?_
  refine ib (vs:=(aF.cells x)) (cs':=(aF.cells x)) (C':=[_,_,_,_,_,_,_,_,_,_,_,_,_,_,(cm Y 78 (aF.cells x)),_]) 14 U U U uT U U U U U U U<|aD<|aL<|KK W ?_
  have J5:(aF.cells x)=(aF.cells (kv r.aa (i+1))):=by rw [jP hx]
  rw [J5]
  refine aq<|rP 2 [] I ?_
  refine aD ?_
  rw [show (cG l r.aa i)=(cG l r.aa (i+1)) from (px hx F).symm]
  have J6:(vI (((i+1):Nat):Int))=(vI ((i:Int)+1)):=by exact cI om
  refine a7 (V ⟨(i+1),⟨om,ji D hx (by unfold g5 ij; omega)⟩⟩ _ _ _ U os (cw 9<|aX U J6<|df.nil _) (aP [4,5,6,7,8,9,10,11,12,13,14,15]))
 obtain ⟨mb,d⟩:=aJ (cG l r.aa i) ((x.eZ).toNat) om
 obtain ⟨ga,N⟩:=aJ fb ((x.eZ).toNat) om
 refine yQ 15 d N U U U ?_
 try dsimp only
 refine dg cp 10 kr<|kI 1 U<|dS (SX (cM U U) U U)<|dP 4 [0,1] (mc 14 U (mc 5 U I)) ?_
 have Kf:(List.map oC (dk fb l.ab.length))[(x.eZ).toNat]? =some (oC (some ga)):=pZ (mj N)
 refine dS (IA ((x.eZ).toNat) U (aN (n:=l.ab.length) 15 U sq) wJ dc om om) ?_
 refine dS (hG ((x.eZ).toNat) 0 (Value.map (some ga)) U cb (aN (n:=(dk fb l.ab.length).length) 15 U sm) Kf U dc U)<|lu 2 [] (mc 2 U I) U<|cE<|il (kV:=iV) (x:=(i:Int)) (C':=[(jM iV ga (cK jG (dz mb (i:Int) (cJ l x)))),_,_,_,_,_,_,_,_,_,_,_,_,_,_,_,_]) 0 U U U U rO (gJ rM) U (fU _ _ _ _).symm U<|RK h<|aq<|rP 1 [] (mc 5 U I) ?_
 refine ib (vs:=(aF.cells x)) (cs':=(aF.cells x)) (C':=[_,_,_,_,_,_,_,_,_,_,_,_,_,_,_,_,(cm Y 78 (aF.cells x))]) 16 U U U uT U U U U U U U<|aD<|aL<|KK W ?_
 have J3:(aF.cells x)=(aF.cells (kv r.aa (i+1))):=by rw [jP hx]
 rw [J3]
 refine aq<|rP 2 [] I ?_
 refine aD ?_
 refine zF (f:=pf) (ms:=(cG l r.aa i)) (m:=(dz mb (i:Int) (cJ l x))) 1 0 (by rw [gr]; omega) N U U U ?_
 rw [rq hx om F d]
 have J4:(vI (((i+1):Nat):Int))=(vI ((i:Int)+1)):=by exact cI om
 refine a7 (V ⟨(i+1),⟨om,ji D hx (by unfold g5 ij; omega)⟩⟩ _ _ _ U os (cw 9<|aX U J4<|df.nil _) (aP [5,6,7,8,9,10,11,12,13,14,15,0]))
end
section
open Go.RowKit
theorem Mz (l:bg) (kA:OA) (kC:Nat) (az:List RA) (cA:OA) (cC:Nat) (bA:OA) (bC:Nat) (r:cx) (sgA:OA) (sgC:Nat) (hin:eo l az) (hsl:r.aa.length≤1000000):
 q6 Tryz.prog 23 [(vA (cV.cells (jN l kA kC cA cC bA bC))),(vA (cN.cells (jf r sgA sgC)))] [(rd kA l.aV.length 9 (l.aV.map ao.cells)),(rd cA l.ar.length 2 (List.zipWith ay.cells l.ar az)),(dL (br ay.gn l.ar az)),(rd bA l.ab.length 4 (l.ab.map bI.cells)),(rd sgA r.aa.length 2 (r.aa.map aF.cells))] (fun (x:(OA)×Nat)=>(vT [(vS x.1 ((g4 l r).length) x.2),(vI (dF l r 0))])) (fun (x:(OA)×Nat)=>True) (fun (x:(OA)×Nat)=>[(own x.1 x.2 3 1 ((g4 l r).map iC))]):=by
 have A5:=hin.sH
 have AC:=hin.sI
 have w:=hin.ot
 have y:=hin.sL
 have A4:=hin.side
 refine fR kr Tryz.func23 U U fun w0 Q hQ hN=>?_
 try dsimp only
 refine WS fun _ g=>er U fun b2=>er U fun b3=>bE 2 U<|RK g<|WS fun _ P=>rP 2 [0,1] (mc 1 U (mc 0 U I)) ?_
 refine cX (K6 l kA kC az cA cC bA bC r sgA sgC hin hsl) (bq [2,3,4,5,6]) U fun y5 AA=>?_
 obtain ⟨V,v,e,d,F,Y,Z,a,B,AB,G,H,A,E,W,X⟩:=y5
 cases V
 ·obtain ⟨S,he⟩:=AA.2 rfl
  try dsimp only at S he
  subst S
  try dsimp only [cond_true,cond_false,List.cons_append,List.nil_append]
  refine bE 5 U<|RK P<|aj fun _ q=>WS fun _ K=>rP 2 [] I ?_
  refine RK K<|bQ U (bo fun J=>?_) (bp fun J=>?_)
  ·exact absurd J he
  refine WS fun _ L=>kW 3 1 ?_
  rw [show (own none 0 3 1 ([]:List (List Value)))=own none 0 3 1 ((g4 l r).map iC) from by rw [mW he]; rfl]
  refine bE 1 U<|rP 2 [] I ?_
  refine RK L<|ak ?_
  refine LX hQ (none,0) [0] [] I U U U ?_ ?_
  ·first|rfl|(rw [he]; rfl)|(rw [mW he]; rfl)
  ·trivial
 obtain ⟨he,C,R,i,h,k⟩:=AA.1 rfl
 try dsimp only [cond_true,cond_false,List.cons_append,List.nil_append]
 dsimp only at C R i h k
 obtain ⟨f,D,A0,A1⟩:=iw he
 obtain ⟨m,T⟩:=dK f
 have j:=T.head
 unfold eL at j
 have o:=lg m T D
 have A3:=D.time
 have A2:=D.len
 have s:(b_ l l.ab.length).length=l.ab.length:=cP
 have t:(cG l r.aa r.aa.length).length=l.ab.length:=gr
 have AO:B.length=l.ab.length+1:=by have:=C.len; rw [show (bW l r).n=l.ab.length from cP] at this; exact this
 have z:A.length=l.ab.length+1:=by have:=R.len; rw [show (bW l r).n=l.ab.length from cP] at this; exact this
 refine bE 5 U<|RK P<|aj fun _ M=>WS fun _ N=>bE 1 U<|rS (SX (fV (r:= .bool false) U U U pT) U U)<|RK N<|cg U<|WK M<|WS fun _ O=>rP 1 [] I ?_
 refine cX (uD (jN l kA kC cA cC bA bC) (jf r sgA sgC) (b_ l l.ab.length) (cG l r.aa r.aa.length) d F a Y Z B A AB G H E W X e (by exact o) sd (by exact cP.symm) (by exact C) sd) (aK (aN (n:=(b_ l l.ab.length).length) 1 U sm)<|aK (aN (n:=(cG l r.aa r.aa.length).length) 2 U (by rw [List.length_zipWith]; omega))<|aK (fM 3 U k8)<|aK (aN (n:=B.length) 4 U (by rw [List.length_zipWith]; omega))<|aK (fM 5 U k8)<|aK (aN (n:=A.length) 6 U (by rw [List.length_zipWith]; omega))<|aK (fM 7 U k8)<|gT 0 U U<|aM) U fun p u=>?_
 obtain ⟨b,c⟩:=p
 try dsimp only
 rw [show (gX (cO (jN l kA kC cA cC bA bC) (jf r sgA sgC) (b_ l l.ab.length) (cG l r.aa r.aa.length)))=g4 l r from (j2 he).symm]
 refine rP 2 [] I ?_
 refine RK O<|ak ?_
 refine LX hQ (b,c) [0] [] I U U U ?_ ?_
 ·first|rfl|(rw [he]; rfl)|(rw [mW he]; rfl)
 ·trivial
end
section
open Go.RowKit
theorem F4 (ln:cV) (ri:cN) (e:List Int) (tms:List TM) (e_A:OA) (e_C:Nat) (tb:List Nat) (t_A:OA) (t_C:Nat) (fs:List FM) (bs:List FM) (fb:List Nat) (f_A:OA) (f_C:Nat) (bb:List Nat) (b_A:OA) (b_C gw:Nat) (b g1 g2:Nat) (mf:FM) (mb:FM) (hb:b<e.length) (hw:Ft (cO ln ri e tms)) (htb:tb.length=tms.length) (hfw:u0 (cO ln ri e tms) fs) (hfb:fb.length=fs.length) (hbw:r_ (cO ln ri e tms) bs) (hbb:bb.length=bs.length) (hsg:ri.aa.n≤1000) (hm1:fs[b]? =some mf) (hm2:bs[b+1]? =some mb):
 Lu Tryz.prog 70 [] [(vP g1),(vP g2)] [(rd e_A e.length 1 (e.map iC)),(rd t_A tms.length 1 (List.zipWith f_ tms tb)),(dL (br pf tms tb)),(rd f_A fs.length 1 (List.zipWith f_ fs fb)),(dL (br mE fs fb)),(rd b_A bs.length 1 (List.zipWith f_ bs bb)),(dL (br mE bs bb)),(cm gw 150 (bV.cells (bV.mk ln ri (bH.mk e_A e.length e_C) (bH.mk t_A tms.length t_C) (bH.mk f_A fs.length f_C) (bH.mk b_A bs.length b_C)))),(cm g1 108 [(vP gw)]),(cm g2 3 [(vI (b:Int))])] ([]:List (Int×ag)) (fun ys x ys'=> ∃ q,q∈p9 (cO ln ri e tms) b mf mb∧x=Nm q∧ys'=ys++[q]) (fun ys=> ∀ q∈p9 (cO ln ri e tms) b mf mb,q∈ys):=by
 have K0:e.length≤6:=hw.n
 have K4:tms.length=e.length:=hw.times
 have J7:fs.length=e.length+1:=hfw.len
 have J6:bs.length=e.length+1:=hbw.len
 refine EE kr Tryz.func70 U U fun l J Z A0 w0 Q hY Fd FS hQ hN=>?_
 try dsimp only
 refine WS fun _ Fn=>vR U U fun b2=>RK Fn<|WS fun _ GE=>rP 2 [0,1] (mr 10 U (mr 11 U I)) ?_
 refine cX (uQ gw b) (aM) U fun y4 K5=>?_
 obtain ⟨C3,Di⟩:=y4
 try dsimp only
 refine RK GE<|aB<|jd 4 U (by exact fun _ h=>h)<|jd 6 U (by exact fun _ h=>h)<|jd 8 U (by exact fun _ h=>h)<|jd 14 U (by exact fun _ h=>h) ?_
 refine tq (L0:=[(0,(Value.func (.yield l) #[] #[])),(1,(vP g1)),(2,(vP g2)),(3,(vP b2))]) (F:=[(rd e_A e.length 1 (e.map iC)).ro,(rd t_A tms.length 1 (List.zipWith f_ tms tb)).ro,(dL (br pf tms tb)).ro,(cm gw 150 (bV.cells (bV.mk ln ri (bH.mk e_A e.length e_C) (bH.mk t_A tms.length t_C) (bH.mk f_A fs.length f_C) (bH.mk b_A bs.length b_C)))).ro,(cm C3 108 [(vP gw)]),(cm Di 3 [(vI (b:Int))])]) (fun k (y:(List (Int×ag))×av)=>(ly (cO ln ri e tms) b mf mb k y.1)∧(J y.1 y.2)∧(Fo A0 w0 y.2)) (fun k y=>[(cm b2 155 [(Value.func (.yield l) #[] #[])]),y.2,(rd e_A e.length 1 (e.map iC)).ro,(rd t_A tms.length 1 (List.zipWith f_ tms tb)).ro,(dL (br pf tms tb)).ro,(rd f_A fs.length 1 (List.zipWith f_ fs fb)).ro,(dL (br mE fs fb)).ro,(rd b_A bs.length 1 (List.zipWith f_ bs bb)).ro,(dL (br mE bs bb)).ro,(cm gw 150 (bV.cells (bV.mk ln ri (bH.mk e_A e.length e_C) (bH.mk t_A tms.length t_C) (bH.mk f_A fs.length f_C) (bH.mk b_A bs.length b_C)))).ro,(cm g1 108 [(vP gw)]).ro,(cm g2 3 [(vI (b:Int))]).ro]) (fun c (z:av)=>(c= .ret∧(Z z)∧(Fo A0 w0 z))) (fun _ z=>[(cm b2 155 [(Value.func (.yield l) #[] #[])]),z,(rd e_A e.length 1 (e.map iC)).ro,(rd t_A tms.length 1 (List.zipWith f_ tms tb)).ro,(dL (br pf tms tb)).ro,(rd f_A fs.length 1 (List.zipWith f_ fs fb)).ro,(dL (br mE fs fb)).ro,(rd b_A bs.length 1 (List.zipWith f_ bs bb)).ro,(dL (br mE bs bb)).ro,(cm gw 150 (bV.cells (bV.mk ln ri (bH.mk e_A e.length e_C) (bH.mk t_A tms.length t_C) (bH.mk f_A fs.length f_C) (bH.mk b_A bs.length b_C)))).ro,(cm g1 108 [(vP gw)]).ro,(cm g2 3 [(vI (b:Int))]).ro]) [6,7,8,9,10,11,12,13,14,15,16,17] [3,2,1,0,4,5] (([]:List (Int×ag)),A0) rfl rfl (r9 ln ri e tms e_A e_C tb t_A t_C f_A fs.length f_C b_A bs.length b_C gw b C3 Di om om) rfl rfl rfl (by exact ⟨ly.nil,Fd,FS⟩) (by simp only [List.forall_mem_cons,List.not_mem_nil,false_imp_iff,implies_true,and_true]; exact ⟨⟨_,aR (i:=0) rfl,(dy (bR _))⟩,⟨_,aR (i:=1) rfl,(dy (bR _))⟩,⟨_,aR (i:=2) rfl,(dy (bR _))⟩,⟨_,aR (i:=3) rfl,(dy (bR _))⟩,⟨_,aR (i:=4) rfl,(bR _)⟩,⟨_,aR (i:=5) rfl,(bR _)⟩⟩) (by rintro k x k2 ⟨o,_,rfl,_⟩; rfl) rfl (bx rfl) ?_ ?_ ?_ ?_
 rotate_left 1
 ·rintro LE k ⟨ys,A⟩ Cp A1
  obtain ⟨X,Y,a⟩:=A1
  try dsimp only at X Y a
  try dsimp only
  refine aL ?_
  refine hN _ _ _ (qG 0 U U<|jI (vs:=[]) trivial fun w hs=>Oz 8 U (by exact ly.fin X Cp) Y a hs)
 ·rintro LT id A C1
  simp at C1
 ·rintro La A C2
  obtain ⟨hc,G5,H1⟩:=C2
  try dsimp only
  refine hQ _ _ _ (qG 0 U U<|jI (vs:=[]) trivial fun w hs=>D_ 8 U G5 H1 hs)
 rintro k x k2 ⟨ys,A⟩ lr ra rb S w1 K8 Qr9 IO hx AO GT Cf Jt Do
 obtain ⟨o,ho,rfl,rfl⟩:=hx
 obtain ⟨X,Y,a⟩:=AO
 try dsimp only at X Y a
 try dsimp only
 refine WS fun _ A6=>rP 1 [] I ?_
 refine RK A6<|aq<|AL U dN fun J2=>fu U cS U<|aD<|ic (fun _ _ h=>h) (aP [1,0,2,3,4,5,6,7,8,9,10,11,12,13])<|a7 (GT _ _ ?_)
 refine aB<|aj fun _ A7=>dg cp 7 kr<|lu 1 [] (mr 12 U I) U<|dS (SX (cM U U) U U)<|dP 3 [0,1] (mr 11 U (mr 13 U I)) ?_
 obtain ⟨ga,s⟩:=aJ fb b om
 have Cx:(List.zipWith f_ fs fb)[b]? =some (f_ mf ga):=dC hm1 s
 refine dS (IA b U (aA 7 U) oc dc om om)<|dS (hG b 0 (Value.map (some ga)) U cb (aA 7 U) Cx U dc U)<|cE<|pK (kV:=d_) (m:=cK iV mf) 8 U U oV U ⟨⟨(jM d_ ga (cK iV mf)),(bM hm1 s (by simp [mE])),U⟩,fun h=>h⟩ (show iN _ (jM d_ ga (cK iV mf)).holds from cR 8 U (bM hm1 s (by simp [mE]))) U fun If=>?_
 try dsimp only
 refine RK A7<|aB ?_
 have C:(∀ p∈mf,p∈mf)∧(nx (cO ln ri e tms) b mf mb o mf ys)∧(ly (cO ln ri e tms) b mf mb k ys)∧(J ys A)∧(Fo A0 w0 A):=by exact ⟨fun p hp=>hp,nx.start,X,Y,a⟩
 refine bT (ι:={z:FM×(List (Int×ag))×av // (∀ p∈z.1,p∈mf)∧(nx (cO ln ri e tms) b mf mb o z.1 z.2.1)∧(ly (cO ln ri e tms) b mf mb k z.2.1)∧(J z.2.1 z.2.2)∧(Fo A0 w0 z.2.2)}) [0,1,2,3,4,5,23] [1,2,3,5,6,7,8,9,10,11,12,13,14] U U (fun z=>[]) (fun z=>[(Ch d_ If ga (cK iV mf) (cK iV z.1.1) none),z.1.2.2]) (fun _=>rfl) (fun _=>rfl) (fun z=>z.1.1.length) ⟨(mf,ys,A),C⟩ (df.nil _) (aP [1,2,3,5,6,7,8,9,10,11,12,13,14,0,4]) ?_
 clear C
 rintro ⟨⟨left,ys,A⟩,⟨K,M,N,O,P⟩⟩ J15 A5
 try dsimp only at K M N O P
 try dsimp only
 refine WS fun _ j=>nZ oZ.inj (f:=iV) 13 U U U U (fun EQ=>?_) (fun t v hm hn=>?_)
 ·refine rP 1 [] I ?_
  refine RK j<|aj fun _ Ja=>cg U<|bL<|ai<|ai<|aG<|aL ?_
  exact Cf (ys,A) _ _ (by exact ⟨ly.next N M EQ,O,P⟩) (aP [0,2,14,3,4,5,6,7,8,9,10,11,12])
 try dsimp only
 refine bE 1 U<|RK j<|aj fun _ A8=>aQ U<|WK A8<|aB<|WS fun _ A9=>rS (SX (nU 13 U U U) U U)<|bE 2 U<|AL U tM fun J3=>fu U rN U<|bE 1 U<|RK A9<|aj fun _ BV=>dg cp 8 kr<|lu 1 [] (mr 12 U I) U<|dS (SX (cM U U) U U)<|dP 4 [0,1] (mr 11 U (mr 13 U I)) ?_
 obtain ⟨gb,AC⟩:=aJ bb (b+1) om
 have C0:(List.zipWith f_ bs bb)[(b+1)]? =some (f_ mb gb):=dC hm2 AC
 refine dS (IA (b+1) U (aA 9 U) oc dc om om)<|dS (hG (b+1) 0 (Value.map (some gb)) U cb (aA 9 U) C0 U dc U)<|cE<|pK (kV:=d_) (m:=cK iV mb) 10 U U oV U ⟨⟨(jM d_ gb (cK iV mb)),(bM hm2 AC (by simp [mE])),U⟩,fun h=>h⟩ (show iN _ (jM d_ gb (cK iV mb)).holds from cR 10 U (bM hm2 AC (by simp [mE]))) U fun In=>?_
 try dsimp only
 refine RK BV<|aB ?_
 have C:(∀ p∈mb,p∈mb)∧(nz (cO ln ri e tms) b mb o (t,v) mb ys)∧(nx (cO ln ri e tms) b mf mb o left ys)∧(ly (cO ln ri e tms) b mf mb k ys)∧(J ys A)∧(Fo A0 w0 A):=by exact ⟨fun p hp=>hp,nz.start,M,N,O,P⟩
 refine bT (ι:={z:FM×(List (Int×ag))×av // (∀ p∈z.1,p∈mb)∧(nz (cO ln ri e tms) b mb o (t,v) z.1 z.2.1)∧(nx (cO ln ri e tms) b mf mb o left z.2.1)∧(ly (cO ln ri e tms) b mf mb k z.2.1)∧(J z.2.1 z.2.2)∧(Fo A0 w0 z.2.2)}) [0,1,2,3,4,5,6,7,23,37] [1,2,3,4,5,6,7,8,9,10,11,12,13,14,15] U U (fun z=>[]) (fun z=>[(Ch d_ In gb (cK iV mb) (cK iV z.1.1) none),z.1.2.2]) (fun _=>rfl) (fun _=>rfl) (fun z=>z.1.1.length) ⟨(mb,ys,A),C⟩ (df.nil _) (aP [1,2,3,4,5,6,7,8,9,10,11,12,13,14,15,0,16]) ?_
 clear C
 rintro ⟨⟨l2,T,A2⟩,⟨B,D,E,G,H,AB⟩⟩ J23 V
 try dsimp only at B D E G H AB
 try dsimp only
 refine WS fun _ r=>nZ oZ.inj (f:=iV) 15 U U U U (fun Eq=>?_) (fun u z L A3=>?_)
 ·refine rP 1 [] I ?_
  refine RK r<|aj fun _ Jc=>cg U<|bL<|ai<|ai<|aG<|aL<|qt 14 U oR U ?_
  refine a7 (A5 ⟨((eO left t),T,A2),⟨l7 K,nx.next hn hm E D Eq,G,H,AB⟩⟩ _ _ _ U (mh hm) (bx U) (aP [1,2,3,4,5,6,7,8,9,10,11,12,13,14,16]))
 try dsimp only
 refine bE 1 U<|RK r<|aj fun _ B3=>aQ U<|WK B3<|aB<|WS fun _ B9=>rS (SX (nU 15 U U U) U U)<|bE 2 U<|AL U tM fun J4=>fu U rN U<|rP 1 [] I ?_
 refine RK B9<|aj fun _ CF=>dH cp [17,18] [] [] [0,1,2,3,4,5,6,7,8,9,10,11,12,13,14,15,16,17] [] U U U U U<|eS U (MV U)<|eS U (Uy 13 U cb U)<|eS U (SX (cM U U) U U)<|eS U (FA 10 U fE U)<|eS U (Io (vS e_A e.length e_C) 12 U cb U U)<|eS U (Uy 14 U cb U) ?_
 obtain ⟨y,hy⟩:=aJ e b om
 have IR:=bK iC hy
 refine eS U (IA b U (aA 5 U) dp dc om om)<|eS U (hG b 0 (vI y) U cb (aA 5 U) IR U dc U) ?_
 have J8:=hw.least y (aR hy)
 have Go:=HS hw _ _ (hfw.mem hm1 (K _ hm))
 have Gl:=G0 hw (hbw.mem hm2 (B _ L))
 have J9:=uK o.1
 have KW:=hw.opt ho
 dsimp only at Go Gl
 refine eS U (BI U (n9 ⟨om,om⟩))<|eS U (FA 0 U fE U)<|eS U (L1 (vI o.2.Lo) 3 U cb U U)<|eS U (MX U)<|eS U (MV U)<|eS U (FA 1 U fE U)<|eS U (L1 (vI o.2.Hi) 3 U cb U U)<|eS U (MN U)<|eS U (SX (a_ (xs:=[(0,.tmp 54),(1,.tmp 58)]) (cs:=(ag.cells (ag.mk (max (v+y) o.2.Lo) (min z o.2.Hi)))) U U (bf gM U)) U U)<|ep U<|cj U fun T30 Ci=>AL U dN fun J5=>aD (Ci _ _ (aP [1,2,3,4,5,6,7,8,9,10,11,12,13,14,15,16,17,18]) ?_)
 refine cj U fun T32 Ck=>fu U cS U<|aD (Ck _ _ (aP [1,2,3,4,5,6,7,8,9,10,11,12,13,14,15,16,17,18]) ?_)
 refine fH U<|KK CF<|aj fun _ R=>dg cp 19 kr<|dP 6 [] (mc 0 U I) ?_
 refine js (t:=65) U (aT fun d=>?_) (aU fun d=>?_)
 ·refine kI 3 U<|kI 10 U<|cE<|rP 3 [] I ?_
  refine RK R<|cg U<|cf<|aL<|qt 17 U oR U ?_
  refine a7 (V ⟨((eO l2 u),T,A2),⟨l7 B,nz.skip A3 L D (by exact Gy hy d),E,G,H,AB⟩⟩ _ _ _ U (mh L) (bx U) (aP [2,3,4,5,6,7,8,9,10,11,12,13,14,15,16,17,18]))
 refine dP 3 [0,1,2] (mr 14 U (mc 2 U (mc 1 U I))) ?_
 have Kn:(0≤(dv t u).right∧(dv t u).right≤1000)∧0≤(dv t u).eG∧(dv t u).eG≤1000:=by simp only [dv]; omega
 have Kf:(0≤(dv (dv t u) (e7 o.1)).right∧(dv (dv t u) (e7 o.1)).right≤1000)∧0≤(dv (dv t u) (e7 o.1)).eG∧(dv (dv t u) (e7 o.1)).eG≤1000:=by simp only [dv]; omega
 refine dS (CL (vX t u om om) (aM) U)<|kI 1 U<|dS (CL (Ih o.1) (aM) U)<|dS (CL (vX (dv t u) (e7 o.1) asm om) (aM) U)<|dS (CL (Np ln ri e tms e_A e_C tb t_A t_C fs bs fb f_A f_C bb b_A b_C gw (dv (dv t u) (e7 o.1)) asm hsg) (bq [6,7,8,9,10,11,12,13]) U)<|dP 2 [] I ?_
 refine js (t:=75) U (fun g=>?_) (fun g=>?_)
 ·refine kI 3 U<|cE<|rP 3 [] I ?_
  refine RK R<|cg U<|cf<|aL<|qt 17 U oR U ?_
  refine a7 (V ⟨((eO l2 u),T,A2),⟨l7 B,nz.skip A3 L D (by exact Fp g),E,G,H,AB⟩⟩ _ _ _ U (mh L) (bx U) (aP [2,3,4,5,6,7,8,9,10,11,12,13,14,15,16,17,18]))
 refine dP 3 [0,1] (mc 5 U (mc 0 U I)) ?_
 refine cE<|xP (k:=T) (k':=(T++[(o.1,(ag.mk (max (v+y) o.2.Lo) (min z o.2.Hi)))])) 18 (by first|exact IO|exact Nat.le_refl _) hY H AB U U U (by exact ⟨(o.1,_),ir.2 ⟨o,ho,(t,v),K _ hm,(u,z),B _ L,(BO hy d g)⟩,U,U⟩) U U (fun B34 W AA=>?_) (fun B34 W AA=>?_)
 rotate_left 1
 ·refine rP 2 [] I ?_
  refine RK R<|aQ U<|ak ?_
  exact Do B34 _ _ (by exact ⟨U,W,AA⟩) (aP [3,5,18,6,7,8,9,10,11,12,13,14,15])
 refine rP 2 [] I ?_
 refine RK R<|cg U<|cf<|aL<|qt 17 U oR U ?_
 refine a7 (V ⟨((eO l2 u),(T++[(o.1,(ag.mk (max (v+y) o.2.Lo) (min z o.2.Hi)))]),B34),⟨l7 B,nz.TI A3 L D (BO hy d g),E.app,G.app,W,AA⟩⟩ _ _ _ U (mh L) (bx U) (aP [2,3,4,5,6,7,8,9,10,11,12,13,14,15,16,17,18]))
end
section
open Go.RowKit
theorem Lf (l:bg) (kA:OA) (kC:Nat) (az:List RA) (cA:OA) (cC:Nat) (bA:OA) (bC:Nat) (r:cx) (sgA:OA) (sgC:Nat) (f:Value) (X:av) (me:Int) (gm:Nat) (hf:CX Tryz.prog f [] [X] (.int .i64 me)) (hin:eo l az) (hsl:r.aa.length≤1000000):
 q6 Tryz.prog 42 [(vA (cV.cells (jN l kA kC cA cC bA bC))),(vA (cN.cells (jf r sgA sgC))),(vS (some ⟨gm,0,none⟩) 1 1)] [(rd kA l.aV.length 9 (l.aV.map ao.cells)),(rd cA l.ar.length 2 (List.zipWith ay.cells l.ar az)),(dL (br ay.gn l.ar az)),(rd bA l.ab.length 4 (l.ab.map bI.cells)),(rd sgA r.aa.length 2 (r.aa.map aF.cells)),X,(cm gm 111 [f])] (fun (x:Bool×Int×Nat×(OA)×Nat×(OA)×Nat×(List Nat)×(List FM)×(List Nat)×(OA)×Nat×(List FM)×(List Nat)×(OA)×Nat)=>bif x.1 then (vT [(Value.pointer (some ⟨x.2.2.1,0,none⟩)),(vI 0)]) else (vT [(Value.pointer none),(vI x.2.1)])) (fun (x:Bool×Int×Nat×(OA)×Nat×(OA)×Nat×(List Nat)×(List FM)×(List Nat)×(OA)×Nat×(List FM)×(List Nat)×(OA)×Nat)=>(x.1=true→(dF l r me=0∧u0 (bW l r) x.2.2.2.2.2.2.2.2.1∧r_ (bW l r) x.2.2.2.2.2.2.2.2.2.2.2.2.1∧x.2.2.2.2.2.2.2.2.2.1.length=x.2.2.2.2.2.2.2.2.1.length∧x.2.2.2.2.2.2.2.2.2.2.2.2.2.1.length=x.2.2.2.2.2.2.2.2.2.2.2.2.1.length∧x.2.2.2.2.2.2.2.1.length=(cG l r.aa r.aa.length).length))∧(x.1=false→(x.2.1=dF l r me∧ ¬ dF l r me=0))) (fun (x:Bool×Int×Nat×(OA)×Nat×(OA)×Nat×(List Nat)×(List FM)×(List Nat)×(OA)×Nat×(List FM)×(List Nat)×(OA)×Nat)=>bif x.1 then [(cm x.2.2.1 150 (bV.cells (bV.mk (jN l kA kC cA cC bA bC) (jf r sgA sgC) (bH.mk x.2.2.2.1 ((b_ l l.ab.length).length) x.2.2.2.2.1) (bH.mk x.2.2.2.2.2.1 ((cG l r.aa r.aa.length).length) x.2.2.2.2.2.2.1) (bH.mk x.2.2.2.2.2.2.2.2.2.2.1 x.2.2.2.2.2.2.2.2.1.length x.2.2.2.2.2.2.2.2.2.2.2.1) (bH.mk x.2.2.2.2.2.2.2.2.2.2.2.2.2.2.1 x.2.2.2.2.2.2.2.2.2.2.2.2.1.length x.2.2.2.2.2.2.2.2.2.2.2.2.2.2.2)))),(own x.2.2.2.1 x.2.2.2.2.1 3 1 ((b_ l l.ab.length).map iC)),(own x.2.2.2.2.2.1 x.2.2.2.2.2.2.1 153 1 (List.zipWith f_ (cG l r.aa r.aa.length) x.2.2.2.2.2.2.2.1)),(bX (br pf (cG l r.aa r.aa.length) x.2.2.2.2.2.2.2.1)),(own x.2.2.2.2.2.2.2.2.2.2.1 x.2.2.2.2.2.2.2.2.2.2.2.1 156 1 (List.zipWith f_ x.2.2.2.2.2.2.2.2.1 x.2.2.2.2.2.2.2.2.2.1)),(bX (br mE x.2.2.2.2.2.2.2.2.1 x.2.2.2.2.2.2.2.2.2.1)),(own x.2.2.2.2.2.2.2.2.2.2.2.2.2.2.1 x.2.2.2.2.2.2.2.2.2.2.2.2.2.2.2 156 1 (List.zipWith f_ x.2.2.2.2.2.2.2.2.2.2.2.2.1 x.2.2.2.2.2.2.2.2.2.2.2.2.2.1)),(bX (br mE x.2.2.2.2.2.2.2.2.2.2.2.2.1 x.2.2.2.2.2.2.2.2.2.2.2.2.2.1))] else []):=by
 have Tf:=hin.sH
 have Td:=hin.sI
 have TI:=hin.ot
 have TU:=hin.sL
 have Te:=hin.side
 refine fR kr Tryz.func42 U U fun w0 Q hQ hN=>?_
 try dsimp only
 refine WS fun _ Op=>er U fun b2=>er U fun b3=>bE 2 U<|RK Op<|aj fun _ Or=>WS fun _ Os=>eN 1 [] (mc 1 U I) U<|rS (CL (wU l kA kC az cA cC bA bC hin) (bq [2,3,4,5]) U)<|bE 1 U<|RK Os<|WS fun _ PP=>rP 2 [] I ?_
 refine RK PP<|cu U (bp fun h=>?_) (bo fun h=>?_)
 ·refine WS fun _ Pi=>rP 3 [] I ?_
  refine RK Pi<|ak<|LX hQ (false,(dw l),0,none,0,none,0,[],[],[],none,0,[],[],none,0) [] [] I U (by rfl) U U ?_
  exact vy<|Ej (fX (r:=r) (me:=me) h) h
 refine WK Or<|aj fun _ Pl=>WS fun _ AO=>?_
 have C:dw l=0:=h
 obtain ⟨Lo,d⟩:=dK C
 have Qx:=d.head
 unfold eL at Qx
 refine rP 2 [] (mc 0 U I) ?_
 refine dZ (xs:=[.tmp 24]) (cs:=[(vI r.Start)]) U dp j5 U U U U (by simp [Value.cells]) U U fun NE=>?_
 refine rS (CL (dx.eq (g_ 0 86400000 ([r.Start]) (some ⟨NE,0,none⟩) 1 (by (simp; done))) cv) (aK (bk 0 U U (by simp [bJ]) U)<|aM) U) ?_
 refine rP 2 [] I ?_
 refine bU (t:=28) U (bp fun Nn=>?_) (bo fun Nn=>?_)
 ·refine bE 14 U<|RK AO<|aQ U<|WS fun _ A8=>rP 2 [] I ?_
  refine RK A8<|ak<|LX hQ (false,51,0,none,0,none,0,[],[],[],none,0,[],[],none,0) [] [] I U (by rfl) U U ?_
  exact vy<|nD (cY (me:=me) C (fun q:dR l r=>by have q1:=q.time; have q2:=q.len; omega))
 refine rP 4 [] (mc 1 U I) ?_
 refine dZ (xs:=[.tmp 32]) (cs:=[(vI r.fJ)]) U dp j5 U U U U (by simp [Value.cells]) U U fun NN=>?_
 refine rS (CL (dx.eq (g_ r.Start 86400000 ([r.fJ]) (some ⟨NN,0,none⟩) 1 (by (simp; done))) cv) (aK (bk 0 U U (by simp [bJ]) U)<|aM) U) ?_
 refine rP 3 [] I ?_
 refine bU (t:=37) U (bp fun OR=>?_) (bo fun OR=>?_)
 ·refine bE 5 U<|RK AO<|aQ U<|WS fun _ A9=>rP 2 [] I ?_
  refine RK A9<|ak<|LX hQ (false,51,0,none,0,none,0,[],[],[],none,0,[],[],none,0) [] [] I U (by rfl) U U ?_
  exact vy<|nD (cY (me:=me) C (fun q:dR l r=>by have q1:=q.time; have q2:=q.len; omega))
 refine rP 5 [] (mc 2 U I) ?_
 refine RK AO<|cu U (aU fun Ob=>?_) (aT fun Ob=>?_)
 ·refine WS fun _ BV=>rP 2 [] I ?_
  refine RK BV<|ak<|LX hQ (false,51,0,none,0,none,0,[],[],[],none,0,[],[],none,0) [] [] I U (by rfl) U U ?_
  exact vy<|nD (cY (me:=me) C (fun q:dR l r=>by have q1:=q.time; have q2:=q.len; omega))
 refine WK Pl<|WS fun _ B3=>rS (SX (a_ (xs:=[(0,.const (vI (-1)))]) (cs:=(aF.cells (aF.mk (-1) 0))) U U (bf Hy U)) U U)<|AL U FW fun V=>fu U uT U<|RK B3<|aj fun _ B9=>dH cp [5,6,7,8] [] [] [0,1,2,3,4,5,6,7,8,9,10,11] [] U U U U U<|eS U (LW 4 U cb U U)<|eS U (LW 3 U cb U U)<|eS U (FA 3 U fE U)<|eS U (L1 (vS bA l.ab.length bC) 4 U cb U U)<|eS U (LN U OJ)<|ep U<|cj U fun T18 Jt=>?_
 refine u3 (n:=l.ab.length) (es:=(List.map oC (List.replicate l.ab.length (none:Option Nat)))) U U U Ni om om (by simp only [maxLen]; omega) (by rw [List.map_replicate]; rfl) U fun B=>?_
 try dsimp only
 refine aD (Jt _ _ (aP [1,2,3,4,5,6,7,8,9,10,11,12]) ?_)
 refine cj U fun T20 J2=>rS (SX (a_ (xs:=[(0,.tmp 44),(1,.tmp 45),(3,.tmp 49)]) (cs:=(bV.cells (bV.mk (jN l kA kC cA cC bA bC) (jf r sgA sgC) (bH.mk none 0 0) (bH.mk (some ⟨B,0,none⟩) l.ab.length l.ab.length) (bH.mk none 0 0) (bH.mk none 0 0)))) U U (bf Ng U)) U U)<|aD (J2 _ _ (aP [1,2,3,4,5,6,7,8,9,10,11,12]) ?_)
 refine cj U fun T21 J3=>er U fun AB=>aD (J3 _ _ (aP [2,3,4,5,6,7,8,9,10,11,12,13]) ?_)
 refine cj U fun T23 J4=>rS (AG U)<|aD (J4 _ _ (aP [2,3,4,5,6,7,8,9,10,11,12,13]) ?_)
 refine fH U<|KK B9<|aj fun _ CF=>WS fun _ Cf=>rP 4 [] (mc 6 U I) ?_
 refine RK Cf<|aB ?_
 rw [uG]
 refine ew 3 1<|qE ?_
 have E:(0≤l.ab.length)∧(([]:List Nat).length=0):=by exact ⟨Nat.zero_le _,rfl⟩
 refine bT (ι:={z:Nat×(OA)×Nat×(List Nat) // (z.1≤l.ab.length)∧(z.2.2.2.length=z.1)}) [2,3,4,6,7,9,10,54] [4,7,8,9,10,11,12,13,14,15] U U (fun z=>[(55,(vI (z.1.1:Int)))]) (fun z=>[(bX (br pf (List.replicate z.1.1 ([]:TM)) z.1.2.2.2)),(own z.1.2.1 z.1.2.2.1 3 1 ((b_ l z.1.1).map iC)),(cm AB 150 (bV.cells (bV.mk (jN l kA kC cA cC bA bC) (jf r sgA sgC) (bH.mk z.1.2.1 ((b_ l z.1.1).length) z.1.2.2.1) (bH.mk (some ⟨B,0,none⟩) l.ab.length l.ab.length) (bH.mk none 0 0) (bH.mk none 0 0)))),(own (some ⟨B,0,none⟩) l.ab.length 153 1 (List.map oC (dk z.1.2.2.2 l.ab.length)))]) (fun _=>rfl) (fun _=>rfl) (fun z=>l.ab.length-z.1.1) ⟨(0,none,0,([]:List Nat)),E⟩ (bx U) (aP [4,7,8,9,10,11,12,13,14,15,0,1,2,3]) ?_
 clear E
 rintro ⟨⟨b,a,c,fb⟩,⟨A0,Y⟩⟩ J26 A7
 try dsimp only at A0 Y
 try dsimp only
 have Rl:(dk fb l.ab.length).length=l.ab.length:=mV om
 refine WS fun _ Ci=>rP 1 [] I ?_
 refine RK Ci<|aj fun _ Ck=>cu U (aU fun N_=>?_) (aT fun N_=>?_)
 ·refine WK Ck<|aj fun _ Cp=>aB<|WS fun _ Cx=>rP 2 [] I ?_
  refine RK Cx<|aj fun _ C0=>dH cp [12,13,16] [4] [0] [0,1,2,3,4,5,6,7,8,9,10,13] [0,1,2,3,4,5,6,7,8,9,10,11,12,13] U U U U U<|eS U (MV U)<|eS U (MV U)<|eS U (SX (cM U U) U U)<|eS U (FA 10 U fE U)<|fS U (L1 (vS a ((b_ l b).length) c) 12 U cb U U)<|eS U (LW 2 U cb U U)<|eS U (MV U)<|eS U (CL (IZ l kA kC az cA cC bA bC (b:Int) hin asm (by exact d.sZ) om) (bq [3,4,5,6]) U) ?_
  have To:=Aj Lo d.sZ b
  have T0:=d.Pv b om
  simp only [Int.toNat_natCast]
  refine eS U (BI U (tn ⟨om,om⟩))<|eS U (FA 1 U fE U)<|eS U (L1 (vI l.ku) 2 U cb U U) ?_
  refine eS U (CL (Hp (1000*(kY l (b:Int).toNat)) l.ku om (by (simp; omega))) (aM) U) ?_
  refine eS U (SX (cM U U) U U)<|eS U (FA 10 U fE U)<|ep U<|lX U fun T33 J5=>dZ (xs:=[.tmp 69]) (cs:=[(vI (oE (1000*(kY l (b:Int).toNat)) l.ku))]) U dp j5 U U U U (by simp [Value.cells]) U U fun Sw=>aD (J5 _ _ (aP [1,2,3,4,5,6,7,8,9,10,11,14]) (aP [1,2,3,4,5,6,7,8,9,10,11,12,13,14]) ?_)
  refine cj U fun T35 J6=>?_
  refine fg (es2:=(List.map iC (b_ l (b+1)))) (m':=(b_ l (b+1)).length) 12 U U U ub U U (by simp [cP]) (bk (es:=List.map iC [(oE (1000*(kY l (b:Int).toNat)) l.ku)]) 0 U U (by simp [bJ]) U) (lT _) (by have:=cP (l:=l) (n:=b); first|omega|(simp; omega)) (by simp only [maxLen,cP]; omega) (by rw [qx]; simp [dV]) (by simp [cP]) U fun e g=>?_
  try dsimp only
  refine aD (J6 _ _ (aP [1,2,3,4,5,6,7,8,9,10,11,14]) ?_)
  refine cj U fun T38 J7=>ib (vs:=[(vS e ((b_ l (b+1)).length) g)]) (cs':=(bV.cells (bV.mk (jN l kA kC cA cC bA bC) (jf r sgA sgC) (bH.mk e ((b_ l (b+1)).length) g) (bH.mk (some ⟨B,0,none⟩) l.ab.length l.ab.length) (bH.mk none 0 0) (bH.mk none 0 0)))) (C':=[_,_,_,_,_,_,_,_,_,_,_,_,_,(cm AB 150 (bV.cells (bV.mk (jN l kA kC cA cC bA bC) (jf r sgA sgC) (bH.mk e ((b_ l (b+1)).length) g) (bH.mk (some ⟨B,0,none⟩) l.ab.length l.ab.length) (bH.mk none 0 0) (bH.mk none 0 0)))),_]) 13 U U U KV U U U U U U U<|aD (J7 _ _ (aP [1,2,3,4,5,6,7,8,9,10,11,14]) ?_)
  refine fH U<|KK C0<|aq<|bE 1 U<|rS (SX (cM U U) U U)<|rP 3 [] (mc 13 U I) ?_
  refine lj (kV:=iV) U U fun J=>?_
  try dsimp only
  obtain ⟨R3,L2⟩:=aJ (dk fb l.ab.length) b om
  have hx41m:(List.map oC (dk fb l.ab.length))[b]? =some (oC R3):=by rw [fz,L2]; rfl
  refine rS (IA b U (aN (n:=l.ab.length) 15 U sq) wJ dc om om) ?_
  have J8:((dk fb l.ab.length).set b (some J))=(dk (fb++[J]) l.ab.length):=by exact q9 om om
  refine iU (k:=b) (o:=0) (vs:=[(Value.map (some J))]) (es':=(List.map oC (dk (fb++[J]) l.ab.length))) (C':=[_,_,_,_,_,_,_,_,_,_,_,_,_,_,_,(own (some ⟨B,0,none⟩) l.ab.length 153 1 (List.map oC (dk (fb++[J]) l.ab.length)))]) 15 U U U Ea U U U U hx41m U dc (by exact (List.map_set (f:=oC) (l:=(dk fb l.ab.length)) (i:=b) (a:=(some J))).symm.trans (congrArg _ J8)) U<|aD<|aL<|KK Cp<|aq<|rP 2 [] I ?_
  refine aD<|yc (X':=br pf (List.replicate (b+1) ([]:TM)) (fb++[J])) 12 0 U U (Ew Y) ?_
  try dsimp only
  have J9:(vI (((b+1):Nat):Int))=(vI ((b:Int)+1)):=by exact cI om
  refine a7 (A7 ⟨((b+1),e,g,(fb++[J])),⟨om,by simp; omega⟩⟩ _ _ _ U os (cw 8<|aX U J9<|df.nil _) (aP [2,3,4,5,6,7,8,9,10,11,0,12,13,14]))
 refine bL<|ai<|ai<|aG<|KK CF<|aj fun _ C1=>WS fun _ C2=>rP 4 [] (mc 1 U I) ?_
 refine RK C2<|aB ?_
 rw [show (List.replicate b ([]:TM))=cG l r.aa 0 from by rw [xw,show b=l.ab.length by omega]]
 rw [show b_ l b=b_ l l.ab.length from by rw [show b=l.ab.length by omega]]
 have E:(0≤r.aa.length)∧(ou l r.aa 0):=by exact ⟨Nat.zero_le _,uM⟩
 refine bT (ι:={z:Nat // (z≤r.aa.length)∧(ou l r.aa z)}) [2,3,4,6,7,9,10,83,84] [1,2,3,4,5,6,7,8,9,11,12,13] U U (fun z=>[(85,(vI (z.1:Int)))]) (fun z=>[(cm V 78 (aF.cells (kv r.aa z.1))),(bX (br pf (cG l r.aa z.1) fb))]) (fun _=>rfl) (fun _=>rfl) (fun z=>r.aa.length-z.1) ⟨0,E⟩ (bx U) (aP [1,2,3,4,5,6,7,8,9,11,12,13,0,10]) ?_
 clear E
 rintro ⟨i,⟨M2,A⟩⟩ J46 T
 try dsimp only
 have R0:(cG l r.aa i).length=l.ab.length:=gr
 have Rl:(dk fb l.ab.length).length=l.ab.length:=mV om
 refine WS fun _ C3=>rP 1 [] I ?_
 refine RK C3<|aj fun _ Di=>bQ U (aT fun Ok=>?_) (aU fun Ok=>?_)
 ·refine bL<|ai<|ai<|aG<|KK C1<|aj fun _ Gl=>aj fun _ Go=>?_
  have j:dR l r:=xd om om A om
  refine aq<|bE 3 U<|RK Go<|aB<|qo 2<|kz fun R81 Jc=>WS fun _ G5=>rS (SX (fV (r:= .bool true) U U U p7) U U)<|RK G5<|aj fun _ Hi=>aQ U<|WK Hi<|aj fun _ H1=>aB<|WS fun _ IO=>rS (UE 0 0 U M9 U dc U)<|eN 2 [] (mr 8 U I) U<|RK IO<|WS fun _ IR=>bE 1 U<|rS (SX (pO U U U (hf) (bq [7])) U U)<|bE 1 U<|RK IR<|WS fun _ Id=>rP 2 [] I ?_
  refine RK Id<|cu U (bp fun K=>?_) (bo fun K=>?_)
  ·refine WS fun _ If=>rP 3 [] I ?_
   refine RK If<|ak<|LX hQ (false,me,0,none,0,none,0,[],[],[],none,0,[],[],none,0) [] [] I U (by rfl) U U ?_
   exact vy<|Ej (qN C j K) K
  refine cf<|aL<|KK H1<|aq<|rS (SX (fV (r:= .int .i64 1) U U U (n9 ⟨dc,dc⟩)) U U)<|rP 1 [] I ?_
  refine RK Jc<|kz fun R89 R7=>WS fun _ In=>rS (SX (fV (r:= .bool false) U U U p7) U U)<|RK In<|aj fun _ R6=>cg U<|bL<|ai<|ai<|aG<|KK Gl<|aj fun _ Ja=>?_
  rw [show cG l r.aa i=cG l r.aa r.aa.length from by rw [show i=r.aa.length by omega]]
  have A2:(cG l r.aa r.aa.length).length=l.ab.length:=gr
  rw [show (List.map oC (dk fb l.ab.length))=(List.zipWith f_ (cG l r.aa r.aa.length) fb) from Qm om A2]
  rw [show (cm AB 150 (bV.cells (bV.mk (jN l kA kC cA cC bA bC) (jf r sgA sgC) (bH.mk a ((b_ l l.ab.length).length) c) (bH.mk (some ⟨B,0,none⟩) l.ab.length l.ab.length) (bH.mk none 0 0) (bH.mk none 0 0))))=(cm AB 150 (bV.cells (bV.mk (jN l kA kC cA cC bA bC) (jf r sgA sgC) (bH.mk a ((b_ l l.ab.length).length) c) (bH.mk (some ⟨B,0,none⟩) ((cG l r.aa r.aa.length).length) l.ab.length) (bH.mk none 0 0) (bH.mk none 0 0)))) from by rw [A2]]
  have L0:=lg Lo d j
  have R8:(b_ l l.ab.length).length=l.ab.length:=cP
  refine aq<|rP 1 [] I ?_
  refine nT 10 U U U U (Af (jN l kA kC cA cC bA bC) (jf r sgA sgC) (b_ l l.ab.length) (cG l r.aa r.aa.length) a c fb (some ⟨B,0,none⟩) l.ab.length AB (by exact L0) (by exact cP.symm) (by rw [A2]; omega)) U (dW 9 U U (jg sm) (dW 11 U U (jg (by rw [List.length_zipWith]; omega)) (dW 13 U U qQ qT))) U (fun L3 Qr=>?_)
  obtain ⟨G,S,P,R,F,O,N,H⟩:=L3
  refine Em (X:=[(cm AB 150 (bV.cells (bV.mk (jN l kA kC cA cC bA bC) (jf r sgA sgC) (bH.mk a ((b_ l l.ab.length).length) c) (bH.mk (some ⟨B,0,none⟩) ((cG l r.aa r.aa.length).length) l.ab.length) (bH.mk P G.length R) (bH.mk N F.length H)))),(own P R 156 1 (List.zipWith f_ G S)),(bX (br mE G S)),(own N H 156 1 (List.zipWith f_ F O)),(bX (br mE F O))]) 10 U U ?_
  try dsimp only
  obtain ⟨A1,La,Li,Lk⟩:=Qr
  dsimp only at A1 La Li Lk
  refine RK Ja<|aj fun _ v=>WS fun _ w=>rP 1 [] I ?_
  refine cX (uD (jN l kA kC cA cC bA bC) (jf r sgA sgC) (b_ l l.ab.length) (cG l r.aa r.aa.length) a c fb (some ⟨B,0,none⟩) l.ab.length G F S P R O N H AB (by exact L0) (by (simp; omega)) (by exact cP.symm) (by exact A1) asm) (aK (aN (n:=(b_ l l.ab.length).length) 14 U sm)<|aK (aN (n:=(cG l r.aa r.aa.length).length) 15 U (by rw [List.length_zipWith]; omega))<|aK (fM 17 U k8)<|aK (aN (n:=G.length) 1 U (by rw [List.length_zipWith]; omega))<|aK (fM 2 U k8)<|aK (aN (n:=F.length) 3 U (by rw [List.length_zipWith]; omega))<|aK (fM 4 U k8)<|gT 0 U U<|aM) U fun Ma R2=>?_
  obtain ⟨R4,R5⟩:=Ma
  try dsimp only
  refine rP 2 [] I ?_
  refine RK w<|bQ U (aT fun W=>?_) (aU fun W=>?_)
  ·refine WK v<|WS fun _ AC=>rP 3 [] I ?_
   refine RK AC<|ak ?_
   refine LX hQ (true,0,AB,a,c,(some ⟨B,0,none⟩),l.ab.length,fb,G,S,P,R,F,O,N,H) [1,15,16,18,2,3,4,5] [] I U (by (show List.all _ _=true; simp only [cond_true,fy,List.all_nil,oY,qU,Bool.and_true]; rfl)) U U ?_
   exact ⟨fun _=>⟨kP C j (by first|rfl|exact K) (fun q=>W (congrArg (fun z:List Int=>(z.length:Int)) q)),A1,La,Li,Lk,dso⟩,PJ⟩
  refine WS fun _ y=>rP 2 [] I ?_
  refine RK y<|ak<|LX hQ (false,8,0,none,0,none,0,[],[],[],none,0,[],[],none,0) [] [] I U (by rfl) U U ?_
  exact vy<|nD (gQ (me:=me) C j (by first|rfl|exact K) (show gX (bW l r)=[] from hE (Int.natCast_eq_zero.1 W)))
 refine WK Di<|aj fun _ AA=>aB<|WS fun _ Do=>rP 1 [] I ?_
 obtain ⟨x,hx⟩:=aJ r.aa i om
 have R1:=bK aF.cells hx
 refine rS (IA i U (aA 6 U) zU dc om om)<|rS (lh i 0 (aF.cells x) U cb (aA 6 U) R1 U dc U U)<|AL U FW fun Sz=>bE 1 U<|fu U uT U<|RK Do<|aj fun _ p=>WS fun _ L=>rP 6 [0,1] (mc 2 U (mc 0 U I)) ?_
 refine dZ (xs:=[.tmp 95]) (cs:=[(vI x.eZ)]) U dp j5 U U U U (by simp [Value.cells]) U U fun NZ=>?_
 refine rS (CL (dx.eq (g_ 0 ((l.ab.length:Int)-1) ([x.eZ]) (some ⟨NZ,0,none⟩) 1 (by (simp; done))) cv) (aK (bk 0 U U (by simp [bJ]) U)<|aM) U) ?_
 refine rP 2 [] I ?_
 refine bU (t:=99) U (bp fun Oo=>?_) (bo fun Oo=>?_)
 ·refine bE 27 U<|RK L<|aQ U<|WS fun _ EF=>rP 2 [] I ?_
  refine RK EF<|ak<|LX hQ (false,51,0,none,0,none,0,[],[],[],none,0,[],[],none,0) [] [] I U (by rfl) U U ?_
  exact vy<|nD (cY (me:=me) C (j3 hx (by unfold g5 ij; omega)))
 refine rP 2 [] (mc 1 U I) ?_
 refine dZ (xs:=[.tmp 101]) (cs:=[(vI x.Read)]) U dp j5 U U U U (by simp [Value.cells]) U U fun Ne=>?_
 refine rS (CL (dx.eq (g_ 0 86400000 ([x.Read]) (some ⟨Ne,0,none⟩) 1 (by (simp; done))) cv) (aK (bk 0 U U (by simp [bJ]) U)<|aM) U) ?_
 refine rP 3 [] I ?_
 refine bU (t:=106) U (bp fun A3=>?_) (bo fun A3=>?_)
 ·refine bE 20 U<|RK L<|aQ U<|WS fun _ EQ=>rP 2 [] I ?_
  refine RK EQ<|ak<|LX hQ (false,51,0,none,0,none,0,[],[],[],none,0,[],[],none,0) [] [] I U (by rfl) U U ?_
  exact vy<|nD (cY (me:=me) C (j3 hx (by unfold g5 ij; omega)))
 refine rP 7 [0,1] (mc 2 U (mc 15 U I)) ?_
 refine bU (t:=113) U (aU fun A4=>?_) (aT fun A4=>?_)
 ·refine bE 13 U<|RK L<|aQ U<|WS fun _ Eq=>rP 2 [] I ?_
  refine RK Eq<|ak<|LX hQ (false,51,0,none,0,none,0,[],[],[],none,0,[],[],none,0) [] [] I U (by rfl) U U ?_
  exact vy<|nD (cY (me:=me) C (j3 hx (by unfold g5 ij; omega)))
 refine rP 6 [0,1] (mc 2 U (mc 15 U I)) ?_
 refine ck (t:=119) U (aT fun A5=>?_) (aU fun A5=>?_)
 ·refine bE 7 U<|RK L<|cg U<|WK p<|aj fun _ u=>WS fun _ GE=>eN 2 [0,1] (mc 4 U (mc 2 U I)) U<|rS (CL (z8 l kA kC az cA cC bA bC x hin asm om) (bq [5,6,7,8]) U)<|AL U dN fun S2=>fu U cS U<|RK GE<|WS fun _ GT=>rP 5 [] (mc 0 U I) ?_
  refine RK GT<|bQ U (aT fun D=>?_) (aU fun D=>?_)
  ·refine WK u<|aq<|rP 1 [] (mc 3 U I) ?_
   refine ib (vs:=(aF.cells x)) (cs':=(aF.cells x)) (C':=[_,_,_,_,_,_,_,_,_,_,_,_,_,_,_,_,(cm V 78 (aF.cells x)),_]) 16 U U U uT U U U U U U U<|aD<|aL<|KK AA ?_
   have K8:(aF.cells x)=(aF.cells (kv r.aa (i+1))):=by rw [jP hx]
   rw [K8]
   refine aq<|rP 2 [] I ?_
   refine aD ?_
   rw [show (cG l r.aa i)=(cG l r.aa (i+1)) from (px hx D).symm]
   have LA:(vI (((i+1):Nat):Int))=(vI ((i:Int)+1)):=by exact cI om
   refine a7 (T ⟨(i+1),⟨om,ji A hx (by unfold g5 ij; omega)⟩⟩ _ _ _ U os (cw 9<|aX U LA<|df.nil _) (aP [4,5,6,7,8,9,10,11,12,13,14,15,16,17]))
  obtain ⟨mb,Z⟩:=aJ (cG l r.aa i) ((x.eZ).toNat) om
  obtain ⟨ga,M⟩:=aJ fb ((x.eZ).toNat) om
  refine yQ 17 Z M U U U ?_
  try dsimp only
  refine dg cp 10 kr<|kI 1 U<|dS (SX (cM U U) U U)<|dP 4 [0,1] (mc 16 U (mc 5 U I)) ?_
  have LT:(List.map oC (dk fb l.ab.length))[(x.eZ).toNat]? =some (oC (some ga)):=pZ (mj M)
  refine dS (IA ((x.eZ).toNat) U (aN (n:=l.ab.length) 17 U sq) wJ dc om om) ?_
  refine dS (hG ((x.eZ).toNat) 0 (Value.map (some ga)) U cb (aN (n:=(dk fb l.ab.length).length) 17 U sm) LT U dc U)<|lu 2 [] (mc 2 U I) U<|cE<|il (kV:=iV) (x:=(i:Int)) (C':=[(jM iV ga (cK jG (dz mb (i:Int) (cJ l x)))),_,_,_,_,_,_,_,_,_,_,_,_,_,_,_,_,_,_]) 0 U U U U rO (gJ rM) U (fU _ _ _ _).symm U<|RK u<|aq<|rP 1 [] (mc 5 U I) ?_
  refine ib (vs:=(aF.cells x)) (cs':=(aF.cells x)) (C':=[_,_,_,_,_,_,_,_,_,_,_,_,_,_,_,_,_,_,(cm V 78 (aF.cells x))]) 18 U U U uT U U U U U U U<|aD<|aL<|KK AA ?_
  have K4:(aF.cells x)=(aF.cells (kv r.aa (i+1))):=by rw [jP hx]
  rw [K4]
  refine aq<|rP 2 [] I ?_
  refine aD ?_
  refine zF (f:=pf) (ms:=(cG l r.aa i)) (m:=(dz mb (i:Int) (cJ l x))) 1 0 (by rw [gr]; omega) M U U U ?_
  rw [rq hx om D Z]
  have K5:(vI (((i+1):Nat):Int))=(vI ((i:Int)+1)):=by exact cI om
  refine a7 (T ⟨(i+1),⟨om,ji A hx (by unfold g5 ij; omega)⟩⟩ _ _ _ U os (cw 9<|aX U K5<|df.nil _) (aP [5,6,7,8,9,10,11,12,13,14,15,16,17,0]))
 refine rP 7 [0,1] (mc 2 U (mc 15 U I)) ?_
 refine RK L<|cu U (aU fun A6=>?_) (aT fun A6=>?_)
 ·refine WS fun _ FS=>rP 2 [] I ?_
  refine RK FS<|ak<|LX hQ (false,51,0,none,0,none,0,[],[],[],none,0,[],[],none,0) [] [] I U (by rfl) U U ?_
  exact vy<|nD (cY (me:=me) C (j3 hx (by unfold g5 ij; omega)))
 refine WK p<|aj fun _ s=>WS fun _ Fd=>eN 2 [0,1] (mc 4 U (mc 2 U I)) U<|rS (CL (z8 l kA kC az cA cC bA bC x hin asm om) (bq [5,6,7,8]) U)<|AL U dN fun S1=>fu U cS U<|RK Fd<|WS fun _ Fn=>rP 5 [] (mc 0 U I) ?_
 refine RK Fn<|bQ U (aT fun D=>?_) (aU fun D=>?_)
 ·refine WK s<|aq<|rP 1 [] (mc 3 U I) ?_
  refine ib (vs:=(aF.cells x)) (cs':=(aF.cells x)) (C':=[_,_,_,_,_,_,_,_,_,_,_,_,_,_,_,_,(cm V 78 (aF.cells x)),_]) 16 U U U uT U U U U U U U<|aD<|aL<|KK AA ?_
  have Kn:(aF.cells x)=(aF.cells (kv r.aa (i+1))):=by rw [jP hx]
  rw [Kn]
  refine aq<|rP 2 [] I ?_
  refine aD ?_
  rw [show (cG l r.aa i)=(cG l r.aa (i+1)) from (px hx D).symm]
  have K0:(vI (((i+1):Nat):Int))=(vI ((i:Int)+1)):=by exact cI om
  refine a7 (T ⟨(i+1),⟨om,ji A hx (by unfold g5 ij; omega)⟩⟩ _ _ _ U os (cw 9<|aX U K0<|df.nil _) (aP [4,5,6,7,8,9,10,11,12,13,14,15,16,17]))
 obtain ⟨mb,Z⟩:=aJ (cG l r.aa i) ((x.eZ).toNat) om
 obtain ⟨ga,M⟩:=aJ fb ((x.eZ).toNat) om
 refine yQ 17 Z M U U U ?_
 try dsimp only
 refine dg cp 10 kr<|kI 1 U<|dS (SX (cM U U) U U)<|dP 4 [0,1] (mc 16 U (mc 5 U I)) ?_
 have LE:(List.map oC (dk fb l.ab.length))[(x.eZ).toNat]? =some (oC (some ga)):=pZ (mj M)
 refine dS (IA ((x.eZ).toNat) U (aN (n:=l.ab.length) 17 U sq) wJ dc om om) ?_
 refine dS (hG ((x.eZ).toNat) 0 (Value.map (some ga)) U cb (aN (n:=(dk fb l.ab.length).length) 17 U sm) LE U dc U)<|lu 2 [] (mc 2 U I) U<|cE<|il (kV:=iV) (x:=(i:Int)) (C':=[(jM iV ga (cK jG (dz mb (i:Int) (cJ l x)))),_,_,_,_,_,_,_,_,_,_,_,_,_,_,_,_,_,_]) 0 U U U U rO (gJ rM) U (fU _ _ _ _).symm U<|RK s<|aq<|rP 1 [] (mc 5 U I) ?_
 refine ib (vs:=(aF.cells x)) (cs':=(aF.cells x)) (C':=[_,_,_,_,_,_,_,_,_,_,_,_,_,_,_,_,_,_,(cm V 78 (aF.cells x))]) 18 U U U uT U U U U U U U<|aD<|aL<|KK AA ?_
 have KW:(aF.cells x)=(aF.cells (kv r.aa (i+1))):=by rw [jP hx]
 rw [KW]
 refine aq<|rP 2 [] I ?_
 refine aD ?_
 refine zF (f:=pf) (ms:=(cG l r.aa i)) (m:=(dz mb (i:Int) (cJ l x))) 1 0 (by rw [gr]; omega) M U U U ?_
 rw [rq hx om D Z]
 have Kf:(vI (((i+1):Nat):Int))=(vI ((i:Int)+1)):=by exact cI om
 refine a7 (T ⟨(i+1),⟨om,ji A hx (by unfold g5 ij; omega)⟩⟩ _ _ _ U os (cw 9<|aX U Kf<|df.nil _) (aP [5,6,7,8,9,10,11,12,13,14,15,16,17,0]))
end
section
open Go.RowKit
theorem AT (l:bg) (kA:OA) (kC:Nat) (az:List RA) (cA:OA) (cC:Nat) (bA:OA) (bC:Nat) (r:cx) (sgA:OA) (sgC:Nat) (bq_:Int) (hin:eo l az) (hsl:r.aa.length≤1000000):
 dx Tryz.prog 22 [(vA (cV.cells (jN l kA kC cA cC bA bC))),(vA (cN.cells (jf r sgA sgC))),(vI bq_)] [(rd kA l.aV.length 9 (l.aV.map ao.cells)),(rd cA l.ar.length 2 (List.zipWith ay.cells l.ar az)),(dL (br ay.gn l.ar az)),(rd bA l.ab.length 4 (l.ab.map bI.cells)),(rd sgA r.aa.length 2 (r.aa.map aF.cells))] (vT [(vA (ag.cells (dD l r bq_))),(vI (dI l r bq_))]):=by
 have J8:=hin.sH
 have Jt:=hin.sI
 have Id:=hin.ot
 have Ja:=hin.sL
 have J6:=hin.side
 refine bB kr Tryz.func22 U U fun w0 Q hQ hN=>?_
 try dsimp only
 refine WS fun _ A3=>er U fun b2=>er U fun b3=>vR U U fun b4=>AL U dN fun b5=>bE 1 U<|RK A3<|WS fun _ p=>rP 2 [0,1] (mc 3 U (mc 2 U I)) ?_
 refine rS (FU U)<|dZ (xs:=[.tmp 17]) (cs:=[(Value.func (.func 43) [].toArray [(vP b2),(vP b4)].toArray)]) U M9 RU U U U U (by simp [Value.cells]) U U fun b7=>cX (Lf l kA kC az cA cC bA bC r sgA sgC (Value.func (.func 43) [].toArray [(vP b2),(vP b4)].toArray) (dL [(rd kA l.aV.length 9 (l.aV.map ao.cells)),(rd cA l.ar.length 2 (List.zipWith ay.cells l.ar az)),(dL (br ay.gn l.ar az)),(rd bA l.ab.length 4 (l.ab.map bI.cells)),(cm b2 28 (cV.cells (jN l kA kC cA cC bA bC))),(cm b4 3 [(vI bq_)])]) (jn l bq_) b7 (by exact kG (fi:=[]) (ca:=[(vP b2),(vP b4)]) (jJ (C9 l kA kC az cA cC bA bC b2 bq_ b4 (by first|assumption|omega)) (bq [0,1,2,3,4,5]))) hin hsl) (ox [5,6,7,8,9]<|aK (jF (bq [5,6,7,8,4,2]))<|gT 0 U U<|aM) U fun y8 C0=>?_
 obtain ⟨C1,Go,E,H,AB,g,j,m,B,L,J,K,A,G,d,f⟩:=y8
 cases C1
 ·obtain ⟨Ci,he⟩:=C0.2 rfl
  try dsimp only at Ci he
  subst Ci
  try dsimp only [cond_true,cond_false,List.cons_append,List.nil_append]
  refine bE 5 U<|RK p<|aj fun _ G5=>WS fun _ B3=>rP 2 [] I ?_
  refine RK B3<|bQ U (bo fun BV=>?_) (bp fun BV=>?_)
  ·exact absurd BV he
  refine WS fun _ B9=>rS (SX (a_ (xs:=[]) (cs:=(ag.cells (ag.mk 0 0))) U U (bf gM U)) U U)<|bE 1 U<|rL U cS U<|rP 1 [] I ?_
  refine RK B9<|ak<|my hQ [0] (mc 1 U I) U ?_
  (have e:=lH (b:=bq_) he; rw [e.1,e.2]<;>rfl)
 obtain ⟨he,D,C,Do,Di,Eq⟩:=C0.1 rfl
 try dsimp only [cond_true,cond_false,List.cons_append,List.nil_append]
 dsimp only at D C Do Di Eq
 obtain ⟨C3,A7,EQ,J3⟩:=iw he
 obtain ⟨FS,Cp⟩:=dK C3
 have EF:=Cp.head
 unfold eL at EF
 have Fd:=lg FS Cp A7
 have J5:=A7.time
 have J4:=A7.len
 have Ck:(b_ l l.ab.length).length=l.ab.length:=cP
 have Cx:(cG l r.aa r.aa.length).length=l.ab.length:=gr
 have J2:B.length=l.ab.length+1:=by have:=D.len; rw [show (bW l r).n=l.ab.length from cP] at this; exact this
 have Jc:A.length=l.ab.length+1:=by have:=C.len; rw [show (bW l r).n=l.ab.length from cP] at this; exact this
 obtain ⟨If,In⟩:=Dw EQ
 obtain ⟨b,A4⟩: ∃ b:Nat,bq_=(b:Int):=⟨bq_.toNat,om⟩
 rw [A4]
 refine bE 5 U<|RK p<|aj fun _ N=>WS fun _ O=>bE 1 U<|rS (SX (fV (r:= .bool false) U U U pT) U U)<|RK O<|cg U<|WK N<|WS fun _ P=>rS (SX (a_ (xs:=[(0,.const (vI 1))]) (cs:=(ag.cells (ag.mk 1 0))) U U (bf gM U)) U U)<|AL U dN fun A8=>fu U cS U<|RK P<|WS fun _ R=>eN 1 [] (mc 0 U I) U<|AL U dN fun A9=>fu U cS U<|RK R<|aj fun _ T=>WS fun _ AA=>rP 2 [] (mc 12 U I) ?_
 obtain ⟨mf,Y⟩:=aJ B b om
 obtain ⟨mb,Z⟩:=aJ A (b+1) om
 refine cX (Ip E b) (aM) U fun GE H1=>?_
 obtain ⟨AC,AO⟩:=GE
 try dsimp only
 refine RK AA<|aB ?_
 refine tq (L0:=[(3,(vP b2)),(4,(vP b3)),(5,(vP b4)),(6,(vP b5)),(7,(vI 0)),(10,(vP A8)),(11,(vP A9))]) (F:=[(own H AB 3 1 ((b_ l l.ab.length).map iC)),(own g j 153 1 (List.zipWith f_ (cG l r.aa r.aa.length) m)),(bX (br pf (cG l r.aa r.aa.length) m)),(own J K 156 1 (List.zipWith f_ B L)),(bX (br mE B L)),(own d f 156 1 (List.zipWith f_ A G)),(bX (br mE A G)),(cm E 150 (bV.cells (bV.mk (jN l kA kC cA cC bA bC) (jf r sgA sgC) (bH.mk H ((b_ l l.ab.length).length) AB) (bH.mk g ((cG l r.aa r.aa.length).length) j) (bH.mk J B.length K) (bH.mk d A.length f)))),(cm AC 108 [(vP E)]),(cm AO 3 [(vI (b:Int))])]) (fun k (y:ag)=>(ki k y)∧(∀ q∈k,q∈p9 (bW l r) b mf mb)) (fun k y=>[(cm A9 53 (ag.cells y)),(cm A8 53 (ag.cells (ag.mk 1 0))),(cm b5 53 (ag.cells (ag.mk 0 0))),(cm b4 3 [(vI (b:Int))]),(cm b3 56 (cN.cells (jf r sgA sgC))),(cm b2 28 (cV.cells (jN l kA kC cA cC bA bC))),(rd kA l.aV.length 9 (l.aV.map ao.cells)).ro,(rd cA l.ar.length 2 (List.zipWith ay.cells l.ar az)).ro,(dL (br ay.gn l.ar az)).ro,(rd bA l.ab.length 4 (l.ab.map bI.cells)).ro,(rd sgA r.aa.length 2 (r.aa.map aF.cells)).ro]) (fun _ (_:Unit)=>False) (fun _ _=>[]) [2,3,13,14,15,16,17,18,19,20,21] [5,6,7,8,9,10,11,4,0,1] l6 rfl rfl (F4 (jN l kA kC cA cC bA bC) (jf r sgA sgC) (b_ l l.ab.length) (cG l r.aa r.aa.length) H AB m g j B A L J K G d f E b AC AO mf mb (by rw [Ck]; omega) (by exact Fd) (by rw [Cx]; omega) (by exact D) om (by exact C) om (by show r.aa.length≤1000; omega) (by exact Y) (by exact Z)) rfl rfl rfl (by exact ⟨B8,fun q hq=>by cases hq⟩) (by simp only [List.forall_mem_cons,List.not_mem_nil,false_imp_iff,implies_true,and_true]; exact ⟨⟨_,aR (i:=0) rfl,(jg sm)⟩,⟨_,aR (i:=1) rfl,(jg (by rw [List.length_zipWith]; omega))⟩,⟨_,aR (i:=2) rfl,qQ⟩,⟨_,aR (i:=3) rfl,(jg (by rw [List.length_zipWith]; omega))⟩,⟨_,aR (i:=4) rfl,qQ⟩,⟨_,aR (i:=5) rfl,(jg (by rw [List.length_zipWith]; omega))⟩,⟨_,aR (i:=6) rfl,qQ⟩,⟨_,aR (i:=7) rfl,(bR _)⟩,⟨_,aR (i:=8) rfl,(bR _)⟩,⟨_,aR (i:=9) rfl,(bR _)⟩⟩) (by rintro k x k2 ⟨o,_,rfl,_⟩; rfl) rfl (bx rfl) ?_ ?_ (fun _ _ _ h=>h.elim) (fun _ _ h=>h.elim)
 ·rintro k x k2 h lr ra rb S w1 K41 Qr42 J7 hx A5 CF X Fn GT
  obtain ⟨q,hq,rfl,rfl⟩:=hx
  obtain ⟨a,c⟩:=A5
  try dsimp only
  refine aq<|AL U dN fun IO=>fu U cS U<|aD<|ic (fun _ _ h=>h) (aP [1,0,2,3,4,5,6,7,8,9,10,11,12])<|a7 (CF _ _ ?_)
  refine aB<|aj fun _ s=>WS fun _ Cf=>rP 2 [0,1] (mc 2 U (mc 3 U I)) ?_
  refine rS (BI U (RG _ _ h (ag.mk 1 0)))<|RK Cf<|bQ U (bo fun M=>?_) (bp fun M=>?_)
  ·refine WK s<|aq<|rP 1 [] (mc 1 U I) ?_
   refine GX U cS U<|aD<|aL ?_
   exact X q.2 _ _ (by refine ⟨yl a (mM hq) ?_,fun z hz=>?_⟩; (first|exact if_neg M|exact if_pos M); (rcases gR.1 hz with hz|hz; exact c z hz; (rw [cd.1 hz]; exact hq))) (aP [0,2,3,4,5,6,7,8,9,10,11,12])
  refine aq<|eN 4 [0,1] (mc 1 U (mc 2 U I)) U<|rS (MN U)<|eN 4 [0,1] (mc 1 U (mc 2 U I)) U<|rS (MX U)<|rS (SX (a_ (xs:=[(0,.tmp 40),(1,.tmp 45)]) (cs:=(ag.cells (ag.mk (min q.2.Lo h.Lo) (max q.2.Hi h.Hi)))) U U (bf gM U)) U U)<|rL U cS U<|RK s<|aq<|rP 1 [] (mc 1 U I) ?_
  refine GX U cS U<|aD<|aL ?_
  exact X (ag.mk (min q.2.Lo h.Lo) (max q.2.Hi h.Hi)) _ _ (by refine ⟨yl a (mM hq) ?_,fun z hz=>?_⟩; (first|exact if_neg M|exact if_pos M); (rcases gR.1 hz with hz|hz; exact c z hz; (rw [cd.1 hz]; exact hq))) (aP [0,2,3,4,5,6,7,8,9,10,11,12])
 rintro KW k h v A6
 obtain ⟨a,c⟩:=A6
 try dsimp only
 refine aL<|KK T<|aj fun _ V=>WS fun _ W=>rP 2 [0,1] (mc 11 U (mc 12 U I)) ?_
 refine rS (BI U (xy _ _ h (ag.mk 1 0)))<|RK W<|bQ U (aT fun A2=>?_) (aU fun A2=>?_)
 ·refine WK V<|WS fun _ u=>eN 1 [] (mc 11 U I) U<|ib (vs:=(ag.cells h)) (cs':=(ag.cells h)) (C':=[_,_,_,_,_,_,_,_,_,_,_,_,_,(cm b5 53 (ag.cells h)),_,_,_,_,_,_,_,_]) 13 U U U cS U U U U U U U<|rP 1 [] I ?_
  refine RK u<|ak<|hQ _ _ _ (qG 0 U U<|jI (vs:=[(vA (ag.cells h)),(vI 0)]) ⟨⟨_,U,.inl ⟨_,_,cb,py (vs:=(ag.cells h)) 13 U U,U,U⟩⟩,U,trivial⟩ fun w hs=>Al ?_ hs)
  show (vT [(vA (ag.cells h)),(vI 0)])=(vT [(vA (ag.cells (dD l r bq_))),(vI (dI l r bq_))])
  clear hs w hQ hN u W V AA T R P O N p A3
  (rw [A4] at he ⊢; have hh:h=mo l r b:=x5 (D.min _ _ Y) (C.max _ _ Z) (D.keys _ _ Y) (C.keys _ _ Z) c v a; (have e:=nX he (fun q=>A2 (hh.trans q)); rw [e.1,e.2,hh]<;>rfl))
 refine WS fun _ t=>rS (SX (a_ (xs:=[]) (cs:=(ag.cells (ag.mk 0 0))) U U (bf gM U)) U U)<|ib (vs:=(ag.cells (ag.mk 0 0))) (cs':=(ag.cells (ag.mk 0 0))) (C':=[_,_,_,_,_,_,_,_,_,_,_,_,_,(cm b5 53 (ag.cells (ag.mk 0 0))),_,_,_,_,_,_,_,_]) 13 U U U cS U U U U U U U<|rP 1 [] I ?_
 refine RK t<|ak<|hQ _ _ _ (qG 0 U U<|jI (vs:=[(vA (ag.cells (ag.mk 0 0))),(vI 6)]) ⟨⟨_,U,.inl ⟨_,_,cb,py (vs:=(ag.cells (ag.mk 0 0))) 13 U U,U,U⟩⟩,U,trivial⟩ fun w hs=>Al ?_ hs)
 show (vT [(vA (ag.cells (ag.mk 0 0))),(vI 6)])=(vT [(vA (ag.cells (dD l r bq_))),(vI (dI l r bq_))])
 clear hs w hQ hN t W V AA T R P O N p A3
 (rw [A4] at he ⊢; have hh:h=mo l r b:=x5 (D.min _ _ Y) (C.max _ _ Z) (D.keys _ _ Y) (C.keys _ _ Z) c v a; (have e:=qn he (hh.symm.trans A2); rw [e.1,e.2]<;>rfl))
theorem QE (l:bg) (kA:OA) (kC:Nat) (az:List RA) (cA:OA) (cC:Nat) (bA:OA) (bC:Nat) (r:cx) (sgA:OA) (sgC:Nat) (hin:eo l az) (hsl:r.aa.length≤1000000):
 dx Tryz.prog 213 [(vA (cV.cells (jN l kA kC cA cC bA bC))),(vA (cN.cells (jf r sgA sgC)))] [(rd kA l.aV.length 9 (l.aV.map ao.cells)),(rd cA l.ar.length 2 (List.zipWith ay.cells l.ar az)),(dL (br ay.gn l.ar az)),(rd bA l.ab.length 4 (l.ab.map bI.cells)),(rd sgA r.aa.length 2 (r.aa.map aF.cells))] (vT [(vA (ag.cells (zd l r))),(vI (dI l r l.cD))]):=by
 have N:=hin.sH
 have J:=hin.sI
 have H:=hin.ot
 have AA:=hin.sL
 have M:=hin.side
 refine bB kr Tryz.func213 U U fun T Q hQ hN=>?_
 try dsimp only
 refine WS fun _ C=>er U fun O=>er U fun P=>AL U dN fun R=>bE 1 U<|RK C<|WS fun _ D=>eN 4 [0,1] (mc 2 U (mc 1 U I)) U<|rS (CL (AT l kA kC az cA cC bA bC r sgA sgC l.cD hin hsl) (bq [3,4,5,6,7]) U)<|bE 3 U<|AL U dN fun S=>fu U cS U<|bE 1 U<|RK D<|aj fun _ E=>WS fun _ F=>rP 2 [] I ?_
 refine RK F<|cu U (bp fun A=>?_) (bo fun A=>?_)
 ·refine WS fun _ G=>rS (SX (a_ (xs:=[]) (cs:=(ag.cells (ag.mk 0 0))) U U (bf gM U)) U U)<|bE 1 U<|rL U cS U<|rP 1 [] I ?_
  refine RK G<|ak<|my hQ [0] (mc 1 U I) U ?_
  (rw [DV A]<;>rfl)
 refine WK E<|WS fun _ B=>rP 4 [0,1] (mc 0 U (mc 2 U I)) ?_
 have K:=tg A
 have L:=(vd A).time
 refine eN 6 [0,1] (mc 0 U (mc 2 U I)) U<|rS (SX (a_ (xs:=[(0,.tmp 24),(1,.tmp 29)]) (cs:=(ag.cells (ag.mk (((dD l r l.cD).Lo)-r.Start) (((dD l r l.cD).Hi)-r.Start)))) U U (bf gM U)) U U)<|rL U cS U<|rP 1 [] I ?_
 refine RK B<|ak<|my hQ [0] (mc 1 U I) U ?_
 (rw [zD A,A]<;>rfl)
end
section
open Go.RowKit
theorem lD (j:cH) (kA:OA) (kC:Nat) (az:List RA) (cA:OA) (cC:Nat) (bA:OA) (bC:Nat) (slA:OA) (slC:Nat) (drA:OA) (drC:Nat) (ha:List dG) (heA:OA) (heC:Nat) (faA:OA) (faC:Nat) (prA:OA) (prC:Nat) (r:cx) (sgA:OA) (sgC:Nat) (b:Int) (hin:gZ j az ha) (hsl:r.aa.length≤1000000):
 dx Tryz.prog 57 [(vA (cU.cells (cU.mk (nN j kA kC cA cC bA bC slA slC drA drC heA heC faA faC prA prC)))),(vA (cN.cells (jf r sgA sgC))),(vI b)] [(rd kA j.Race.au.aV.length 9 (j.Race.au.aV.map ao.cells)),(rd cA j.Race.au.ar.length 2 (List.zipWith ay.cells j.Race.au.ar az)),(dL (br ay.gn j.Race.au.ar az)),(rd bA j.Race.au.ab.length 4 (j.Race.au.ab.map bI.cells)),(rd slA j.Race.bj.length 1 (j.Race.bj.map iC)),(rd drA j.Race.cq.length 1 (j.Race.cq.map iC)),(rd heA j.Race.aH.length 1 (List.zipWith de j.Race.aH ha)),(dL (br eY j.Race.aH ha)),(rd faA j.aI.length 4 (j.aI.map aS.cells)),(rd prA j.ax.length 5 (j.ax.map aZ.cells)),(rd sgA r.aa.length 2 (r.aa.map aF.cells))] (vA (j9.cells (j9.mk (ag.mk ((cL j.Race.au r b).Lo) ((cL j.Race.au r b).Hi)) ((cL j.Race.au r b).each) ((cL j.Race.au r b).never)))):=by
 have Y:=hin.race
 have AA:=hin.race.line
 have c:=hin.race.iX
 have d:=hin.race.has
 have Z:=hin.race.iW
 have W:=hin.nf
 have X:=hin.np
 refine bB kr Tryz.func57 U U fun i Q hQ hN=>?_
 try dsimp only
 refine WS fun _ O=>er U fun e=>er U fun f=>AL U oa fun g=>RK O<|aj fun _ P=>WS fun _ R=>rP 2 [] I ?_
 refine RK R<|cu U (aU fun B=>?_) (aT fun B=>?_)
 ·refine WS fun _ S=>rP 4 [] (mc 1 U I) ?_
  refine rS (SX (a_ (xs:=[(0,.tmp 15),(1,.tmp 17)]) (cs:=(ag.cells (ag.mk r.Start r.Start))) U U (bf gM U)) U U)<|rS (SX (a_ (xs:=[(0,.tmp 18),(1,.const (vB true)),(2,.const (vB false))]) (cs:=(j9.cells (j9.mk (ag.mk r.Start r.Start) true false))) U U (bf En U)) U U)<|fu U mg U<|RK S<|ak<|Cj hQ [0] (mc 0 U I) U ?_
  (rw [Fh B])
 refine WK P<|WS fun _ T=>bE 3 U<|rS (LP (cV.cells (jN j.Race.au kA kC cA cC bA bC)) 2 U cb U U U)<|eN 2 [] (mc 1 U I) U<|rS (CL (AT j.Race.au kA kC az cA cC bA bC r sgA sgC b asm hsl) (bq [3,4,5,6,13]) U)<|bE 3 U<|AL U dN fun h=>fu U cS U<|bE 1 U<|RK T<|aj fun _ E=>WS fun _ F=>rP 2 [] I ?_
 refine RK F<|cu U (bp fun A=>?_) (bo fun A=>?_)
 ·refine WS fun _ G=>rS (SX (a_ (xs:=[(0,.const (vI 86400000)),(1,.const (vI 86400000))]) (cs:=(ag.cells (ag.mk 86400000 86400000))) U U (bf gM U)) U U)<|rS (SX (a_ (xs:=[(0,.tmp 32),(1,.const (vB false)),(2,.const (vB true))]) (cs:=(j9.cells (j9.mk (ag.mk 86400000 86400000) false true))) U U (bf En U)) U U)<|rL U mg U<|RK G<|ak<|Cj hQ [0] (mc 1 U I) U ?_
  (rw [AS B A])
 refine WK E<|WS fun _ H=>bE 3 U<|rS (LP (cV.cells (jN j.Race.au kA kC cA cC bA bC)) 3 U cb U U U)<|rP 1 [] (mc 2 U I) ?_
 refine cX (Mz j.Race.au kA kC az cA cC bA bC r sgA sgC asm hsl) (bq [4,5,6,7,14]) U fun V a=>?_
 obtain ⟨M,N⟩:=V
 try dsimp only
 refine bE 5 U<|RK H<|WS fun _ AB=>rP 1 [] I ?_
 refine rS (CL (Re (g4 j.Race.au r) M N (by exact DO (uY A om)) (by have:=Dk (l:=j.Race.au) (r:=r); omega)) (aK (aN (n:=(g4 j.Race.au r).length) 0 U sm)<|aM) U) ?_
 refine bE 3 U<|RK AB<|aj fun _ D=>WS fun _ J=>rP 2 [] I ?_
 refine RK J<|bQ U (bo fun C=>?_) (bp fun C=>?_)
 ·refine WK D<|WS fun _ L=>rP 2 [] (mc 1 U I) ?_
  refine rS (SX (a_ (xs:=[(0,.tmp 50),(1,.tmp 51),(2,.const (vB false))]) (cs:=(j9.cells (j9.mk (dD j.Race.au r b) (decide (b<(nt (g4 j.Race.au r)))) false))) U U (bf En U)) U U)<|GX U mg U<|RK L<|ak<|Cj hQ [0] (mc 2 U I) U ?_
  (rw [yv B A (by rw [A_ (uY A om)]; exact dq C),dq C])
 refine aq<|bE 1 U<|UJ (ag.cells (ag.mk ((dD j.Race.au r b).Lo) 86400000)) U ER U U<|RK D<|WS fun _ K=>rP 2 [] (mc 1 U I) ?_
 refine rS (SX (a_ (xs:=[(0,.tmp 50),(1,.tmp 51),(2,.const (vB false))]) (cs:=(j9.cells (j9.mk (ag.mk ((dD j.Race.au r b).Lo) 86400000) (decide (b<(nt (g4 j.Race.au r)))) false))) U U (bf En U)) U U)<|GX U mg U<|RK K<|ak<|Cj hQ [0] (mc 2 U I) U ?_
 (rw [wK B A (by rw [A_ (uY A om)]; exact bD C),bD C])
end
section
open Go.RowKit
theorem H4 (j:cH) (kA:OA) (kC:Nat) (az:List RA) (cA:OA) (cC:Nat) (bA:OA) (bC:Nat) (slA:OA) (slC:Nat) (drA:OA) (drC:Nat) (ha:List dG) (heA:OA) (heC:Nat) (faA:OA) (faC:Nat) (prA:OA) (prC:Nat) (fw ff ft:Int) (d:aw) (sgA:OA) (sgC:Nat) (hin:gZ j az ha) (hw:0≤fw∧fw≤1000000) (hsl:d.bw.aa.length≤1000000):
 dx Tryz.prog 34 [(vA (cU.cells (cU.mk (nN j kA kC cA cC bA bC slA slC drA drC heA heC faA faC prA prC)))),(vA (aS.cells (aS.mk 1 fw ff ft))),(vA (aO.cells (aO.mk d.Out d.c_ d.Time (jf d.bw sgA sgC))))] [(rd kA j.Race.au.aV.length 9 (j.Race.au.aV.map ao.cells)),(rd cA j.Race.au.ar.length 2 (List.zipWith ay.cells j.Race.au.ar az)),(dL (br ay.gn j.Race.au.ar az)),(rd bA j.Race.au.ab.length 4 (j.Race.au.ab.map bI.cells)),(rd slA j.Race.bj.length 1 (j.Race.bj.map iC)),(rd drA j.Race.cq.length 1 (j.Race.cq.map iC)),(rd heA j.Race.aH.length 1 (List.zipWith de j.Race.aH ha)),(dL (br eY j.Race.aH ha)),(rd faA j.aI.length 4 (j.aI.map aS.cells)),(rd prA j.ax.length 5 (j.ax.map aZ.cells)),(rd sgA d.bw.aa.length 2 (d.bw.aa.map aF.cells))] (Value.int .u8 (fK j.Race.au (aS.mk 1 fw ff ft) d)):=by
 have l:=hin.race
 have h:=hin.race.line
 have r:=hin.race.iX
 have s:=hin.race.has
 have m:=hin.race.iW
 have i:=hin.nf
 have k:=hin.np
 refine bB kr Tryz.func34 U U fun u Q hQ hN=>?_
 try dsimp only
 refine WS fun _ a=>er U fun n=>er U fun o=>er U fun p=>bE 1 U<|RK a<|aj fun _ b=>WS fun _ c=>eN 1 [] (mc 0 U I) U<|rS (CL (tP d.Out d.c_ d.Time (jf d.bw sgA sgC)) (aM) U)<|rP 1 [] I ?_
 refine RK c<|cu U (bp fun A=>?_) (bo fun A=>?_)
 ·refine WS fun _ e=>rP 1 [] I ?_
  refine RK e<|ak<|Q1 hQ U U U ?_
  (rw [o2 (fun q=>A q)]; done)
 refine WK b<|aj fun _ f=>dH cp [4,5] [] [] [0,1,2,3,4,5,6,7,8,9,10,11,12,13] [] U U U U U<|eS U (CL wm (aM) U)<|eS U (FA 0 U fE U)<|eS U (L1 (Value.int .u8 1) 1 U cb U U)<|eS U (SX (uJ (vs:=(eK.cells (eK.mk (Value.func (.func 84) [].toArray [].toArray) (Value.func (.func 83) [].toArray [].toArray)))) 1 U U U IG cb U dc U) U U)<|ep U<|cj U fun T9 g=>AL U Km fun X=>aD (g _ _ (aP [1,2,3,4,5,6,7,8,9,10,11,12,13,14]) ?_)
 refine cj U fun T11 W=>fu U IK U<|aD (W _ _ (aP [1,2,3,4,5,6,7,8,9,10,11,12,13,14]) ?_)
 refine fH U<|KK f<|WS fun _ V=>eN 4 [0,1,2] (mc 0 U (mc 3 U (mc 2 U I))) U<|rS (CL (Qu j kA kC cA cC bA bC slA slC drA drC heA heC faA faC prA prC 1 fw ff ft) (aM) U)<|rP 5 [] I ?_
 refine RK V<|aj fun _ AA=>l3 cp [0,1,2,3,4,5,6,7,8,9] [10,11,12,13] [false,false,false,false,false,false,false,false,false,false] [] [(cm X 132 (eK.cells (eK.mk (Value.func (.func 84) [].toArray [].toArray) (Value.func (.func 83) [].toArray [].toArray)))),(cm p 58 (aO.cells (aO.mk d.Out d.c_ d.Time (jf d.bw sgA sgC)))),(cm o 80 (aS.cells (aS.mk 1 fw ff ft))),(cm n 93 (cU.cells (cU.mk (nN j kA kC cA cC bA bC slA slC drA drC heA heC faA faC prA prC)))),(rd kA j.Race.au.aV.length 9 (j.Race.au.aV.map ao.cells)).ro,(rd cA j.Race.au.ar.length 2 (List.zipWith ay.cells j.Race.au.ar az)).ro,(dL (br ay.gn j.Race.au.ar az)).ro,(rd bA j.Race.au.ab.length 4 (j.Race.au.ab.map bI.cells)).ro,(rd slA j.Race.bj.length 1 (j.Race.bj.map iC)).ro,(rd drA j.Race.cq.length 1 (j.Race.cq.map iC)).ro,(rd heA j.Race.aH.length 1 (List.zipWith de j.Race.aH ha)).ro,(dL (br eY j.Race.aH ha)).ro,(rd faA j.aI.length 4 (j.aI.map aS.cells)).ro,(rd prA j.ax.length 5 (j.ax.map aZ.cells)).ro,(rd sgA d.bw.aa.length 2 (d.bw.aa.map aF.cells)).ro] [] kr (aP [0,1,2,3,4,5,6,7,8,9,10,11,12,13,14]) (aP [])<|eS U (LW 3 U cb U U)<|eS U (FA 4 U fE U)<|eS U (LP (cN.cells (jf d.bw sgA sgC)) 1 U cb U U U)<|eS U (MV U)<|eS U (CL (lD j kA kC az cA cC bA bC slA slC drA drC ha heA heC faA faC prA prC d.bw sgA sgC (-1) hin hsl) (bq [4,5,6,7,8,9,10,11,12,13,14]) U)<|eS U (LW 3 U cb U U)<|eS U (FA 4 U fE U)<|eS U (LP (cN.cells (jf d.bw sgA sgC)) 1 U cb U U U)<|eS U (MV U)<|eS U (CL (lD j kA kC az cA cC bA bC slA slC drA drC ha heA heC faA faC prA prC d.bw sgA sgC j.Race.au.cD hin hsl) (bq [4,5,6,7,8,9,10,11,12,13,14]) U)<|ep U<|mz [10,11] kr (iy ?_<|iy ?_<|pX)
 rotate_left 1
 ·refine NO U U [10,12,13] fun T14 P=>AL U oa fun Y=>RD P 1 U<|N1 10<|NO U U [12,13] fun T16 R=>AL U oa fun Z=>RD R 2 U<|N1 12<|NO U U [13] fun T18 S=>fu U mg U<|RD S 2 U<|N1 13<|NO U U [] fun T19 T=>rL U mg U<|RD T 2 U<|lx<|KK AA<|aj fun _ F=>aB<|WS fun _ E=>rP 3 [] (mc 0 U I) ?_
  refine bU (t:=40) U (fun C=>?_) (fun C=>?_)
  ·refine bE 16 U<|RK E<|aQ U<|WS fun _ J=>rP 1 [] I ?_
   refine RK J<|ak<|Q1 hQ U U U ?_
   (rw [jB rfl A]; (rw [gL (.inl C)]; done))
  refine rP 8 [0,1] (mc 0 U (mc 4 U I)) ?_
  refine bU (t:=48) U (aU fun D=>?_) (aT fun D=>?_)
  ·refine bE 8 U<|RK E<|aQ U<|WS fun _ K=>rP 1 [] I ?_
   refine RK K<|ak<|Q1 hQ U U U ?_
   (rw [jB rfl A]; (rw [gL (.inr (.inl D))]; done))
  refine rP 8 [0,1] (mc 1 U (mc 4 U I)) ?_
  refine RK E<|cu U (aU fun B=>?_) (aT fun B=>?_)
  ·refine WS fun _ L=>rP 1 [] I ?_
   refine RK L<|ak<|Q1 hQ U U U ?_
   (rw [jB rfl A]; (rw [gL (.inr (.inr B))]; done))
  refine WS fun _ G=>rP 3 [] (mc 0 U I) ?_
  refine ck (t:=59) U (fun AB=>?_) (fun AB=>?_)
  ·refine bE 8 U<|RK G<|cg U<|cf<|aL<|KK F<|WS fun _ O=>rP 1 [] I ?_
   refine RK O<|ak<|Q1 hQ U U U ?_
   (rw [jB rfl A]; (rw [jA (Ac (by simpa using C) (by first|exact D|(simp only []; omega)) (by first|exact B|(simp only []; omega))) (fun q=>by rw [AB] at q; exact Bool.noConfusion q.1)]; done))
  refine eN 5 [0,1,2,3] (mc 2 U (mc 4 U (mc 0 U (mc 1 U I)))) U<|rS (CL (tw 1 fw ff ft ((cL j.Race.au d.bw (-1)).Lo) ((cL j.Race.au d.bw (-1)).Hi) ((cL j.Race.au d.bw (-1)).each) ((cL j.Race.au d.bw (-1)).never) ((cL j.Race.au d.bw j.Race.au.cD).Lo) ((cL j.Race.au d.bw j.Race.au.cD).Hi) ((cL j.Race.au d.bw j.Race.au.cD).each) ((cL j.Race.au d.bw j.Race.au.cD).never)) (aM) U)<|rP 2 [] I ?_
  refine RK G<|cu U (aU fun H=>?_) (aT fun H=>?_)
  ·refine WS fun _ M=>rP 1 [] I ?_
   refine RK M<|ak<|Q1 hQ U U U ?_
   (rw [jB rfl A]; (rw [o4 (Ac (by simpa using C) (by first|exact D|(simp only []; omega)) (by first|exact B|(simp only []; omega))) AB ((nY (show ¬ (1:Int)=3 by decide)).2 H)]; done))
  refine cf<|aL<|KK F<|WS fun _ N=>rP 1 [] I ?_
  refine RK N<|ak<|Q1 hQ U U U ?_
  (rw [jB rfl A]; (rw [jA (Ac (by simpa using C) (by first|exact D|(simp only []; omega)) (by first|exact B|(simp only []; omega))) (fun q=>H ((nY (show ¬ (1:Int)=3 by decide)).1 q.2))]; done))
 refine NO U U [11,12,13] fun T14 P=>AL U oa fun Y=>RD P 1 U<|N1 11<|NO U U [12,13] fun T16 R=>AL U oa fun Z=>RD R 2 U<|N1 12<|NO U U [13] fun T18 S=>rL U mg U<|RD S 2 U<|N1 13<|NO U U [] fun T19 T=>fu U mg U<|RD T 2 U<|lx<|KK AA<|aj fun _ F=>aB<|WS fun _ E=>rP 3 [] (mc 1 U I) ?_
 refine bU (t:=40) U (fun C=>?_) (fun C=>?_)
 ·refine bE 16 U<|RK E<|aQ U<|WS fun _ J=>rP 1 [] I ?_
  refine RK J<|ak<|Q1 hQ U U U ?_
  (rw [jB rfl A]; (rw [gL (.inl C)]; done))
 refine rP 8 [0,1] (mc 1 U (mc 4 U I)) ?_
 refine bU (t:=48) U (aU fun D=>?_) (aT fun D=>?_)
 ·refine bE 8 U<|RK E<|aQ U<|WS fun _ K=>rP 1 [] I ?_
  refine RK K<|ak<|Q1 hQ U U U ?_
  (rw [jB rfl A]; (rw [gL (.inr (.inl D))]; done))
 refine rP 8 [0,1] (mc 0 U (mc 4 U I)) ?_
 refine RK E<|cu U (aU fun B=>?_) (aT fun B=>?_)
 ·refine WS fun _ L=>rP 1 [] I ?_
  refine RK L<|ak<|Q1 hQ U U U ?_
  (rw [jB rfl A]; (rw [gL (.inr (.inr B))]; done))
 refine WS fun _ G=>rP 3 [] (mc 1 U I) ?_
 refine ck (t:=59) U (fun AB=>?_) (fun AB=>?_)
 ·refine bE 8 U<|RK G<|cg U<|cf<|aL<|KK F<|WS fun _ O=>rP 1 [] I ?_
  refine RK O<|ak<|Q1 hQ U U U ?_
  (rw [jB rfl A]; (rw [jA (Ac (by simpa using C) (by first|exact D|(simp only []; omega)) (by first|exact B|(simp only []; omega))) (fun q=>by rw [AB] at q; exact Bool.noConfusion q.1)]; done))
 refine eN 5 [0,1,2,3] (mc 2 U (mc 4 U (mc 1 U (mc 0 U I)))) U<|rS (CL (tw 1 fw ff ft ((cL j.Race.au d.bw (-1)).Lo) ((cL j.Race.au d.bw (-1)).Hi) ((cL j.Race.au d.bw (-1)).each) ((cL j.Race.au d.bw (-1)).never) ((cL j.Race.au d.bw j.Race.au.cD).Lo) ((cL j.Race.au d.bw j.Race.au.cD).Hi) ((cL j.Race.au d.bw j.Race.au.cD).each) ((cL j.Race.au d.bw j.Race.au.cD).never)) (aM) U)<|rP 2 [] I ?_
 refine RK G<|cu U (aU fun H=>?_) (aT fun H=>?_)
 ·refine WS fun _ M=>rP 1 [] I ?_
  refine RK M<|ak<|Q1 hQ U U U ?_
  (rw [jB rfl A]; (rw [o4 (Ac (by simpa using C) (by first|exact D|(simp only []; omega)) (by first|exact B|(simp only []; omega))) AB ((nY (show ¬ (1:Int)=3 by decide)).2 H)]; done))
 refine cf<|aL<|KK F<|WS fun _ N=>rP 1 [] I ?_
 refine RK N<|ak<|Q1 hQ U U U ?_
 (rw [jB rfl A]; (rw [jA (Ac (by simpa using C) (by first|exact D|(simp only []; omega)) (by first|exact B|(simp only []; omega))) (fun q=>H ((nY (show ¬ (1:Int)=3 by decide)).1 q.2))]; done))
theorem It (j:cH) (kA:OA) (kC:Nat) (az:List RA) (cA:OA) (cC:Nat) (bA:OA) (bC:Nat) (slA:OA) (slC:Nat) (drA:OA) (drC:Nat) (ha:List dG) (heA:OA) (heC:Nat) (faA:OA) (faC:Nat) (prA:OA) (prC:Nat) (fw ff ft:Int) (d:aw) (sgA:OA) (sgC:Nat) (hin:gZ j az ha) (hw:0≤fw∧fw≤1000000) (hsl:d.bw.aa.length≤1000000):
 dx Tryz.prog 34 [(vA (cU.cells (cU.mk (nN j kA kC cA cC bA bC slA slC drA drC heA heC faA faC prA prC)))),(vA (aS.cells (aS.mk 2 fw ff ft))),(vA (aO.cells (aO.mk d.Out d.c_ d.Time (jf d.bw sgA sgC))))] [(rd kA j.Race.au.aV.length 9 (j.Race.au.aV.map ao.cells)),(rd cA j.Race.au.ar.length 2 (List.zipWith ay.cells j.Race.au.ar az)),(dL (br ay.gn j.Race.au.ar az)),(rd bA j.Race.au.ab.length 4 (j.Race.au.ab.map bI.cells)),(rd slA j.Race.bj.length 1 (j.Race.bj.map iC)),(rd drA j.Race.cq.length 1 (j.Race.cq.map iC)),(rd heA j.Race.aH.length 1 (List.zipWith de j.Race.aH ha)),(dL (br eY j.Race.aH ha)),(rd faA j.aI.length 4 (j.aI.map aS.cells)),(rd prA j.ax.length 5 (j.ax.map aZ.cells)),(rd sgA d.bw.aa.length 2 (d.bw.aa.map aF.cells))] (Value.int .u8 (fK j.Race.au (aS.mk 2 fw ff ft) d)):=by
 have l:=hin.race
 have h:=hin.race.line
 have r:=hin.race.iX
 have s:=hin.race.has
 have m:=hin.race.iW
 have i:=hin.nf
 have k:=hin.np
 refine bB kr Tryz.func34 U U fun u Q hQ hN=>?_
 try dsimp only
 refine WS fun _ a=>er U fun n=>er U fun o=>er U fun p=>bE 1 U<|RK a<|aj fun _ b=>WS fun _ c=>eN 1 [] (mc 0 U I) U<|rS (CL (tP d.Out d.c_ d.Time (jf d.bw sgA sgC)) (aM) U)<|rP 1 [] I ?_
 refine RK c<|cu U (bp fun A=>?_) (bo fun A=>?_)
 ·refine WS fun _ e=>rP 1 [] I ?_
  refine RK e<|ak<|Q1 hQ U U U ?_
  (rw [o2 (fun q=>A q)]; done)
 refine WK b<|aj fun _ f=>dH cp [4,5] [] [] [0,1,2,3,4,5,6,7,8,9,10,11,12,13] [] U U U U U<|eS U (CL wm (aM) U)<|eS U (FA 0 U fE U)<|eS U (L1 (Value.int .u8 2) 1 U cb U U)<|eS U (SX (uJ (vs:=(eK.cells (eK.mk (Value.func (.func 85) [].toArray [].toArray) (Value.func (.func 83) [].toArray [].toArray)))) 2 U U U IG cb U dc U) U U)<|ep U<|cj U fun T9 g=>AL U Km fun X=>aD (g _ _ (aP [1,2,3,4,5,6,7,8,9,10,11,12,13,14]) ?_)
 refine cj U fun T11 W=>fu U IK U<|aD (W _ _ (aP [1,2,3,4,5,6,7,8,9,10,11,12,13,14]) ?_)
 refine fH U<|KK f<|WS fun _ V=>eN 4 [0,1,2] (mc 0 U (mc 3 U (mc 2 U I))) U<|rS (CL (RX j kA kC cA cC bA bC slA slC drA drC heA heC faA faC prA prC 2 fw ff ft hw) (aM) U)<|rP 5 [] I ?_
 refine RK V<|aj fun _ AA=>l3 cp [0,1,2,3,4,5,6,7,8,9] [10,11,12,13] [false,false,false,false,false,false,false,false,false,false] [] [(cm X 132 (eK.cells (eK.mk (Value.func (.func 85) [].toArray [].toArray) (Value.func (.func 83) [].toArray [].toArray)))),(cm p 58 (aO.cells (aO.mk d.Out d.c_ d.Time (jf d.bw sgA sgC)))),(cm o 80 (aS.cells (aS.mk 2 fw ff ft))),(cm n 93 (cU.cells (cU.mk (nN j kA kC cA cC bA bC slA slC drA drC heA heC faA faC prA prC)))),(rd kA j.Race.au.aV.length 9 (j.Race.au.aV.map ao.cells)).ro,(rd cA j.Race.au.ar.length 2 (List.zipWith ay.cells j.Race.au.ar az)).ro,(dL (br ay.gn j.Race.au.ar az)).ro,(rd bA j.Race.au.ab.length 4 (j.Race.au.ab.map bI.cells)).ro,(rd slA j.Race.bj.length 1 (j.Race.bj.map iC)).ro,(rd drA j.Race.cq.length 1 (j.Race.cq.map iC)).ro,(rd heA j.Race.aH.length 1 (List.zipWith de j.Race.aH ha)).ro,(dL (br eY j.Race.aH ha)).ro,(rd faA j.aI.length 4 (j.aI.map aS.cells)).ro,(rd prA j.ax.length 5 (j.ax.map aZ.cells)).ro,(rd sgA d.bw.aa.length 2 (d.bw.aa.map aF.cells)).ro] [] kr (aP [0,1,2,3,4,5,6,7,8,9,10,11,12,13,14]) (aP [])<|eS U (LW 3 U cb U U)<|eS U (FA 4 U fE U)<|eS U (LP (cN.cells (jf d.bw sgA sgC)) 1 U cb U U U)<|eS U (MV U)<|eS U (CL (lD j kA kC az cA cC bA bC slA slC drA drC ha heA heC faA faC prA prC d.bw sgA sgC (fw-1) hin hsl) (bq [4,5,6,7,8,9,10,11,12,13,14]) U)<|eS U (LW 3 U cb U U)<|eS U (FA 4 U fE U)<|eS U (LP (cN.cells (jf d.bw sgA sgC)) 1 U cb U U U)<|eS U (MV U)<|eS U (CL (lD j kA kC az cA cC bA bC slA slC drA drC ha heA heC faA faC prA prC d.bw sgA sgC fw hin hsl) (bq [4,5,6,7,8,9,10,11,12,13,14]) U)<|ep U<|mz [10,11] kr (iy ?_<|iy ?_<|pX)
 rotate_left 1
 ·refine NO U U [10,12,13] fun T14 P=>AL U oa fun Y=>RD P 1 U<|N1 10<|NO U U [12,13] fun T16 R=>AL U oa fun Z=>RD R 2 U<|N1 12<|NO U U [13] fun T18 S=>fu U mg U<|RD S 2 U<|N1 13<|NO U U [] fun T19 T=>rL U mg U<|RD T 2 U<|lx<|KK AA<|aj fun _ F=>aB<|WS fun _ E=>rP 3 [] (mc 0 U I) ?_
  refine bU (t:=40) U (fun C=>?_) (fun C=>?_)
  ·refine bE 16 U<|RK E<|aQ U<|WS fun _ J=>rP 1 [] I ?_
   refine RK J<|ak<|Q1 hQ U U U ?_
   (rw [ju rfl A]; (rw [gL (.inl C)]; done))
  refine rP 8 [0,1] (mc 0 U (mc 4 U I)) ?_
  refine bU (t:=48) U (aU fun D=>?_) (aT fun D=>?_)
  ·refine bE 8 U<|RK E<|aQ U<|WS fun _ K=>rP 1 [] I ?_
   refine RK K<|ak<|Q1 hQ U U U ?_
   (rw [ju rfl A]; (rw [gL (.inr (.inl D))]; done))
  refine rP 8 [0,1] (mc 1 U (mc 4 U I)) ?_
  refine RK E<|cu U (aU fun B=>?_) (aT fun B=>?_)
  ·refine WS fun _ L=>rP 1 [] I ?_
   refine RK L<|ak<|Q1 hQ U U U ?_
   (rw [ju rfl A]; (rw [gL (.inr (.inr B))]; done))
  refine WS fun _ G=>rP 3 [] (mc 0 U I) ?_
  refine ck (t:=59) U (fun AB=>?_) (fun AB=>?_)
  ·refine bE 8 U<|RK G<|cg U<|cf<|aL<|KK F<|WS fun _ O=>rP 1 [] I ?_
   refine RK O<|ak<|Q1 hQ U U U ?_
   (rw [ju rfl A]; (rw [jA (Ac (by simpa using C) (by first|exact D|(simp only []; omega)) (by first|exact B|(simp only []; omega))) (fun q=>by rw [AB] at q; exact Bool.noConfusion q.1)]; done))
  refine eN 5 [0,1,2,3] (mc 2 U (mc 4 U (mc 0 U (mc 1 U I)))) U<|rS (CL (tw 2 fw ff ft ((cL j.Race.au d.bw (fw-1)).Lo) ((cL j.Race.au d.bw (fw-1)).Hi) ((cL j.Race.au d.bw (fw-1)).each) ((cL j.Race.au d.bw (fw-1)).never) ((cL j.Race.au d.bw fw).Lo) ((cL j.Race.au d.bw fw).Hi) ((cL j.Race.au d.bw fw).each) ((cL j.Race.au d.bw fw).never)) (aM) U)<|rP 2 [] I ?_
  refine RK G<|cu U (aU fun H=>?_) (aT fun H=>?_)
  ·refine WS fun _ M=>rP 1 [] I ?_
   refine RK M<|ak<|Q1 hQ U U U ?_
   (rw [ju rfl A]; (rw [o4 (Ac (by simpa using C) (by first|exact D|(simp only []; omega)) (by first|exact B|(simp only []; omega))) AB ((nY (show ¬ (2:Int)=3 by decide)).2 H)]; done))
  refine cf<|aL<|KK F<|WS fun _ N=>rP 1 [] I ?_
  refine RK N<|ak<|Q1 hQ U U U ?_
  (rw [ju rfl A]; (rw [jA (Ac (by simpa using C) (by first|exact D|(simp only []; omega)) (by first|exact B|(simp only []; omega))) (fun q=>H ((nY (show ¬ (2:Int)=3 by decide)).1 q.2))]; done))
 refine NO U U [11,12,13] fun T14 P=>AL U oa fun Y=>RD P 1 U<|N1 11<|NO U U [12,13] fun T16 R=>AL U oa fun Z=>RD R 2 U<|N1 12<|NO U U [13] fun T18 S=>rL U mg U<|RD S 2 U<|N1 13<|NO U U [] fun T19 T=>fu U mg U<|RD T 2 U<|lx<|KK AA<|aj fun _ F=>aB<|WS fun _ E=>rP 3 [] (mc 1 U I) ?_
 refine bU (t:=40) U (fun C=>?_) (fun C=>?_)
 ·refine bE 16 U<|RK E<|aQ U<|WS fun _ J=>rP 1 [] I ?_
  refine RK J<|ak<|Q1 hQ U U U ?_
  (rw [ju rfl A]; (rw [gL (.inl C)]; done))
 refine rP 8 [0,1] (mc 1 U (mc 4 U I)) ?_
 refine bU (t:=48) U (aU fun D=>?_) (aT fun D=>?_)
 ·refine bE 8 U<|RK E<|aQ U<|WS fun _ K=>rP 1 [] I ?_
  refine RK K<|ak<|Q1 hQ U U U ?_
  (rw [ju rfl A]; (rw [gL (.inr (.inl D))]; done))
 refine rP 8 [0,1] (mc 0 U (mc 4 U I)) ?_
 refine RK E<|cu U (aU fun B=>?_) (aT fun B=>?_)
 ·refine WS fun _ L=>rP 1 [] I ?_
  refine RK L<|ak<|Q1 hQ U U U ?_
  (rw [ju rfl A]; (rw [gL (.inr (.inr B))]; done))
 refine WS fun _ G=>rP 3 [] (mc 1 U I) ?_
 refine ck (t:=59) U (fun AB=>?_) (fun AB=>?_)
 ·refine bE 8 U<|RK G<|cg U<|cf<|aL<|KK F<|WS fun _ O=>rP 1 [] I ?_
  refine RK O<|ak<|Q1 hQ U U U ?_
  (rw [ju rfl A]; (rw [jA (Ac (by simpa using C) (by first|exact D|(simp only []; omega)) (by first|exact B|(simp only []; omega))) (fun q=>by rw [AB] at q; exact Bool.noConfusion q.1)]; done))
 refine eN 5 [0,1,2,3] (mc 2 U (mc 4 U (mc 1 U (mc 0 U I)))) U<|rS (CL (tw 2 fw ff ft ((cL j.Race.au d.bw (fw-1)).Lo) ((cL j.Race.au d.bw (fw-1)).Hi) ((cL j.Race.au d.bw (fw-1)).each) ((cL j.Race.au d.bw (fw-1)).never) ((cL j.Race.au d.bw fw).Lo) ((cL j.Race.au d.bw fw).Hi) ((cL j.Race.au d.bw fw).each) ((cL j.Race.au d.bw fw).never)) (aM) U)<|rP 2 [] I ?_
 refine RK G<|cu U (aU fun H=>?_) (aT fun H=>?_)
 ·refine WS fun _ M=>rP 1 [] I ?_
  refine RK M<|ak<|Q1 hQ U U U ?_
  (rw [ju rfl A]; (rw [o4 (Ac (by simpa using C) (by first|exact D|(simp only []; omega)) (by first|exact B|(simp only []; omega))) AB ((nY (show ¬ (2:Int)=3 by decide)).2 H)]; done))
 refine cf<|aL<|KK F<|WS fun _ N=>rP 1 [] I ?_
 refine RK N<|ak<|Q1 hQ U U U ?_
 (rw [ju rfl A]; (rw [jA (Ac (by simpa using C) (by first|exact D|(simp only []; omega)) (by first|exact B|(simp only []; omega))) (fun q=>H ((nY (show ¬ (2:Int)=3 by decide)).1 q.2))]; done))
theorem Hf (j:cH) (kA:OA) (kC:Nat) (az:List RA) (cA:OA) (cC:Nat) (bA:OA) (bC:Nat) (slA:OA) (slC:Nat) (drA:OA) (drC:Nat) (ha:List dG) (heA:OA) (heC:Nat) (faA:OA) (faC:Nat) (prA:OA) (prC:Nat) (fw ff ft:Int) (d:aw) (sgA:OA) (sgC:Nat) (hin:gZ j az ha) (hw:0≤fw∧fw≤1000000) (hsl:d.bw.aa.length≤1000000):
 dx Tryz.prog 34 [(vA (cU.cells (cU.mk (nN j kA kC cA cC bA bC slA slC drA drC heA heC faA faC prA prC)))),(vA (aS.cells (aS.mk 3 fw ff ft))),(vA (aO.cells (aO.mk d.Out d.c_ d.Time (jf d.bw sgA sgC))))] [(rd kA j.Race.au.aV.length 9 (j.Race.au.aV.map ao.cells)),(rd cA j.Race.au.ar.length 2 (List.zipWith ay.cells j.Race.au.ar az)),(dL (br ay.gn j.Race.au.ar az)),(rd bA j.Race.au.ab.length 4 (j.Race.au.ab.map bI.cells)),(rd slA j.Race.bj.length 1 (j.Race.bj.map iC)),(rd drA j.Race.cq.length 1 (j.Race.cq.map iC)),(rd heA j.Race.aH.length 1 (List.zipWith de j.Race.aH ha)),(dL (br eY j.Race.aH ha)),(rd faA j.aI.length 4 (j.aI.map aS.cells)),(rd prA j.ax.length 5 (j.ax.map aZ.cells)),(rd sgA d.bw.aa.length 2 (d.bw.aa.map aF.cells))] (Value.int .u8 (fK j.Race.au (aS.mk 3 fw ff ft) d)):=by
 have l:=hin.race
 have h:=hin.race.line
 have r:=hin.race.iX
 have s:=hin.race.has
 have m:=hin.race.iW
 have i:=hin.nf
 have k:=hin.np
 refine bB kr Tryz.func34 U U fun u Q hQ hN=>?_
 try dsimp only
 refine WS fun _ a=>er U fun n=>er U fun o=>er U fun p=>bE 1 U<|RK a<|aj fun _ b=>WS fun _ c=>eN 1 [] (mc 0 U I) U<|rS (CL (tP d.Out d.c_ d.Time (jf d.bw sgA sgC)) (aM) U)<|rP 1 [] I ?_
 refine RK c<|cu U (bp fun A=>?_) (bo fun A=>?_)
 ·refine WS fun _ e=>rP 1 [] I ?_
  refine RK e<|ak<|Q1 hQ U U U ?_
  (rw [o2 (fun q=>A q)]; done)
 refine WK b<|aj fun _ f=>dH cp [4,5] [] [] [0,1,2,3,4,5,6,7,8,9,10,11,12,13] [] U U U U U<|eS U (CL wm (aM) U)<|eS U (FA 0 U fE U)<|eS U (L1 (Value.int .u8 3) 1 U cb U U)<|eS U (SX (uJ (vs:=(eK.cells (eK.mk (Value.func (.func 86) [].toArray [].toArray) (Value.func (.func 87) [].toArray [].toArray)))) 3 U U U IG cb U dc U) U U)<|ep U<|cj U fun T9 g=>AL U Km fun X=>aD (g _ _ (aP [1,2,3,4,5,6,7,8,9,10,11,12,13,14]) ?_)
 refine cj U fun T11 W=>fu U IK U<|aD (W _ _ (aP [1,2,3,4,5,6,7,8,9,10,11,12,13,14]) ?_)
 refine fH U<|KK f<|WS fun _ V=>eN 4 [0,1,2] (mc 0 U (mc 3 U (mc 2 U I))) U<|rS (CL (Sb j kA kC cA cC bA bC slA slC drA drC heA heC faA faC prA prC 3 fw ff ft) (aM) U)<|rP 5 [] I ?_
 refine RK V<|aj fun _ AA=>l3 cp [0,1,2,3,4,5,6,7,8,9] [10,11,12,13] [false,false,false,false,false,false,false,false,false,false] [] [(cm X 132 (eK.cells (eK.mk (Value.func (.func 86) [].toArray [].toArray) (Value.func (.func 87) [].toArray [].toArray)))),(cm p 58 (aO.cells (aO.mk d.Out d.c_ d.Time (jf d.bw sgA sgC)))),(cm o 80 (aS.cells (aS.mk 3 fw ff ft))),(cm n 93 (cU.cells (cU.mk (nN j kA kC cA cC bA bC slA slC drA drC heA heC faA faC prA prC)))),(rd kA j.Race.au.aV.length 9 (j.Race.au.aV.map ao.cells)).ro,(rd cA j.Race.au.ar.length 2 (List.zipWith ay.cells j.Race.au.ar az)).ro,(dL (br ay.gn j.Race.au.ar az)).ro,(rd bA j.Race.au.ab.length 4 (j.Race.au.ab.map bI.cells)).ro,(rd slA j.Race.bj.length 1 (j.Race.bj.map iC)).ro,(rd drA j.Race.cq.length 1 (j.Race.cq.map iC)).ro,(rd heA j.Race.aH.length 1 (List.zipWith de j.Race.aH ha)).ro,(dL (br eY j.Race.aH ha)).ro,(rd faA j.aI.length 4 (j.aI.map aS.cells)).ro,(rd prA j.ax.length 5 (j.ax.map aZ.cells)).ro,(rd sgA d.bw.aa.length 2 (d.bw.aa.map aF.cells)).ro] [] kr (aP [0,1,2,3,4,5,6,7,8,9,10,11,12,13,14]) (aP [])<|eS U (LW 3 U cb U U)<|eS U (FA 4 U fE U)<|eS U (LP (cN.cells (jf d.bw sgA sgC)) 1 U cb U U U)<|eS U (MV U)<|eS U (CL (lD j kA kC az cA cC bA bC slA slC drA drC ha heA heC faA faC prA prC d.bw sgA sgC fw hin hsl) (bq [4,5,6,7,8,9,10,11,12,13,14]) U)<|eS U (LW 3 U cb U U)<|eS U (FA 4 U fE U)<|eS U (LP (cN.cells (jf d.bw sgA sgC)) 1 U cb U U U)<|eS U (MV U)<|eS U (CL (lD j kA kC az cA cC bA bC slA slC drA drC ha heA heC faA faC prA prC d.bw sgA sgC fw hin hsl) (bq [4,5,6,7,8,9,10,11,12,13,14]) U)<|ep U<|mz [10,11] kr (iy ?_<|iy ?_<|pX)
 rotate_left 1
 ·refine NO U U [10,12,13] fun T14 P=>AL U oa fun Y=>RD P 1 U<|N1 10<|NO U U [12,13] fun T16 R=>AL U oa fun Z=>RD R 2 U<|N1 12<|NO U U [13] fun T18 S=>fu U mg U<|RD S 2 U<|N1 13<|NO U U [] fun T19 T=>rL U mg U<|RD T 2 U<|lx<|KK AA<|aj fun _ F=>aB<|WS fun _ E=>rP 3 [] (mc 0 U I) ?_
  refine bU (t:=40) U (fun C=>?_) (fun C=>?_)
  ·refine bE 16 U<|RK E<|aQ U<|WS fun _ J=>rP 1 [] I ?_
   refine RK J<|ak<|Q1 hQ U U U ?_
   (rw [jz rfl A]; (rw [gL (.inl C)]; done))
  refine rP 8 [0,1] (mc 0 U (mc 4 U I)) ?_
  refine bU (t:=48) U (aU fun D=>?_) (aT fun D=>?_)
  ·refine bE 8 U<|RK E<|aQ U<|WS fun _ K=>rP 1 [] I ?_
   refine RK K<|ak<|Q1 hQ U U U ?_
   (rw [jz rfl A]; (rw [gL (.inr (.inl D))]; done))
  refine rP 8 [0,1] (mc 1 U (mc 4 U I)) ?_
  refine RK E<|cu U (aU fun B=>?_) (aT fun B=>?_)
  ·refine WS fun _ L=>rP 1 [] I ?_
   refine RK L<|ak<|Q1 hQ U U U ?_
   (rw [jz rfl A]; (rw [gL (.inr (.inr B))]; done))
  refine WS fun _ G=>rP 3 [] (mc 0 U I) ?_
  refine ck (t:=59) U (fun AB=>?_) (fun AB=>?_)
  ·refine bE 8 U<|RK G<|cg U<|cf<|aL<|KK F<|WS fun _ O=>rP 1 [] I ?_
   refine RK O<|ak<|Q1 hQ U U U ?_
   (rw [jz rfl A]; (rw [jA (Ac (by simpa using C) (by first|exact D|(simp only []; omega)) (by first|exact B|(simp only []; omega))) (fun q=>by rw [AB] at q; exact Bool.noConfusion q.1)]; done))
  refine eN 5 [0,1,2,3] (mc 2 U (mc 4 U (mc 0 U (mc 1 U I)))) U<|rS (CL (E2 3 fw ff ft ((cL j.Race.au d.bw fw).Lo) ((cL j.Race.au d.bw fw).Hi) ((cL j.Race.au d.bw fw).each) ((cL j.Race.au d.bw fw).never) ((cL j.Race.au d.bw fw).Lo) ((cL j.Race.au d.bw fw).Hi) ((cL j.Race.au d.bw fw).each) ((cL j.Race.au d.bw fw).never)) (aM) U)<|rP 2 [] I ?_
  refine RK G<|cu U (aU fun H=>?_) (aT fun H=>?_)
  ·refine WS fun _ M=>rP 1 [] I ?_
   refine RK M<|ak<|Q1 hQ U U U ?_
   (rw [jz rfl A]; (rw [o4 (Ac (by simpa using C) (by first|exact D|(simp only []; omega)) (by first|exact B|(simp only []; omega))) AB ((z5 rfl).2 H)]; done))
  refine cf<|aL<|KK F<|WS fun _ N=>rP 1 [] I ?_
  refine RK N<|ak<|Q1 hQ U U U ?_
  (rw [jz rfl A]; (rw [jA (Ac (by simpa using C) (by first|exact D|(simp only []; omega)) (by first|exact B|(simp only []; omega))) (fun q=>H ((z5 rfl).1 q.2))]; done))
 refine NO U U [11,12,13] fun T14 P=>AL U oa fun Y=>RD P 1 U<|N1 11<|NO U U [12,13] fun T16 R=>AL U oa fun Z=>RD R 2 U<|N1 12<|NO U U [13] fun T18 S=>rL U mg U<|RD S 2 U<|N1 13<|NO U U [] fun T19 T=>fu U mg U<|RD T 2 U<|lx<|KK AA<|aj fun _ F=>aB<|WS fun _ E=>rP 3 [] (mc 1 U I) ?_
 refine bU (t:=40) U (fun C=>?_) (fun C=>?_)
 ·refine bE 16 U<|RK E<|aQ U<|WS fun _ J=>rP 1 [] I ?_
  refine RK J<|ak<|Q1 hQ U U U ?_
  (rw [jz rfl A]; (rw [gL (.inl C)]; done))
 refine rP 8 [0,1] (mc 1 U (mc 4 U I)) ?_
 refine bU (t:=48) U (aU fun D=>?_) (aT fun D=>?_)
 ·refine bE 8 U<|RK E<|aQ U<|WS fun _ K=>rP 1 [] I ?_
  refine RK K<|ak<|Q1 hQ U U U ?_
  (rw [jz rfl A]; (rw [gL (.inr (.inl D))]; done))
 refine rP 8 [0,1] (mc 0 U (mc 4 U I)) ?_
 refine RK E<|cu U (aU fun B=>?_) (aT fun B=>?_)
 ·refine WS fun _ L=>rP 1 [] I ?_
  refine RK L<|ak<|Q1 hQ U U U ?_
  (rw [jz rfl A]; (rw [gL (.inr (.inr B))]; done))
 refine WS fun _ G=>rP 3 [] (mc 1 U I) ?_
 refine ck (t:=59) U (fun AB=>?_) (fun AB=>?_)
 ·refine bE 8 U<|RK G<|cg U<|cf<|aL<|KK F<|WS fun _ O=>rP 1 [] I ?_
  refine RK O<|ak<|Q1 hQ U U U ?_
  (rw [jz rfl A]; (rw [jA (Ac (by simpa using C) (by first|exact D|(simp only []; omega)) (by first|exact B|(simp only []; omega))) (fun q=>by rw [AB] at q; exact Bool.noConfusion q.1)]; done))
 refine eN 5 [0,1,2,3] (mc 2 U (mc 4 U (mc 1 U (mc 0 U I)))) U<|rS (CL (E2 3 fw ff ft ((cL j.Race.au d.bw fw).Lo) ((cL j.Race.au d.bw fw).Hi) ((cL j.Race.au d.bw fw).each) ((cL j.Race.au d.bw fw).never) ((cL j.Race.au d.bw fw).Lo) ((cL j.Race.au d.bw fw).Hi) ((cL j.Race.au d.bw fw).each) ((cL j.Race.au d.bw fw).never)) (aM) U)<|rP 2 [] I ?_
 refine RK G<|cu U (aU fun H=>?_) (aT fun H=>?_)
 ·refine WS fun _ M=>rP 1 [] I ?_
  refine RK M<|ak<|Q1 hQ U U U ?_
  (rw [jz rfl A]; (rw [o4 (Ac (by simpa using C) (by first|exact D|(simp only []; omega)) (by first|exact B|(simp only []; omega))) AB ((z5 rfl).2 H)]; done))
 refine cf<|aL<|KK F<|WS fun _ N=>rP 1 [] I ?_
 refine RK N<|ak<|Q1 hQ U U U ?_
 (rw [jz rfl A]; (rw [jA (Ac (by simpa using C) (by first|exact D|(simp only []; omega)) (by first|exact B|(simp only []; omega))) (fun q=>H ((z5 rfl).1 q.2))]; done))
theorem zA (j:cH) (kA:OA) (kC:Nat) (az:List RA) (cA:OA) (cC:Nat) (bA:OA) (bC:Nat) (slA:OA) (slC:Nat) (drA:OA) (drC:Nat) (ha:List dG) (heA:OA) (heC:Nat) (faA:OA) (faC:Nat) (prA:OA) (prC:Nat) (f:aS) (d:aw) (sgA:OA) (sgC:Nat) (hin:gZ j az ha) (hk:1≤f.Kind∧f.Kind≤3) (hw:0≤f.g9∧f.g9≤1000000) (hsl:d.bw.aa.length≤1000000):
 dx Tryz.prog 34 [(vA (cU.cells (cU.mk (nN j kA kC cA cC bA bC slA slC drA drC heA heC faA faC prA prC)))),(vA (aS.cells f)),(vA (aO.cells (aO.mk d.Out d.c_ d.Time (jf d.bw sgA sgC))))] [(rd kA j.Race.au.aV.length 9 (j.Race.au.aV.map ao.cells)),(rd cA j.Race.au.ar.length 2 (List.zipWith ay.cells j.Race.au.ar az)),(dL (br ay.gn j.Race.au.ar az)),(rd bA j.Race.au.ab.length 4 (j.Race.au.ab.map bI.cells)),(rd slA j.Race.bj.length 1 (j.Race.bj.map iC)),(rd drA j.Race.cq.length 1 (j.Race.cq.map iC)),(rd heA j.Race.aH.length 1 (List.zipWith de j.Race.aH ha)),(dL (br eY j.Race.aH ha)),(rd faA j.aI.length 4 (j.aI.map aS.cells)),(rd prA j.ax.length 5 (j.ax.map aZ.cells)),(rd sgA d.bw.aa.length 2 (d.bw.aa.map aF.cells))] (Value.int .u8 (fK j.Race.au f d)):=by
 obtain ⟨fk,fw,ff,ft⟩:=f
 have A:fk=1∨fk=2∨fk=3:=by have:=hk; simp only at this; omega
 rcases A with rfl|rfl|rfl
 ·exact H4 j kA kC az cA cC bA bC slA slC drA drC ha heA heC faA faC prA prC fw ff ft d sgA sgC hin hw hsl
 ·exact It j kA kC az cA cC bA bC slA slC drA drC ha heA heC faA faC prA prC fw ff ft d sgA sgC hin hw hsl
 ·exact Hf j kA kC az cA cC bA bC slA slC drA drC ha heA heC faA faC prA prC fw ff ft d sgA sgC hin hw hsl
end
section
open Go.RowKit
theorem Jh (j:cH) (kA:OA) (kC:Nat) (az:List RA) (cA:OA) (cC:Nat) (bA:OA) (bC:Nat) (slA:OA) (slC:Nat) (drA:OA) (drC:Nat) (ha:List dG) (heA:OA) (heC:Nat) (faA:OA) (faC:Nat) (prA:OA) (prC:Nat) (p:aZ) (hin:gZ j az ha) (hok:dU j=0) (hp: ∃ i:Nat,j.ax[i]? =some p):
 dx Tryz.prog 35 [(vA (cU.cells (cU.mk (nN j kA kC cA cC bA bC slA slC drA drC heA heC faA faC prA prC)))),(vA (aZ.cells p))] [(rd kA j.Race.au.aV.length 9 (j.Race.au.aV.map ao.cells)),(rd cA j.Race.au.ar.length 2 (List.zipWith ay.cells j.Race.au.ar az)),(dL (br ay.gn j.Race.au.ar az)),(rd bA j.Race.au.ab.length 4 (j.Race.au.ab.map bI.cells)),(rd slA j.Race.bj.length 1 (j.Race.bj.map iC)),(rd drA j.Race.cq.length 1 (j.Race.cq.map iC)),(rd heA j.Race.aH.length 1 (List.zipWith de j.Race.aH ha)),(dL (br eY j.Race.aH ha)),(rd faA j.aI.length 4 (j.aI.map aS.cells)),(rd prA j.ax.length 5 (j.ax.map aZ.cells))] (Value.int .u8 (lz j p)):=by
 have S:=hin.race
 have e:=hin.race.line
 have s:=hin.race.iX
 have t:=hin.race.has
 have q:=hin.race.iW
 have k:=hin.nf
 have o:=hin.np
 have R:=(eH hok).1
 have P:=(eH hok).2
 have c:=(eQ R).1
 have h:=(eQ R).2
 have a:=(dK c).2.head
 unfold eL at a
 obtain ⟨pi,f⟩:=hp
 have G:=P.gO pi p f
 have x:=G.gj
 have g:=G.kM
 simp only [qf] at g
 have w:=G.fault
 have u:=P.min_
 refine bB kr Tryz.func35 U U fun w0 Q hQ hN=>?_
 try dsimp only
 refine WS fun _ T=>er U fun z=>er U fun b3=>rP 1 [] I ?_
 refine RK T<|aj fun _ AA=>dH cp [20,21] [] [] [0,1,2,3,4,5,6,7,8,9,10,11] [] U U U U U<|eS U (LW 1 U cb U U)<|eS U (FA 0 U fE U)<|eS U (FA 0 U fE U)<|eS U (FA 10 U fE U)<|eS U (L1 (vS heA j.Race.aH.length heC) 1 U cb U U)<|eS U (FA 2 U fE U)<|eS U (L1 (vI p.iu) 0 U cb U U) ?_
 obtain ⟨ht,C⟩:=aJ j.Race.aH ((p.iu).toNat) om
 obtain ⟨A,B⟩:=aJ ha ((p.iu).toNat) om
 have O:(List.zipWith de j.Race.aH ha)[(p.iu).toNat]? =some (de ht A):=dC C B
 refine eS U (IA ((p.iu).toNat) U (aA 8 U) rK dc om om)<|eS U (hG ((p.iu).toNat) 0 (vS A.1.1 ht.length A.1.2) U cb (aA 8 U) O U dc U)<|eS U (FA 1 U fE U)<|eS U (L1 (vI p.hP) 0 U cb U U) ?_
 have N:=S.gj _ _ _ C B
 have m:=N.ot
 have n:=(h.gj ht (aR C)).1
 obtain ⟨d,hd⟩:=aJ ht ((p.hP).toNat) om
 obtain ⟨da,M⟩:=aJ A.2 ((p.hP).toNat) om
 have Z:(List.zipWith aw.cells ht A.2)[(p.hP).toNat]? =some (aw.cells d da):=dC hd M
 refine eS U (IA ((p.hP).toNat) U (show iN _ (rd A.1.1 ht.length 7 (List.zipWith aw.cells ht A.2)).holds from (cR 9 U (bM C B ct))) s8 dc om om)<|eS U (qc ((((p.hP).toNat)*7)+4) U (show iN _ (rd A.1.1 ht.length 7 (List.zipWith aw.cells ht A.2)).holds from (cR 9 U (bM C B ct))) (Nat.mul_pos om dc) fE U) ?_
 have D:=oG (j:=j) (p:=p) C hd
 have y:=N.sig d (aR hd)
 have v:=KF (l:=j.Race.au) (r:=d.bw) (b:=j.Race.au.cD) om
 refine eS U (lh ((p.hP).toNat) 4 (cN.cells (cN.mk d.bw.Start d.bw.fJ (bH.mk da.1 d.bw.aa.length da.2))) U cb (show iN _ (rd A.1.1 ht.length 7 (List.zipWith aw.cells ht A.2)).holds from (cR 9 U (bM C B ct))) Z U dc U U)<|eS U (FA 0 U fE U)<|eS U (FA 0 U fE U)<|eS U (FA 0 U fE U)<|eS U (FA 4 U fE U)<|eS U (L1 (vI j.Race.au.cD) 1 U cb U U)<|eS U (CL (lD j kA kC az cA cC bA bC slA slC drA drC ha heA heC faA faC prA prC d.bw da.1 da.2 j.Race.au.cD hin asm) (ox [2,3,4,5,6,7,8,9,10,11]<|aK (show iN _ (rd da.1 d.bw.aa.length 2 (d.bw.aa.map aF.cells)).holds from (cR 9 U (bM C B (dJ _ (bM hd M (by simp [aw.gn]))))))<|aM) U)<|ep U<|cj U fun T5 X=>AL U oa fun b6=>aD (X _ _ (aP [1,2,3,4,5,6,7,8,9,10,11,12]) ?_)
 refine cj U fun T7 Y=>fu U mg U<|aD (Y _ _ (aP [1,2,3,4,5,6,7,8,9,10,11,12]) ?_)
 refine fH U<|KK AA<|WS fun _ V=>eN 3 [] (mc 2 U I) U<|rS (BI U (tn ⟨om,om⟩))<|bE 1 U<|RK V<|aj fun _ W=>aB<|WS fun _ H=>rP 9 [0,1] (mc 1 U (mc 0 U I)) ?_
 refine RK H<|cu U (aU fun E=>?_) (aT fun E=>?_)
 ·refine WS fun _ AB=>rP 1 [] I ?_
  refine RK AB<|ak<|Q1 hQ U U U ?_
  (rw [O4 D E]; done)
 refine WS fun _ J=>rP 9 [0,1] (mc 1 U (mc 0 U I)) ?_
 refine RK J<|cu U (aU fun F=>?_) (aT fun F=>?_)
 ·refine WS fun _ K=>rP 1 [] I ?_
  refine RK K<|ak<|Q1 hQ U U U ?_
  (rw [Oh D E F]; done)
 refine cf<|aL<|KK W<|WS fun _ L=>rP 1 [] I ?_
 refine RK L<|ak<|Q1 hQ U U U ?_
 (rw [PA D E F]; done)
theorem uI (j:cH) (kA:OA) (kC:Nat) (az:List RA) (cA:OA) (cC:Nat) (bA:OA) (bC:Nat) (slA:OA) (slC:Nat) (drA:OA) (drC:Nat) (ha:List dG) (heA:OA) (heC:Nat) (faA:OA) (faC:Nat) (prA:OA) (prC:Nat) (i:Int) (p:aZ) (hin:gZ j az ha) (hok:dU j=0) (hp: ∃ i:Nat,j.ax[i]? =some p):
 dx Tryz.prog 31 [(vA (cU.cells (cU.mk (nN j kA kC cA cC bA bC slA slC drA drC heA heC faA faC prA prC)))),(vI i),(vA (aZ.cells p))] [(rd kA j.Race.au.aV.length 9 (j.Race.au.aV.map ao.cells)),(rd cA j.Race.au.ar.length 2 (List.zipWith ay.cells j.Race.au.ar az)),(dL (br ay.gn j.Race.au.ar az)),(rd bA j.Race.au.ab.length 4 (j.Race.au.ab.map bI.cells)),(rd slA j.Race.bj.length 1 (j.Race.bj.map iC)),(rd drA j.Race.cq.length 1 (j.Race.cq.map iC)),(rd heA j.Race.aH.length 1 (List.zipWith de j.Race.aH ha)),(dL (br eY j.Race.aH ha)),(rd faA j.aI.length 4 (j.aI.map aS.cells)),(rd prA j.ax.length 5 (j.ax.map aZ.cells))] (vB (eI j p)):=by
 have O:=hin.race
 have V:=hin.race.line
 have h:=hin.race.iX
 have k:=hin.race.has
 have c:=hin.race.iW
 have Y:=hin.nf
 have b:=hin.np
 have M:=(eH hok).1
 have E:=(eH hok).2
 have AA:=(eQ M).1
 have X:=(eQ M).2
 have T:=(dK AA).2.head
 unfold eL at T
 obtain ⟨pi,N⟩:=hp
 have F:=E.gO pi p N
 have n:=F.gj
 have W:=F.kM
 simp only [qf] at W
 have m:=F.fault
 have l:=E.min_
 refine bB kr Tryz.func31 U U fun u Q hQ hN=>?_
 try dsimp only
 refine WS fun _ P=>er U fun r=>er U fun s=>bE 1 U<|RK P<|aj fun _ G=>dg cp 29 kr<|lu 2 [0,1] (mc 1 U (mc 0 U I)) U<|dS (CL (Jh j kA kC az cA cC bA bC slA slC drA drC ha heA heC faA faC prA prC p hin hok (by exact ⟨pi,N⟩)) (bq [2,3,4,5,6,7,8,9,10,11]) U)<|dS (BI U pT)<|dP 1 [] I ?_
 refine js (t:=11) U (bo fun D=>?_) (bp fun D=>?_)
 ·refine kI 17 U<|kI 2 U<|dP 5 [] I ?_
  refine cE<|RK G<|ak<|Q1 hQ U U U ?_
  (rw [IU D]; done)
 refine dP 6 [0,0,1] (mc 1 U (mc 0 U I)) ?_
 obtain ⟨f,hf⟩:=aJ j.aI ((p.fZ).toNat) om
 have S:=bK aS.cells hf
 refine dS (IA ((p.fZ).toNat) U (aA 10 U) Ar dc om om)<|dS (lh ((p.fZ).toNat) 0 (aS.cells f) U cb (aA 10 U) S U dc U U)<|dP 6 [0,1] (mc 1 U (mc 0 U I)) ?_
 obtain ⟨ht,C⟩:=aJ j.Race.aH ((p.iu).toNat) om
 obtain ⟨A,B⟩:=aJ ha ((p.iu).toNat) om
 have L:(List.zipWith de j.Race.aH ha)[(p.iu).toNat]? =some (de ht A):=dC C B
 refine dS (IA ((p.iu).toNat) U (aA 8 U) rK dc om om)<|dS (hG ((p.iu).toNat) 0 (vS A.1.1 ht.length A.1.2) U cb (aA 8 U) L U dc U)<|dP 1 [] I ?_
 have K:=O.gj _ _ _ C B
 have Z:=K.ot
 have a:=(X.gj ht (aR C)).1
 refine dP 1 [] (mc 0 U I) ?_
 obtain ⟨d,hd⟩:=aJ ht ((p.hP).toNat) om
 obtain ⟨da,AB⟩:=aJ A.2 ((p.hP).toNat) om
 have R:(List.zipWith aw.cells ht A.2)[(p.hP).toNat]? =some (aw.cells d da):=dC hd AB
 refine dS (IA ((p.hP).toNat) U (show iN _ (rd A.1.1 ht.length 7 (List.zipWith aw.cells ht A.2)).holds from (cR 9 U (bM C B ct))) s8 dc om om) ?_
 have H:=oG (j:=j) (p:=p) C hd
 have o:=K.sig d (aR hd)
 have J:=E.fault f (aR hf)
 have g:0≤f.g9∧f.g9≤1000000:=by have e:=J.2.2; split at e<;>omega
 refine dS (lh ((p.hP).toNat) 0 (aO.cells (aO.mk d.Out d.c_ d.Time (cN.mk d.bw.Start d.bw.fJ (bH.mk da.1 d.bw.aa.length da.2)))) U cb (show iN _ (rd A.1.1 ht.length 7 (List.zipWith aw.cells ht A.2)).holds from (cR 9 U (bM C B ct))) R U dc U U)<|dS (CL (zA j kA kC az cA cC bA bC slA slC drA drC ha heA heC faA faC prA prC f d da.1 da.2 hin (by exact J.1) asm asm) (ox [2,3,4,5,6,7,8,9,10,11]<|aK (show iN _ (rd da.1 d.bw.aa.length 2 (d.bw.aa.map aF.cells)).holds from (cR 9 U (bM C B (dJ _ (bM hd AB (by simp [aw.gn]))))))<|aM) U)<|dS (BI U pT)<|dP 2 [] I ?_
 refine cE<|RK G<|ak<|Q1 hQ U U U ?_
 (rw [Kg H hf (fun q=>D q)]; done)
end
section
open Go.RowKit
theorem H6 (n lo hi:Int) (g1 g2:Nat):
 dx Tryz.prog 147 [(vI n),(vP g1),(vP g2)] [(cm g1 3 [(vI lo)]),(cm g2 3 [(vI hi)])] (vB (decide (n<lo∨hi<n))):=by
 refine bB kr Tryz.func147 U U fun D Q hQ hN=>?_
 try dsimp only
 refine WS fun _ B=>bE 1 U<|RK B<|WS fun _ A=>rP 4 [] (mr 0 U I) ?_
 refine bU (t:=8) U (aU fun C=>?_) (aT fun C=>?_)
 ·refine rP 5 [] I ?_
  refine RK A<|ak<|Q1 hQ U U U ?_
  exact cB (dq om).symm
 refine rP 5 [] (mr 1 U I) ?_
 refine RK A<|ak<|Q1 hQ U U U ?_
 exact cB (gv.2 om)
theorem sO (lo hi:Int) (l:List Int) (lA:OA) (lC:Nat) (hlen:l.length≤1000000):
 dx Tryz.prog 126 [(vI lo),(vI hi),(vS lA l.length lC)] [(rd lA l.length 1 (l.map iC))] (vB (pW lo hi l)):=by
 refine bB kr Tryz.func126 U U fun F Q hQ hN=>?_
 try dsimp only
 refine WS fun _ D=>vR U U fun A=>vR U U fun B=>bE 1 U<|RK D<|WS fun _ E=>rP 1 [] I ?_
 refine rS (FU U) ?_
 refine rS (CL (pL l lA lC (Value.func (.func 147) [].toArray [(vP A),(vP B)].toArray) (fun C=>(decide (C<lo∨hi<C))) (dL [(cm A 3 [(vI lo)]),(cm B 3 [(vI hi)])]) (by intro C _; exact kG (fi:=[]) (ca:=[(vP A),(vP B)]) (jJ (H6 C lo hi A B) (bq [0,1]))) hlen) (gT 2 U U<|aK (jF (bq [1,0]))<|aM) U) ?_
 refine rP 2 [] I ?_
 refine RK E<|ak ?_
 exact Q1 hQ U U U U
theorem Mi (s:ag):
 dx Tryz.prog 210 [(vA (ag.cells s))] [] (vB (decide (lE s))):=by
 refine bB kr Tryz.func210 U U fun F Q hQ hN=>?_
 try dsimp only
 refine WS fun _ B=>er U fun E=>bE 1 U<|RK B<|WS fun _ A=>rP 4 [] (mc 0 U I) ?_
 refine dZ (xs:=[.tmp 4,.tmp 6]) (cs:=[(vI s.Lo),(vI s.Hi)]) U dp j5 U U U U (by simp [Value.cells]) U U fun C=>?_
 refine rS (CL (dx.eq (sO 1 600000 ([s.Lo,s.Hi]) (some ⟨C,0,none⟩) 2 (by (simp; done))) oS) (aK (bk 0 U U (by simp [bJ]) U)<|aM) U) ?_
 refine rP 1 [] I ?_
 refine ck (t:=9) U (aT fun D=>?_) (aU fun D=>?_)
 ·refine rP 7 [] I ?_
  refine RK A<|ak<|Q1 hQ U U U ?_
  simp only [lE]
  exact cB (bD om).symm
 refine rP 7 [] (mc 1 U I) ?_
 refine RK A<|ak<|Q1 hQ U U U ?_
 simp only [lE]
 exact cB (gv.2 om)
theorem IW (d:aw) (sgA:OA) (sgC:Nat):
 dx Tryz.prog 207 [(vA (aO.cells (aO.mk d.Out d.c_ d.Time (jf d.bw sgA sgC))))] [(rd sgA d.bw.aa.length 2 (d.bw.aa.map aF.cells))] (vB (decide (mC d.bw))):=by
 refine bB kr Tryz.func207 U U fun F Q hQ hN=>?_
 try dsimp only
 refine WS fun _ B=>er U fun E=>bE 1 U<|RK B<|WS fun _ A=>rP 5 [] (mc 0 U I) ?_
 refine ck (t:=7) U (aT fun C=>?_) (aU fun C=>?_)
 ·refine rP 13 [] I ?_
  refine RK A<|ak<|Q1 hQ U U U ?_
  simp only [mC]
  exact cB (bD om).symm
 refine rP 6 [] (mc 0 U I) ?_
 refine ck (t:=13) U (aT fun D=>?_) (aU fun D=>?_)
 ·refine rP 7 [] I ?_
  refine RK A<|ak<|Q1 hQ U U U ?_
  simp only [mC]
  exact cB (bD om).symm
 refine rP 7 [] (mc 0 U I) ?_
 refine RK A<|ak<|Q1 hQ U U U ?_
 simp only [mC]
 exact cB (gv.2 om)
theorem RY (d:aw) (sgA:OA) (sgC:Nat):
 dx Tryz.prog 205 [(vA (aO.cells (aO.mk d.Out d.c_ d.Time (jf d.bw sgA sgC))))] [(rd sgA d.bw.aa.length 2 (d.bw.aa.map aF.cells))] (vB d.Out):=by
 refine bB kr Tryz.func205 U U fun D Q hQ hN=>?_
 try dsimp only
 refine WS fun _ A=>er U fun C=>bE 1 U<|RK A<|WS fun _ B=>rP 3 [] (mc 0 U I) ?_
 refine RK B<|ak<|Q1 hQ U U U ?_
 rfl
theorem Qe (d:aw) (sgA:OA) (sgC:Nat):
 dx Tryz.prog 208 [(vA (aO.cells (aO.mk d.Out d.c_ d.Time (jf d.bw sgA sgC))))] [(rd sgA d.bw.aa.length 2 (d.bw.aa.map aF.cells))] (vB d.c_):=by
 refine bB kr Tryz.func208 U U fun D Q hQ hN=>?_
 try dsimp only
 refine WS fun _ A=>er U fun C=>bE 1 U<|RK A<|WS fun _ B=>rP 3 [] (mc 0 U I) ?_
 refine RK B<|ak<|Q1 hQ U U U ?_
 rfl
theorem QN (d:aw) (sgA:OA) (sgC:Nat):
 dx Tryz.prog 211 [(vA (aO.cells (aO.mk d.Out d.c_ d.Time (jf d.bw sgA sgC))))] [(rd sgA d.bw.aa.length 2 (d.bw.aa.map aF.cells))] (vB true):=by
 refine bB kr Tryz.func211 U U fun D Q hQ hN=>?_
 try dsimp only
 refine WS fun _ A=>er U fun C=>bE 1 U<|RK A<|WS fun _ B=>rP 1 [] I ?_
 refine RK B<|ak<|Q1 hQ U U U ?_
 rfl
end
section
open Go.RowKit
theorem LK (l:bg) (kA:OA) (kC:Nat) (az:List RA) (cA:OA) (cC:Nat) (bA:OA) (bC:Nat) (d:aw) (sgA:OA) (sgC:Nat) (hin:eo l az):
 dx Tryz.prog 206 [(vA (cV.cells (jN l kA kC cA cC bA bC))),(vA (aO.cells (aO.mk d.Out d.c_ d.Time (jf d.bw sgA sgC))))] [(rd kA l.aV.length 9 (l.aV.map ao.cells)),(rd cA l.ar.length 2 (List.zipWith ay.cells l.ar az)),(dL (br ay.gn l.ar az)),(rd bA l.ab.length 4 (l.ab.map bI.cells)),(rd sgA d.bw.aa.length 2 (d.bw.aa.map aF.cells))] (vT [(vA (ag.cells d.Time)),(vB (decide (d.c_=false∧d.Time=gF∧mC d.bw)))]):=by
 refine bB kr Tryz.func206 U U fun K Q hQ hN=>?_
 try dsimp only
 refine WS fun _ B=>er U fun H=>er U fun AA=>AL U dN fun J=>rP 1 [] I ?_
 refine RK B<|aj fun _ A=>dH cp [15] [] [] [1,2,3,4,5,6,7] [] U U U U U<|eS U (FA 2 U fE U)<|eS U (LP (ag.cells d.Time) 0 U cb U U U)<|eS U (FA 1 U fE U)<|eS U (L1 (vB d.c_) 0 U cb U U)<|eS U (NT U)<|eS U (MV U)<|rn (t:=11) U (fun G=>?_) (fun G=>?_)
 rotate_left 1
 ·rw [Bool.not_eq_false'] at G
  refine eS U (OX U)<|eS U (OX U)<|eS U (OX U)<|eS U (OX U)<|eS U (PK U)<|eS U (MV U)<|eS U (OX U)<|eS U (OX U)<|eS U (PK U)<|eS U (AG U)<|ep U<|cj U fun T10 C=>fu U cS U<|aD (C _ _ (aP [1,2,3,4,5,6,7]) ?_)
  refine fH U<|KK A<|ak<|my hQ [0] (mc 0 U I) U ?_
  clear hQ hN C T10 A B
  refine congrArg (fun z=>Value.tuple #[_,vB z]) ?_
  first|rfl|(simp_all [gF]; done)
 rw [Bool.not_eq_true'] at G
 refine eS U (FA 2 U fE U)<|eS U (LP (ag.cells d.Time) 0 U cb U U U)<|eS U (SX (a_ (xs:=[]) (cs:=(ag.cells (ag.mk 0 0))) U U (bf gM U)) U U)<|eS U (BI U (xy _ _ d.Time (ag.mk 0 0)))<|eS U (PK U)<|eS U (MV U)<|rn (t:=17) U (fun D=>?_) (fun D=>?_)
 rotate_left 1
 ·replace D:=DF D
  refine eS U (OX U)<|eS U (OX U)<|eS U (PK U)<|eS U (AG U)<|ep U<|cj U fun T9 F=>fu U cS U<|aD (F _ _ (aP [1,2,3,4,5,6,7]) ?_)
  refine fH U<|KK A<|ak<|my hQ [0] (mc 0 U I) U ?_
  clear hQ hN F T9 A B
  refine congrArg (fun z=>Value.tuple #[_,vB z]) ?_
  first|rfl|(simp_all [gF]; done)
 replace D:=DT D
 refine eS U (LW 0 U cb U U)<|eS U (CL (IW d sgA sgC) (bq [6]) U)<|eS U (PK U)<|eS U (AG U)<|ep U<|cj U fun T8 E=>fu U cS U<|aD (E _ _ (aP [1,2,3,4,5,6,7]) ?_)
 refine fH U<|KK A<|ak<|my hQ [0] (mc 0 U I) U ?_
 clear hQ hN E T8 A B
 refine congrArg (fun z=>Value.tuple #[_,vB z]) ?_
 first|rfl|(simp_all [gF]; done)
theorem L4 (l:bg) (kA:OA) (kC:Nat) (az:List RA) (cA:OA) (cC:Nat) (bA:OA) (bC:Nat) (d:aw) (sgA:OA) (sgC:Nat) (hin:eo l az):
 dx Tryz.prog 209 [(vA (cV.cells (jN l kA kC cA cC bA bC))),(vA (aO.cells (aO.mk d.Out d.c_ d.Time (jf d.bw sgA sgC))))] [(rd kA l.aV.length 9 (l.aV.map ao.cells)),(rd cA l.ar.length 2 (List.zipWith ay.cells l.ar az)),(dL (br ay.gn l.ar az)),(rd bA l.ab.length 4 (l.ab.map bI.cells)),(rd sgA d.bw.aa.length 2 (d.bw.aa.map aF.cells))] (vT [(vA (ag.cells d.Time)),(vB (decide (lE d.Time∧mC d.bw)))]):=by
 refine bB kr Tryz.func209 U U fun AA Q hQ hN=>?_
 try dsimp only
 refine WS fun _ B=>er U fun F=>er U fun G=>AL U dN fun H=>rP 1 [] I ?_
 refine RK B<|aj fun _ A=>dH cp [9] [] [] [1,2,3,4,5,6,7] [] U U U U U<|eS U (FA 2 U fE U)<|eS U (LP (ag.cells d.Time) 0 U cb U U U)<|eS U (FA 2 U fE U)<|eS U (LP (ag.cells d.Time) 0 U cb U U U)<|eS U (CL (Mi d.Time) (aM) U)<|eS U (MV U)<|rn (t:=11) U (fun C=>?_) (fun C=>?_)
 rotate_left 1
 ·replace C:=DF C
  refine eS U (OX U)<|eS U (OX U)<|eS U (PK U)<|eS U (AG U)<|ep U<|cj U fun T8 E=>fu U cS U<|aD (E _ _ (aP [1,2,3,4,5,6,7]) ?_)
  refine fH U<|KK A<|ak<|my hQ [0] (mc 0 U I) U ?_
  clear hQ hN E T8 A B
  refine congrArg (fun z=>Value.tuple #[_,vB z]) ?_
  first|rfl|(simp_all; done)
 replace C:=DT C
 refine eS U (LW 0 U cb U U)<|eS U (CL (IW d sgA sgC) (bq [6]) U)<|eS U (PK U)<|eS U (AG U)<|ep U<|cj U fun T7 D=>fu U cS U<|aD (D _ _ (aP [1,2,3,4,5,6,7]) ?_)
 refine fH U<|KK A<|ak<|my hQ [0] (mc 0 U I) U ?_
 clear hQ hN D T7 A B
 refine congrArg (fun z=>Value.tuple #[_,vB z]) ?_
 first|rfl|(simp_all; done)
theorem Lg (l:bg) (kA:OA) (kC:Nat) (az:List RA) (cA:OA) (cC:Nat) (bA:OA) (bC:Nat) (d:aw) (sgA:OA) (sgC:Nat) (hin:eo l az) (hsl:d.bw.aa.length≤1000000):
 dx Tryz.prog 212 [(vA (cV.cells (jN l kA kC cA cC bA bC))),(vA (aO.cells (aO.mk d.Out d.c_ d.Time (jf d.bw sgA sgC))))] [(rd kA l.aV.length 9 (l.aV.map ao.cells)),(rd cA l.ar.length 2 (List.zipWith ay.cells l.ar az)),(dL (br ay.gn l.ar az)),(rd bA l.ab.length 4 (l.ab.map bI.cells)),(rd sgA d.bw.aa.length 2 (d.bw.aa.map aF.cells))] (vT [(vA (ag.cells (zd l d.bw))),(vB (decide (dI l d.bw l.cD=0∧d.Time=gF)))]):=by
 have K:=hin.sH
 have AA:=hin.sI
 have G:=hin.ot
 have H:=hin.sL
 have J:=hin.side
 refine bB kr Tryz.func212 U U fun P Q hQ hN=>?_
 try dsimp only
 refine WS fun _ C=>er U fun L=>er U fun M=>AL U dN fun N=>bE 1 U<|RK C<|WS fun _ D=>eN 2 [] (mc 2 U I) U<|rS (LP (cN.cells (jf d.bw sgA sgC)) 1 U cb U U U)<|rS (CL (QE l kA kC az cA cC bA bC d.bw sgA sgC hin hsl) (bq [3,4,5,6,7]) U)<|bE 3 U<|AL U dN fun O=>fu U cS U<|rP 1 [] I ?_
 refine RK D<|aj fun _ A=>dH cp [9] [] [] [0,2,3,4,5,6,7,8] [] U U U U U<|eS U (LW 0 U cb U U)<|eS U (MV U)<|eS U (BI U mF)<|eS U (MV U)<|rn (t:=18) U (fun E=>?_) (fun E=>?_)
 rotate_left 1
 ·replace E:=DF E
  refine eS U (OX U)<|eS U (OX U)<|eS U (OX U)<|eS U (OX U)<|eS U (PK U)<|eS U (AG U)<|ep U<|cj U fun T10 B=>rL U cS U<|aD (B _ _ (aP [0,2,3,4,5,6,7,8]) ?_)
  refine fH U<|KK A<|ak<|my hQ [0] (mc 1 U I) U ?_
  clear hQ hN B T10 A D C
  refine congrArg (fun z=>Value.tuple #[_,vB z]) ?_
  first|rfl|(simp_all [gF]; done)
 replace E:=DT E
 refine eS U (FA 2 U fE U)<|eS U (LP (ag.cells d.Time) 1 U cb U U U)<|eS U (SX (a_ (xs:=[]) (cs:=(ag.cells (ag.mk 0 0))) U U (bf gM U)) U U)<|eS U (BI U (xy _ _ d.Time (ag.mk 0 0)))<|eS U (PK U)<|eS U (AG U)<|ep U<|cj U fun T9 F=>rL U cS U<|aD (F _ _ (aP [0,2,3,4,5,6,7,8]) ?_)
 refine fH U<|KK A<|ak<|my hQ [0] (mc 1 U I) U ?_
 clear hQ hN F T9 A D C
 refine congrArg (fun z=>Value.tuple #[_,vB z]) ?_
 first|rfl|(simp_all [gF]; done)
theorem E_ (d:aw) (sgA:OA) (sgC g1:Nat):
 dx Tryz.prog 149 [(vA (mD.cells (mD.mk (Value.func (.func 205) [].toArray [].toArray) (Value.func (.func 206) [].toArray [].toArray)))),(vP g1)] [(rd sgA d.bw.aa.length 2 (d.bw.aa.map aF.cells)),(cm g1 58 (aO.cells (aO.mk d.Out d.c_ d.Time (jf d.bw sgA sgC))))] (vB d.Out):=by
 refine bB kr Tryz.func149 U U fun D Q hQ hN=>?_
 try dsimp only
 refine WS fun _ A=>er U fun C=>bE 1 U<|RK A<|WS fun _ B=>eN 3 [0,1] (mc 0 U (mr 2 U I)) U<|rS (CL (RY d sgA sgC) (bq [1]) U)<|rP 1 [] I ?_
 refine RK B<|ak<|Q1 hQ U U U ?_
 rfl
theorem Gc (d:aw) (sgA:OA) (sgC g1:Nat):
 dx Tryz.prog 149 [(vA (mD.cells (mD.mk (Value.func (.func 208) [].toArray [].toArray) (Value.func (.func 209) [].toArray [].toArray)))),(vP g1)] [(rd sgA d.bw.aa.length 2 (d.bw.aa.map aF.cells)),(cm g1 58 (aO.cells (aO.mk d.Out d.c_ d.Time (jf d.bw sgA sgC))))] (vB d.c_):=by
 refine bB kr Tryz.func149 U U fun D Q hQ hN=>?_
 try dsimp only
 refine WS fun _ A=>er U fun C=>bE 1 U<|RK A<|WS fun _ B=>eN 3 [0,1] (mc 0 U (mr 2 U I)) U<|rS (CL (Qe d sgA sgC) (bq [1]) U)<|rP 1 [] I ?_
 refine RK B<|ak<|Q1 hQ U U U ?_
 rfl
theorem Gd (d:aw) (sgA:OA) (sgC g1:Nat):
 dx Tryz.prog 149 [(vA (mD.cells (mD.mk (Value.func (.func 211) [].toArray [].toArray) (Value.func (.func 212) [].toArray [].toArray)))),(vP g1)] [(rd sgA d.bw.aa.length 2 (d.bw.aa.map aF.cells)),(cm g1 58 (aO.cells (aO.mk d.Out d.c_ d.Time (jf d.bw sgA sgC))))] (vB true):=by
 refine bB kr Tryz.func149 U U fun D Q hQ hN=>?_
 try dsimp only
 refine WS fun _ A=>er U fun C=>bE 1 U<|RK A<|WS fun _ B=>eN 3 [0,1] (mc 0 U (mr 2 U I)) U<|rS (CL (QN d sgA sgC) (bq [1]) U)<|rP 1 [] I ?_
 refine RK B<|ak<|Q1 hQ U U U ?_
 rfl
end
section
open Go.RowKit
theorem wV (d:aw) (sgA:OA) (sgC g1:Nat):
 dx Tryz.prog 148 [(vS gN 3 3),(Value.func (.func 149) [].toArray [(vP g1)].toArray)] [(rd gN 3 2 fF),(rd sgA d.bw.aa.length 2 (d.bw.aa.map aF.cells)),(cm g1 58 (aO.cells (aO.mk d.Out d.c_ d.Time (jf d.bw sgA sgC))))] (vI (oq d)):=by
 refine bB kr Tryz.func148 U U fun b Q hQ hN=>?_
 try dsimp only
 refine WS fun _ F=>bE 1 U<|RK F<|aj fun _ AA=>WS fun _ G=>bE 3 U<|RK G<|aB<|qo 4<|kz fun R4 Z=>WS fun _ H=>rS (SX (fV (r:= .bool true) U U U p7) U U)<|RK H<|aj fun _ AB=>aQ U<|WK AB<|aj fun _ J=>aB<|WS fun _ K=>bE 2 U<|RK K<|WS fun _ L=>rP 3 [] I ?_
 refine rS (IA 0 U (aA 0 U) JB dc U om)<|rS (lh 0 0 (mD.cells (mD.mk (Value.func (.func 205) [].toArray [].toArray) (Value.func (.func 206) [].toArray [].toArray))) U cb (aA 0 U) (show fF[0]? =some [(Value.func (.func 205) [].toArray [].toArray),(Value.func (.func 206) [].toArray [].toArray)] from U) U dc U U)<|rS (CL (E_ d sgA sgC g1) (bq [1,2]) U)<|RK L<|cu U (fun X=>?_) (fun X=>?_)
 ·refine WS fun _ M=>rP 2 [] I ?_
  refine RK M<|ak<|Q1 hQ U U U ?_
  clear hQ hN M L K J AB H G AA F
  refine cI ?_
  simp [oq, *]
 refine cf<|aL<|KK J<|aq<|rS (SX (fV (r:= .int .i64 1) U U U (n9 ⟨dc,dc⟩)) U U)<|bE 1 U<|RK Z<|kz fun R12 W=>WS fun _ A=>rS (SX (fV (r:= .bool true) U U U p7) U U)<|RK A<|aj fun _ B=>aQ U<|WK B<|aj fun _ C=>aB<|WS fun _ D=>bE 2 U<|RK D<|WS fun _ E=>rP 3 [] I ?_
 refine rS (IA 1 U (aA 0 U) JB dc U om)<|rS (lh 1 0 (mD.cells (mD.mk (Value.func (.func 208) [].toArray [].toArray) (Value.func (.func 209) [].toArray [].toArray))) U cb (aA 0 U) (show fF[1]? =some [(Value.func (.func 208) [].toArray [].toArray),(Value.func (.func 209) [].toArray [].toArray)] from U) U dc U U)<|rS (CL (Gc d sgA sgC g1) (bq [1,2]) U)<|RK E<|cu U (fun Y=>?_) (fun Y=>?_)
 ·refine WS fun _ N=>rP 2 [] I ?_
  refine RK N<|ak<|Q1 hQ U U U ?_
  clear hQ hN N E D C B A L K J AB H G AA F
  refine cI ?_
  simp [oq, *]
 refine cf<|aL<|KK C<|aq<|rS (SX (fV (r:= .int .i64 2) U U U (n9 ⟨dc,dc⟩)) U U)<|bE 1 U<|RK W<|kz fun R20 a=>WS fun _ O=>rS (SX (fV (r:= .bool true) U U U p7) U U)<|RK O<|aj fun _ P=>aQ U<|WK P<|aj fun _ V=>aB<|WS fun _ R=>bE 2 U<|RK R<|WS fun _ S=>bE 3 U<|rS (IA 2 U (aA 0 U) JB dc U om)<|rS (lh 2 0 (mD.cells (mD.mk (Value.func (.func 211) [].toArray [].toArray) (Value.func (.func 212) [].toArray [].toArray))) U cb (aA 0 U) (show fF[2]? =some [(Value.func (.func 211) [].toArray [].toArray),(Value.func (.func 212) [].toArray [].toArray)] from U) U dc U U)<|rS (CL (Gd d sgA sgC g1) (bq [1,2]) U)<|RK S<|aQ U<|WS fun _ T=>rP 2 [] I ?_
 refine RK T<|ak<|Q1 hQ U U U ?_
 clear hQ hN T S R V P O E D C B A L K J AB H G AA F
 refine cI ?_
 simp [oq, *]
end
section
open Go.RowKit
theorem Rp (d:aw) (sgA:OA) (sgC g1:Nat) (hk:d.Out=true):
 dx Tryz.prog 148 [(vS gN 3 3),(Value.func (.func 149) [].toArray [(vP g1)].toArray)] [(rd gN 3 2 fF),(rd sgA d.bw.aa.length 2 (d.bw.aa.map aF.cells)),(cm g1 58 (aO.cells (aO.mk d.Out d.c_ d.Time (jf d.bw sgA sgC))))] (vI 0):=by
 have h:=wV d sgA sgC g1
 have e:oq d=0:=by simp [oq,hk]
 rw [e] at h
 exact h
theorem RH (d:aw) (sgA:OA) (sgC g1:Nat) (hk:d.Out=false∧d.c_=true):
 dx Tryz.prog 148 [(vS gN 3 3),(Value.func (.func 149) [].toArray [(vP g1)].toArray)] [(rd gN 3 2 fF),(rd sgA d.bw.aa.length 2 (d.bw.aa.map aF.cells)),(cm g1 58 (aO.cells (aO.mk d.Out d.c_ d.Time (jf d.bw sgA sgC))))] (vI 1):=by
 have h:=wV d sgA sgC g1
 have e:oq d=1:=by simp [oq,hk]
 rw [e] at h
 exact h
theorem RF (d:aw) (sgA:OA) (sgC g1:Nat) (hk:d.Out=false∧d.c_=false):
 dx Tryz.prog 148 [(vS gN 3 3),(Value.func (.func 149) [].toArray [(vP g1)].toArray)] [(rd gN 3 2 fF),(rd sgA d.bw.aa.length 2 (d.bw.aa.map aF.cells)),(cm g1 58 (aO.cells (aO.mk d.Out d.c_ d.Time (jf d.bw sgA sgC))))] (vI 2):=by
 have h:=wV d sgA sgC g1
 have e:oq d=2:=by simp [oq,hk]
 rw [e] at h
 exact h
theorem B0 (l:bg) (kA:OA) (kC:Nat) (az:List RA) (cA:OA) (cC:Nat) (bA:OA) (bC:Nat) (d:aw) (sgA:OA) (sgC:Nat) (hin:eo l az) (hsl:d.bw.aa.length≤1000000) (hk:d.Out=true):
 dx Tryz.prog 127 [(vA (cV.cells (jN l kA kC cA cC bA bC))),(vA (aO.cells (aO.mk d.Out d.c_ d.Time (jf d.bw sgA sgC))))] [(rd gN 3 2 fF),(rd kA l.aV.length 9 (l.aV.map ao.cells)),(rd cA l.ar.length 2 (List.zipWith ay.cells l.ar az)),(dL (br ay.gn l.ar az)),(rd bA l.ab.length 4 (l.ab.map bI.cells)),(rd sgA d.bw.aa.length 2 (d.bw.aa.map aF.cells))] (vT [(vA (ag.cells (fP l d))),(vB (decide (iM l d)))]):=by
 refine bB kr Tryz.func127 U U fun AA Q hQ hN=>?_
 try dsimp only
 refine WS fun _ A=>er U fun G=>er U fun D=>AL U dN fun H=>bE 1 U<|RK A<|WS fun _ B=>rS (SX (CP U U yI) U U)<|rS (FU U)<|rS (CL (Rp d sgA sgC D hk) (NJ 3 8 1 U U U U U U) U)<|bE 1 U<|RK B<|aj fun _ C=>dg cp 9 kr<|kI 1 U<|dS (SX (CW (k:=0) U U U yI U om) U U)<|dS (qc ((0*2)+1) U (aA 3 U) (Nat.mul_pos om dc) fE U)<|dS (hG 0 1 (Value.func (.func 206) [].toArray [].toArray) U cb (aA 3 U) (show fF[0]? =some [(Value.func (.func 205) [].toArray [].toArray),(Value.func (.func 206) [].toArray [].toArray)] from U) U dc U)<|lu 2 [0,1] (mc 2 U (mc 1 U I)) U<|dS (CL (LK l kA kC az cA cC bA bC d sgA sgC hin) (bq [4,5,6,7,8]) U)<|kI 2 U<|cE<|fu U cS U<|rP 1 [] I ?_
 refine RK C<|ak<|my hQ [0] (mc 0 U I) U ?_
 have E:=D3 (l:=l) hk
 have F:=qS (l:=l) hk
 simp only [E,F]
theorem Ba (l:bg) (kA:OA) (kC:Nat) (az:List RA) (cA:OA) (cC:Nat) (bA:OA) (bC:Nat) (d:aw) (sgA:OA) (sgC:Nat) (hin:eo l az) (hsl:d.bw.aa.length≤1000000) (hk:d.Out=false∧d.c_=true):
 dx Tryz.prog 127 [(vA (cV.cells (jN l kA kC cA cC bA bC))),(vA (aO.cells (aO.mk d.Out d.c_ d.Time (jf d.bw sgA sgC))))] [(rd gN 3 2 fF),(rd kA l.aV.length 9 (l.aV.map ao.cells)),(rd cA l.ar.length 2 (List.zipWith ay.cells l.ar az)),(dL (br ay.gn l.ar az)),(rd bA l.ab.length 4 (l.ab.map bI.cells)),(rd sgA d.bw.aa.length 2 (d.bw.aa.map aF.cells))] (vT [(vA (ag.cells (fP l d))),(vB (decide (iM l d)))]):=by
 refine bB kr Tryz.func127 U U fun AA Q hQ hN=>?_
 try dsimp only
 refine WS fun _ A=>er U fun G=>er U fun D=>AL U dN fun H=>bE 1 U<|RK A<|WS fun _ B=>rS (SX (CP U U yI) U U)<|rS (FU U)<|rS (CL (RH d sgA sgC D hk) (NJ 3 8 1 U U U U U U) U)<|bE 1 U<|RK B<|aj fun _ C=>dg cp 9 kr<|kI 1 U<|dS (SX (CW (k:=1) U U U yI U om) U U)<|dS (qc ((1*2)+1) U (aA 3 U) (Nat.mul_pos om dc) fE U)<|dS (hG 1 1 (Value.func (.func 209) [].toArray [].toArray) U cb (aA 3 U) (show fF[1]? =some [(Value.func (.func 208) [].toArray [].toArray),(Value.func (.func 209) [].toArray [].toArray)] from U) U dc U)<|lu 2 [0,1] (mc 2 U (mc 1 U I)) U<|dS (CL (L4 l kA kC az cA cC bA bC d sgA sgC hin) (bq [4,5,6,7,8]) U)<|kI 2 U<|cE<|fu U cS U<|rP 1 [] I ?_
 refine RK C<|ak<|my hQ [0] (mc 0 U I) U ?_
 have E:=D1 (l:=l) hk
 have F:=tG (l:=l) hk
 simp only [E,F]
theorem AN (l:bg) (kA:OA) (kC:Nat) (az:List RA) (cA:OA) (cC:Nat) (bA:OA) (bC:Nat) (d:aw) (sgA:OA) (sgC:Nat) (hin:eo l az) (hsl:d.bw.aa.length≤1000000) (hk:d.Out=false∧d.c_=false):
 dx Tryz.prog 127 [(vA (cV.cells (jN l kA kC cA cC bA bC))),(vA (aO.cells (aO.mk d.Out d.c_ d.Time (jf d.bw sgA sgC))))] [(rd gN 3 2 fF),(rd kA l.aV.length 9 (l.aV.map ao.cells)),(rd cA l.ar.length 2 (List.zipWith ay.cells l.ar az)),(dL (br ay.gn l.ar az)),(rd bA l.ab.length 4 (l.ab.map bI.cells)),(rd sgA d.bw.aa.length 2 (d.bw.aa.map aF.cells))] (vT [(vA (ag.cells (fP l d))),(vB (decide (iM l d)))]):=by
 refine bB kr Tryz.func127 U U fun AA Q hQ hN=>?_
 try dsimp only
 refine WS fun _ A=>er U fun G=>er U fun D=>AL U dN fun H=>bE 1 U<|RK A<|WS fun _ B=>rS (SX (CP U U yI) U U)<|rS (FU U)<|rS (CL (RF d sgA sgC D hk) (NJ 3 8 1 U U U U U U) U)<|bE 1 U<|RK B<|aj fun _ C=>dg cp 9 kr<|kI 1 U<|dS (SX (CW (k:=2) U U U yI U om) U U)<|dS (qc ((2*2)+1) U (aA 3 U) (Nat.mul_pos om dc) fE U)<|dS (hG 2 1 (Value.func (.func 212) [].toArray [].toArray) U cb (aA 3 U) (show fF[2]? =some [(Value.func (.func 211) [].toArray [].toArray),(Value.func (.func 212) [].toArray [].toArray)] from U) U dc U)<|lu 2 [0,1] (mc 2 U (mc 1 U I)) U<|dS (CL (Lg l kA kC az cA cC bA bC d sgA sgC hin hsl) (bq [4,5,6,7,8]) U)<|kI 2 U<|cE<|fu U cS U<|rP 1 [] I ?_
 refine RK C<|ak<|my hQ [0] (mc 0 U I) U ?_
 have E:=D9 (l:=l) hk
 have F:=sV (l:=l) hk
 simp only [E,F]
theorem CY (l:bg) (kA:OA) (kC:Nat) (az:List RA) (cA:OA) (cC:Nat) (bA:OA) (bC:Nat) (d:aw) (sgA:OA) (sgC:Nat) (hin:eo l az) (hsl:d.bw.aa.length≤1000000):
 dx Tryz.prog 127 [(vA (cV.cells (jN l kA kC cA cC bA bC))),(vA (aO.cells (aO.mk d.Out d.c_ d.Time (jf d.bw sgA sgC))))] [(rd gN 3 2 fF),(rd kA l.aV.length 9 (l.aV.map ao.cells)),(rd cA l.ar.length 2 (List.zipWith ay.cells l.ar az)),(dL (br ay.gn l.ar az)),(rd bA l.ab.length 4 (l.ab.map bI.cells)),(rd sgA d.bw.aa.length 2 (d.bw.aa.map aF.cells))] (vT [(vA (ag.cells (fP l d))),(vB (decide (iM l d)))]):=by
 by_cases ho:d.Out=true
 ·exact B0 l kA kC az cA cC bA bC d sgA sgC hin hsl ho
 by_cases hf:d.c_=true
 ·exact Ba l kA kC az cA cC bA bC d sgA sgC hin hsl ⟨by simpa using ho,hf⟩
 ·exact AN l kA kC az cA cC bA bC d sgA sgC hin hsl ⟨by simpa using ho,by simpa using hf⟩
end
section
open Go.RowKit
theorem IF (lA:OA) (lN lC:Nat):
 q6 Tryz.prog 125 [(vS lA lN lC)] [] (fun (x:Nat)=>(Value.func (.func 146) [].toArray [(vP x)].toArray)) (fun (x:Nat)=>True) (fun (x:Nat)=>[(cm x 29 [(vS lA lN lC)])]):=by
 refine fR kr Tryz.func125 U U fun D Q hQ hN=>?_
 try dsimp only
 refine WS fun _ A=>vR U U fun C=>bE 1 U<|RK A<|WS fun _ B=>rS (FU U)<|rP 1 [] I ?_
 refine RK B<|ak<|LX hQ C [0] [] I U U U U ?_
 trivial
theorem Ib (nl:List Int) (nlA:OA) (nlC g1:Nat) (hlen:nl.length≤12):
 Lb Tryz.prog 146 [] [(vP g1)] [(rd nlA nl.length 1 (nl.map iC)),(cm g1 29 [(vS nlA nl.length nlC)])] (qL nl):=by
 refine E3 kr Tryz.func146 U U fun l J Z A0 T Q hY K AB hQ hN=>?_
 try dsimp only
 refine WS fun _ M=>rP 3 [] (mr 2 U I) ?_
 refine RK M<|aB ?_
 have F:(0≤nl.length)∧(J 0 A0)∧(Fo A0 T A0):=by exact ⟨Nat.zero_le _,K,AB⟩
 refine bT (ι:={z:Nat×av // (z.1≤nl.length)∧(J z.1 z.2)∧(Fo A0 T z.2)}) [0,1,5,6] [1] U U (fun z=>[(7,(vI (z.1.1:Int)))]) (fun z=>[z.1.2]) (fun _=>rfl) (fun _=>rfl) (fun z=>nl.length-z.1.1) ⟨(0,A0),F⟩ (bx U) (aP [1,0]) ?_
 clear F
 rintro ⟨⟨i,A⟩,⟨G,B,C⟩⟩ J2 L
 try dsimp only at G B C
 try dsimp only
 refine WS fun _ N=>rP 1 [] I ?_
 refine RK N<|aj fun _ O=>bQ U (aT fun AA=>?_) (aU fun AA=>?_)
 ·refine bL<|ai<|ai<|aG ?_
  refine hN _ _ _ (jI (vs:=[]) trivial fun w hs=>RR 1 U (by rw [tH]; have e:nl.length=i:=om; rw [e]; exact B) C hs)
 refine WK O<|aj fun _ P=>aB<|WS fun _ R=>?_
 obtain ⟨x,hx⟩:=aJ nl i om
 have S:=bK iC hx
 refine rS (IA i U (aA 0 U) dp dc om om)<|rS (hG i 0 (vI x) U cb (aA 0 U) S U dc U)<|bE 1 U<|RK R<|WS fun _ H=>rP 2 [] I ?_
 refine Er 1 hY B C U U U (GR hx) U U (fun B9 E D=>?_) (fun B9 E D=>?_)
 rotate_left 1
 ·refine rP 1 [] I ?_
  refine RK H<|aQ U<|ak ?_
  refine hQ _ _ _ (jI (vs:=[]) trivial fun w hs=>Nu 1 U E D hs)
 refine bE 1 U<|RK H<|cg U<|cf<|aL<|KK P<|aq<|rP 2 [] I ?_
 refine aD ?_
 refine a7 (L ⟨((i+1),B9),⟨om,E,D⟩⟩ _ _ _ U os (bx U) (aP [0,1]))
end
section
open Go.RowKit
theorem K1 (x:Int):
 dx Tryz.prog 184 [(vI x)] [] (vB false):=by
 refine bB kr Tryz.func184 U U fun C Q hQ hN=>?_
 try dsimp only
 refine WS fun _ A=>bE 1 U<|RK A<|WS fun _ B=>rP 4 [] I ?_
 refine RK B<|ak<|Q1 hQ U U U ?_
 simp
theorem Lw (x y:Int):
 dx Tryz.prog 171 [(vI x),(vI y)] [] (vB (decide (x<y))):=by
 refine bB kr Tryz.func171 U U fun C Q hQ hN=>?_
 try dsimp only
 refine WS fun _ A=>bE 1 U<|RK A<|WS fun _ B=>bE 1 U<|rS (CL (K1 x) (aM) U)<|rP 11 [] I ?_
 refine RK B<|ak<|Q1 hQ U U U ?_
 exact cB (gv.2 om)
theorem Ge (l:List Int) (lA:OA) (lC:Nat) (hlen:l.length≤1000000):
 Kw Tryz.prog 165 [(vS lA l.length lC),(vI 0),(vI (l.length:Int))] [] (own lA lC 3 1 (l.map iC)) (fun (x:(List Int))=>(vT [])) (fun (x:(List Int))=>x.Perm l∧x.Pairwise (· ≤ ·)) (fun (x:(List Int))=>(own lA lC 3 1 (x.map iC))):=by
 refine uu kr Tryz.func165 U U fun g Q hQ hN=>?_
 try dsimp only
 refine WS fun _ X=>bE 1 U<|rS (SX (fV (r:= .int .i64 1) U U U (n9 ⟨dc,dc⟩)) U U)<|rP 1 [] I ?_
 refine RK X<|aB ?_
 have A:(1≤1∧(1≤l.length∨1=1))∧(l.length=l.length)∧(l.Perm l)∧(Pu l 1):=by exact ⟨om,rfl,List.Perm.refl _,K9⟩
 refine bT (ι:={z:Nat×(List Int) // (1≤z.1∧(z.1≤l.length∨z.1=1))∧(z.2.length=l.length)∧(z.2.Perm l)∧(Pu z.2 z.1)}) [0,1,2] [] U U (fun z=>[(6,(vI (z.1.1:Int)))]) (fun z=>[(own lA lC 3 1 (z.1.2.map iC))]) (fun _=>rfl) (fun _=>rfl) (fun z=>l.length-z.1.1) ⟨(1,l),A⟩ (bx U) (aP [0]) ?_
 clear A
 rintro ⟨⟨i,m⟩,⟨K,AB,E,F⟩⟩ J2 M
 try dsimp only at K AB E F
 try dsimp only
 refine aj fun _ Y=>WS fun _ Z=>rP 3 [] I ?_
 refine RK Z<|bQ U (aT fun e=>?_) (aU fun e=>?_)
 ·refine bL<|ai<|ai<|aG<|LM hN m 0 [] I U U U U ?_
  exact ⟨E,MG F om⟩
 refine WK Y<|aj fun _ O=>aB<|WS fun _ b=>rP 2 [] I ?_
 refine RK b<|aB ?_
 have A:(i≤i)∧(m.length=l.length)∧(m.Perm l)∧(N2 m i i):=by exact ⟨Nat.le_refl _,AB,E,GN F om⟩
 refine bT (ι:={z:Nat×(List Int) // (z.1≤i)∧(z.2.length=l.length)∧(z.2.Perm l)∧(N2 z.2 i z.1)}) [0,1,2,6] [] U U (fun z=>[(7,(vI (z.1.1:Int)))]) (fun z=>[(own lA lC 3 1 (z.1.2.map iC))]) (fun _=>rfl) (fun _=>rfl) (fun z=>z.1.1) ⟨(i,m),A⟩ (bx U) (aP [0]) ?_
 clear A
 rintro ⟨⟨j,q⟩,⟨G,B,C,D⟩⟩ J8 W
 try dsimp only at G B C D
 try dsimp only
 refine aj fun _ c=>aj fun _ J=>dg cp 15 kr<|dP 4 [] I ?_
 refine js (t:=19) U (aT fun hj=>?_) (aU fun hj=>?_)
 ·refine kI 11 U<|cE<|RK J<|cg U<|bL<|ai<|ai<|aG<|aL<|KK O<|aq<|rP 3 [] I ?_
  refine aD ?_
  refine a7 (M ⟨((i+1),q),⟨om,B,C,by exact IQ om D⟩⟩ _ _ _ U (by simp only []; omega) (bx U) (aP [0]))
 refine dP 2 [] I ?_
 obtain ⟨x,hx⟩:=aJ q j om
 have L:=bK iC hx
 refine dS (IA j U (aN (n:=l.length) 0 U sq) dp dc om om) ?_
 refine dS (hG j 0 (vI x) U cb (aN (n:=q.length) 0 U sm) L U dc U)<|dP 3 [] I ?_
 obtain ⟨y,hy⟩:=aJ q (j-1) om
 have V:=bK iC hy
 refine dS (IA (j-1) U (aN (n:=l.length) 0 U sq) dp dc om om) ?_
 refine dS (hG (j-1) 0 (vI y) U cb (aN (n:=q.length) 0 U sm) V U dc U)<|dS (CL (Lw x y) (aM) U)<|dP 1 [] I ?_
 refine cE<|RK J<|bQ U (aT fun H=>?_) (aU fun H=>?_)
 ·refine bL<|ai<|ai<|aG<|aL<|KK O<|aq<|rP 3 [] I ?_
  refine aD ?_
  refine a7 (M ⟨((i+1),q),⟨om,B,C,by exact Iz hx hy om G H D⟩⟩ _ _ _ U (by simp only []; omega) (bx U) (aP [0]))
 refine WK c<|aj fun _ N=>aB<|dH cp [15,16,17] [8,9,12,13,14] [] [] [0] U U U U U<|eS U (MV U)<|eS U (MV U)<|eS U (MV U)<|eS U (MV U)<|eS U (BI U (wg ⟨om,om⟩))<|eS U (MV U)<|eS U (MV U)<|eS U (BI U (wg ⟨om,om⟩)) ?_
 refine fS U (IA (j-1) U (aN (n:=l.length) 0 U sq) dp dc om om) ?_
 refine fS U (hG (j-1) 0 (vI y) U cb (aN (n:=q.length) 0 U sm) V U dc U)<|eS U (MV U)<|eS U (MV U) ?_
 refine fS U (IA j U (aN (n:=l.length) 0 U sq) dp dc om om) ?_
 refine fS U (hG j 0 (vI x) U cb (aN (n:=q.length) 0 U sm) L U dc U) ?_
 refine fS U (IA j U (aN (n:=l.length) 0 U sq) dp dc om om) ?_
 refine ep U<|cj U fun T12 P=>iU (k:=j) (o:=0) (vs:=[(vI y)]) (es':=(List.map iC (q.set j y))) (C':=[(own lA lC 3 1 (List.map iC (q.set j y)))]) 0 U U U ER U U U U L U dc (by exact (List.map_set (f:=iC) (l:=q) (i:=j) (a:=y)).symm) U<|aD (P _ _ (aP []) ?_)
 refine cj U fun T13 R=>?_
 obtain ⟨d,AA⟩:=aJ (q.set j y) (j-1) os
 have hx15m:(List.map iC (q.set j y))[(j-1)]? =some (iC d):=by rw [fz,AA]; rfl
 refine rS (IA (j-1) U (aN (n:=l.length) 0 U sq) dp dc om om) ?_
 refine aD (R _ _ (aP []) ?_)
 refine cj U fun T16 S=>iU (k:=(j-1)) (o:=0) (vs:=[(vI x)]) (es':=(List.map iC ((q.set j y).set (j-1) x))) (C':=[(own lA lC 3 1 (List.map iC ((q.set j y).set (j-1) x)))]) 0 U U U ER U U U U hx15m U dc (by exact (List.map_set (f:=iC) (l:=(q.set j y)) (i:=(j-1)) (a:=x)).symm) U<|aD (S _ _ (aP []) ?_)
 refine fH U<|aL<|KK N<|aq<|rP 3 [] I ?_
 refine aD ?_
 have T:(vI (((j-1):Nat):Int))=(vI ((j:Int)-1)):=by exact cI om
 refine a7 (W ⟨((j-1),((q.set j y).set (j-1) x)),⟨om,by simp; exact B,(GW hx hy).trans C,H8 hx hy om G H D⟩⟩ _ _ _ U (by simp only []; omega) (cw 4<|aX U T<|df.nil _) (aP [0]))
theorem Ls (x:Int) (hx:0≤x∧x≤100):
 q6 Tryz.prog 175 [(Value.int .u64 x)] [] (fun (x:Int)=>(vI x)) (fun (x:Int)=>True) (fun (x:Int)=>[]):=by
 refine fR kr Tryz.func175 U U fun N Q hQ hN=>?_
 try dsimp only
 refine WS fun _ D=>bE 1 U<|RK D<|aj fun _ E=>WS fun _ F=>rP 1 [] I ?_
 refine rS (BI U EK)<|RK F<|cu U (aU fun L=>?_) (aT fun L=>?_)
 ·exfalso; omega
 refine WK E<|aj fun _ G=>WS fun _ H=>rP 1 [] I ?_
 refine rS (BI U EK)<|RK H<|cu U (aU fun M=>?_) (aT fun M=>?_)
 ·exfalso; omega
 refine WK G<|aj fun _ AA=>WS fun _ J=>rP 1 [] I ?_
 refine rS (BI U EK)<|RK J<|cu U (aU fun C=>?_) (aT fun C=>?_)
 ·exfalso; omega
 refine WK AA<|WS fun _ B=>bE 2 U<|rS (SX (rG (m:=x) U U Qj OI (Bb (by first|assumption|omega))) U U)<|OE (k:=(x).toNat) U U U UF om (Nat.lt_of_lt_of_le (m:=200) om (of_decide_eq_true kr)) U fun A K=>rS (SX (rG (m:=A) U U OI rM (nV (by first|assumption|omega))) U U)<|rP 2 [] I ?_
 refine RK B<|ak<|LX hQ (0+A) [] [] I U U U U ?_
 trivial
theorem OD (x:Int) (hx:0≤x∧x≤100):
 q6 Tryz.prog 159 [(Value.int .u64 x)] [] (fun (x:Int)=>(vI x)) (fun (x:Int)=>True) (fun (x:Int)=>[]):=by
 refine fR kr Tryz.func159 U U fun F Q hQ hN=>?_
 try dsimp only
 refine WS fun _ A=>bE 1 U<|RK A<|aj fun _ B=>cg U<|WK B<|WS fun _ C=>rP 1 [] I ?_
 refine cX (Ls x hx) (aM) U fun E D=>?_
 try dsimp only
 refine rP 1 [] I ?_
 refine RK C<|ak<|LX hQ E [] [] I U U U U ?_
 trivial
theorem Qk (l:List Int) (lA:OA) (lC:Nat) (u:Int) (hlen:l.length≤12):
 Kw Tryz.prog 158 [(vS lA l.length lC),(vI 0),(vI (l.length:Int)),(vI u)] [] (own lA lC 3 1 (l.map iC)) (fun (x:(List Int))=>(vT [])) (fun (x:(List Int))=>x.Perm l∧x.Pairwise (· ≤ ·)) (fun (x:(List Int))=>(own lA lC 3 1 (x.map iC))):=by
 refine uu kr Tryz.func158 U U fun K Q hQ hN=>?_
 try dsimp only
 refine WS fun _ A=>bE 1 U<|RK A<|WS fun _ B=>bE 1 U<|RK B<|aB<|qo 1<|kz fun R3 AA=>aB<|WS fun _ C=>bE 4 U<|RK C<|aj fun _ H=>WS fun _ D=>rP 2 [] I ?_
 refine RK D<|bQ U (aT fun G=>?_) (aU fun G=>?_)
 ·exfalso; omega
 refine WS fun _ E=>rP 3 [] I ?_
 refine nT 0 U U U U (Ge l lA lC om) U qT U (fun J F=>?_)
 try dsimp only
 refine RK E<|ak<|LM hQ J 0 [] I U U U U ?_
 assumption
theorem N8 (l:List Int) (lA:OA) (lC:Nat) (hlen:l.length≤12):
 Kw Tryz.prog 145 [(vS lA l.length lC)] [] (own lA lC 3 1 (l.map iC)) (fun (x:(List Int))=>(vT [])) (fun (x:(List Int))=>x.Perm l∧x.Pairwise (· ≤ ·)) (fun (x:(List Int))=>(own lA lC 3 1 (x.map iC))):=by
 refine uu kr Tryz.func145 U U fun F Q hQ hN=>?_
 try dsimp only
 refine WS fun _ A=>bE 3 U<|RK A<|aq<|rP 3 [] I ?_
 refine rS (SX (rG (m:=(l.length:Int)) U U rM Qy (zk (by first|assumption|omega))) U U)<|cX (OD (l.length:Int) om) (aM) U fun E B=>?_
 try dsimp only
 refine nT 0 U U U U (Qk l lA lC E hlen) U qT U (fun D C=>?_)
 try dsimp only
 refine aD<|LM hN D 0 [] I U U U U ?_
 assumption
end
section
open Go.RowKit
theorem II (nl:List Int) (nlA:OA) (nlC g1:Nat) (hlen:nl.length≤12):
 q6 Tryz.prog 157 [(vS none 0 0),(Value.func (.func 146) [].toArray [(vP g1)].toArray)] [(rd nlA nl.length 1 (nl.map iC)),(cm g1 29 [(vS nlA nl.length nlC)])] (fun (x:(OA)×Nat)=>(vS x.1 nl.length x.2)) (fun (x:(OA)×Nat)=>True) (fun (x:(OA)×Nat)=>[(own x.1 x.2 3 1 (nl.map iC))]):=by
 refine fR kr Tryz.func157 U U fun R Q hQ hN=>?_
 try dsimp only
 refine WS fun _ D=>vR U U fun J=>bE 1 U<|RK D<|aj fun _ E=>WS fun _ G=>rP 1 [] I ?_
 refine RK G<|aB<|jd 1 U (by exact fun _ h=>h)<|jd 3 U (by exact fun _ h=>h)<|ew 3 1 ?_
 refine EP (L0:=[(2,(vP J))]) (F:=[(rd nlA nl.length 1 (nl.map iC)).ro,(cm g1 29 [(vS nlA nl.length nlC)]).ro]) (xs:=(qL nl)) (fun k (y:(OA)×Nat)=>True) (fun k y=>[(own y.1 y.2 3 1 ((nl.take k).map iC)),(cm J 29 [(vS y.1 ((nl.take k).length) y.2)]),(rd nlA nl.length 1 (nl.map iC)).ro]) (fun _ (_:Unit)=>False) (fun _ _=>[]) [0,3,4] [2,1] (none,0) U U (Ib nl nlA nlC g1 (by first|assumption|omega|(simp; done))) U U U (by trivial) (by simp only [List.forall_mem_cons,List.not_mem_nil,false_imp_iff,implies_true,and_true]; exact ⟨⟨_,sm,(dy (bR _))⟩,⟨_,sm,(dy (bR _))⟩⟩) (by exact Dt) U (bx U) ?_ ?_ (fun _ _ _ h=>h.elim) (fun _ _ h=>h.elim)
 rotate_left 1
 ·rintro O ⟨a,c⟩ AA
  try dsimp only
  rw [xV]
  refine aL<|KK E<|WS fun _ A=>rP 2 [] (mc 4 U I) ?_
  refine RK A<|ak<|hQ _ _ _ (qG 0 U U<|jI (vs:=[(vS a nl.length c)]) ⟨U,trivial⟩ fun w hs=>OC (a,c) [3] ?_ ?_ U U U hs)
  ·rfl
  ·trivial
 rintro k x ⟨a,c⟩ l ra rb S T K5 Qr6 hx K H B L M
 obtain ⟨y,hy,rfl⟩:=GA hx
 try dsimp only
 refine aq<|rP 1 [] I ?_
 refine aD<|a7 (H _ _ ?_)
 refine aB<|aq<|rP 2 [] (mc 2 U I) ?_
 refine dZ (xs:=[.tmp 9]) (cs:=[(vI y)]) U dp j5 U U U U (by simp [Value.cells]) U U fun P=>?_
 refine fg (es2:=(List.map iC (nl.take (k+1)))) (m':=(nl.take (k+1)).length) 2 U U U ub U U sm (bk (es:=List.map iC [y]) 0 U U (by simp [bJ]) U) (lT _) (by simp; omega) (by simp [maxLen]; omega) (by rw [Du hy]; simp) sm U fun N C=>?_
 try dsimp only
 refine UG U KV U U<|aD<|aL ?_
 exact B (N,C) _ _ (by trivial) (aP [1,2,3,4])
theorem Gq (nl:List Int) (nlA:OA) (nlC g1:Nat) (hlen:nl.length≤12):
 q6 Tryz.prog 144 [(Value.func (.func 146) [].toArray [(vP g1)].toArray)] [(rd nlA nl.length 1 (nl.map iC)),(cm g1 29 [(vS nlA nl.length nlC)])] (fun (x:(OA)×Nat)=>(vS x.1 nl.length x.2)) (fun (x:(OA)×Nat)=>True) (fun (x:(OA)×Nat)=>[(own x.1 x.2 3 1 (nl.map iC))]):=by
 refine fR kr Tryz.func144 U U fun G Q hQ hN=>?_
 try dsimp only
 refine WS fun _ A=>bE 1 U<|RK A<|WS fun _ B=>rP 1 [] I ?_
 refine cX (II nl nlA nlC g1 hlen) (bq [0,1]) U fun F E=>?_
 obtain ⟨C,D⟩:=F
 try dsimp only
 refine rP 1 [] I ?_
 refine RK B<|ak<|LX hQ (C,D) [0] [] I U U U U ?_
 trivial
theorem HQ (nl:List Int) (nlA:OA) (nlC g1:Nat) (hlen:nl.length≤12):
 q6 Tryz.prog 124 [(Value.func (.func 146) [].toArray [(vP g1)].toArray)] [(rd nlA nl.length 1 (nl.map iC)),(cm g1 29 [(vS nlA nl.length nlC)])] (fun (x:(OA)×Nat)=>(vS x.1 nl.length x.2)) (fun (x:(OA)×Nat)=>True) (fun (x:(OA)×Nat)=>[(own x.1 x.2 3 1 ((m8 nl).map iC))]):=by
 refine fR kr Tryz.func124 U U fun J Q hQ hN=>?_
 try dsimp only
 refine WS fun _ B=>bE 1 U<|RK B<|WS fun _ C=>rP 1 [] I ?_
 refine cX (Gq nl nlA nlC g1 hlen) (bq [0,1]) U fun AA H=>?_
 obtain ⟨F,G⟩:=AA
 try dsimp only
 refine bE 1 U<|RK C<|WS fun _ D=>rP 1 [] I ?_
 refine nT 0 U U U U (N8 nl F G hlen) U qT U (fun m A=>?_)
 try dsimp only
 refine RK D<|WS fun _ E=>?_
 obtain rfl:=AM A.1 A.2
 skip
 refine rP 2 [] I ?_
 refine RK E<|ak<|LX hQ (F,G) [0] [] I U U U U ?_
 trivial
end
section
open Go.RowKit
theorem JI (r:eV) (kA:OA) (kC:Nat) (az:List RA) (cA:OA) (cC:Nat) (bA:OA) (bC:Nat) (slA:OA) (slC:Nat) (drA:OA) (drC:Nat) (ha:List dG) (heA:OA) (heC:Nat) (tz:List RA) (tA:OA) (tC:Nat) (ms:Value) (gw h:Nat) (gm g1 g2:Nat) (hin:ov r az ha) (htz:tz.length=r.aH.length) (hh:h<r.aH.length) (hok:j7 r (h+1)):
 Kw Tryz.prog 150 [(vI (h:Int)),(vP g1),(vP g2)] [(rd kA r.au.aV.length 9 (r.au.aV.map ao.cells)),(rd cA r.au.ar.length 2 (List.zipWith ay.cells r.au.ar az)),(dL (br ay.gn r.au.ar az)),(rd bA r.au.ab.length 4 (r.au.ab.map bI.cells)),(rd slA r.bj.length 1 (r.bj.map iC)),(rd drA r.cq.length 1 (r.cq.map iC)),(rd heA r.aH.length 1 (List.zipWith de r.aH ha)),(dL (br eY r.aH ha)),(rd tA ((fB r).length) 1 (List.zipWith K_ (fB r) tz)),(dL (br PF (fB r) tz)),(cm gw 212 (kb.cells (kb.mk (zM r kA kC cA cC bA bC slA slC drA drC heA heC) (bH.mk tA ((fB r).length) tC) ms))),(cm g1 187 [(vP gw)]),(cm g2 153 [(Value.map (some gm))])] (jM iV gm (cK jG (dY r.au r.aH r.bj.length h 0))) (fun (x:Unit)=>(vT [])) (fun (x:Unit)=>True) (fun (x:Unit)=>(jM iV gm (cK jG (dY r.au r.aH r.bj.length (h+1) 0)))):=by
 have v:=hin.line
 have A6:=hin.iX
 have A7:=hin.has
 have A0:=hin.iW
 have AC:=hin.draw
 have A1:=kH (r:=r)
 refine uu kr Tryz.func150 U U fun w0 Q hQ hN=>?_
 try dsimp only
 refine WS fun _ g=>eN 1 [] (mr 12 U I) U<|rS (SX (cM U U) U U)<|rP 3 [] (mr 11 U I) ?_
 obtain ⟨ht,B⟩:=aJ r.aH h om
 obtain ⟨A,C⟩:=aJ ha h om
 have Z:(List.zipWith de r.aH ha)[h]? =some (de ht A):=dC B C
 have s:=hin.gj _ _ _ B C
 have AO:=s.ot
 have N:=hok h ht om B
 obtain ⟨tr,G⟩:=aJ (fB r) h om
 obtain ⟨tra,F⟩:=aJ tz h om
 have c:(List.zipWith K_ (fB r) tz)[h]? =some (K_ tr tra):=dC G F
 refine rS (IA h U (aA 9 U) Hv dc om om)<|rS (hG h 0 (vS tra.1 tr.length tra.2) U cb (aA 9 U) c U dc U) ?_
 have AB:=FH B G
 have A3:tr.length=r.bj.length:=by rw [AB,List.length_map]; exact N.1
 have A2:=N.1
 refine rP 2 [] I ?_
 refine RK g<|aB ?_
 have E:(0≤r.bj.length):=by exact Nat.zero_le _
 refine bT (ι:={z:Nat // (z≤r.bj.length)}) [0,1,2,14,15] [1,2,3,4,5,6,7,8,9,10,11,12,13] U U (fun z=>[(16,(vI (z.1:Int)))]) (fun z=>[(jM iV gm (cK jG (dY r.au r.aH r.bj.length h z.1)))]) (fun _=>rfl) (fun _=>rfl) (fun z=>r.bj.length-z.1) ⟨0,E⟩ (bx U) (aP [1,2,3,4,5,6,7,8,9,10,11,12,13,0]) ?_
 clear E
 rintro ⟨i,u⟩ J2 K
 try dsimp only
 have a:i<r.bj.length→(dY r.au r.aH r.bj.length h i).lookup (i:Int)=jL r.au r.aH i h:=J0
 refine WS fun _ k=>rP 1 [] I ?_
 refine RK k<|aj fun _ m=>bQ U (aT fun h5=>?_) (aU fun h5=>?_)
 ·refine bL<|ai<|ai<|aG ?_
  rw [show (dY r.au r.aH r.bj.length h i)=(dY r.au r.aH r.bj.length (h+1) 0) from by rw [show i=r.bj.length by omega]; exact LI]
  refine LM hN () 13 [] I U U U U ?_
  trivial
 refine WK m<|aj fun _ L=>aB<|WS fun _ n=>rP 1 [] I ?_
 obtain ⟨x,hx⟩:=aJ tr i om
 have y:=bK ag.cells hx
 refine rS (IA i U (show iN _ (rd tra.1 tr.length 2 (tr.map ag.cells)).holds from (cR 9 U (bM G F (by simp [PF])))) kS dc om om)<|rS (lh i 0 (ag.cells x) U cb (show iN _ (rd tra.1 tr.length 2 (tr.map ag.cells)).holds from (cR 9 U (bM G F (by simp [PF])))) y U dc U U)<|AL U dN fun b8=>bE 1 U<|fu U cS U<|RK n<|WS fun _ o=>eN 2 [] (mr 13 U I) U<|rS (SX (sD (kV:=iV) (x:=(i:Int)) (l:=(dY r.au r.aH r.bj.length h i)) (f:=jG) (z:=(ag.mk 0 0)) U U U rO (gJ rM) Tz (by exact aA 14 U)) U U)<|bE 3 U<|AL U dN fun A4=>fu U cS U<|bE 1 U<|RK o<|aj fun _ P=>WS fun _ H=>eN 1 [] (mr 13 U I) U<|rS (SX (cM U U) U U)<|eN 4 [] (mr 12 U I) U<|rS (IA h U (aA 8 U) rK dc om om)<|rS (hG h 0 (vS A.1.1 ht.length A.1.2) U cb (aA 8 U) Z U dc U)<|rP 1 [] I ?_
 obtain ⟨d,hd⟩:=aJ ht i om
 obtain ⟨da,p⟩:=aJ A.2 i om
 have q:(List.zipWith aw.cells ht A.2)[i]? =some (aw.cells d da):=dC hd p
 refine rS (IA i U (show iN _ (rd A.1.1 ht.length 7 (List.zipWith aw.cells ht A.2)).holds from (cR 9 U (bM B C ct))) s8 dc om om)<|rS (qc (i*7) U (show iN _ (rd A.1.1 ht.length 7 (List.zipWith aw.cells ht A.2)).holds from (cR 9 U (bM B C ct))) (Nat.mul_pos om dc) fE U)<|rS (hG i 0 (vB d.Out) U cb (show iN _ (rd A.1.1 ht.length 7 (List.zipWith aw.cells ht A.2)).holds from (cR 9 U (bM B C ct))) q U dc U)<|rP 1 [] I ?_
 refine bU (t:=39) U (fun J=>?_) (fun J=>?_)
 ·refine bE 3 U<|RK H<|aQ U<|WS fun _ R=>rP 2 [] (mr 14 U I) ?_
  have T:(eO (dY r.au r.aH r.bj.length h i) (i:Int))=(dY r.au r.aH r.bj.length h (i+1)):=by exact DX (by exact FL B hd J)
  refine sG (kV:=iV) (x:=(i:Int)) (C':=[_,_,_,_,_,_,_,_,_,_,_,_,_,_,_,(jM iV gm (cK jG (dY r.au r.aH r.bj.length h (i+1))))]) 15 U U U U rO (gJ rM) U ((nj _ _ _).symm.trans (congrArg _ T)) U<|RK R<|bL<|ai<|aG<|KK L<|aq<|rP 2 [] I ?_
  refine aD ?_
  have AA:(vI (((i+1):Nat):Int))=(vI ((i:Int)+1)):=by exact cI om
  refine a7 (K ⟨(i+1),(by first|omega|(simp only []; omega))⟩ _ _ _ U os (cw 5<|aX U AA<|df.nil _) (aP [2,3,4,5,6,7,8,9,10,11,12,13,14,15]))
 refine rP 3 [] I ?_
 refine RK H<|cu U (fun D=>?_) (fun D=>?_)
 ·rw [Bool.not_eq_true'] at D
  refine WS fun _ S=>rP 2 [] (mr 14 U I) ?_
  have V:(eO (dY r.au r.aH r.bj.length h i) (i:Int))=(dY r.au r.aH r.bj.length h (i+1)):=by exact DX (by exact DL ((a om).symm.trans (Option.not_isSome_iff_eq_none.1 (by rw [D]; decide))))
  refine sG (kV:=iV) (x:=(i:Int)) (C':=[_,_,_,_,_,_,_,_,_,_,_,_,_,_,_,(jM iV gm (cK jG (dY r.au r.aH r.bj.length h (i+1))))]) 15 U U U U rO (gJ rM) U ((nj _ _ _).symm.trans (congrArg _ V)) U<|RK S<|bL<|ai<|aG<|KK L<|aq<|rP 2 [] I ?_
  refine aD ?_
  have W:(vI (((i+1):Nat):Int))=(vI ((i:Int)+1)):=by exact cI om
  refine a7 (K ⟨(i+1),(by first|omega|(simp only []; omega))⟩ _ _ _ U os (cw 5<|aX U W<|df.nil _) (aP [2,3,4,5,6,7,8,9,10,11,12,13,14,15]))
 rw [Bool.not_eq_false'] at D
 refine WK P<|aq ?_
 obtain ⟨O,b⟩:=Option.isSome_iff_exists.1 D
 have M:jL r.au r.aH i h=some O:=(a om).symm.trans b
 have e:=N0 AB hx hd
 have A8:=DZ (fun j x hj hx=>hok j x om hx) om M
 have w:=ES (N.2 d (aR hd))
 rw [← e] at w
 rw [show ((List.lookup (i:Int) (dY r.au r.aH r.bj.length h i)).getD (ag.mk 0 0))=O from by rw [b]; rfl]
 refine eN 6 [0,1,2] (mr 14 U (mc 0 U (mc 1 U I))) U<|rS (BI U (sR om om om))<|eN 5 [0,1] (mc 0 U (mc 1 U I)) U<|rS (BI U (sR om om om))<|rP 1 [] I ?_
 refine rS (SX (a_ (xs:=[(0,.tmp 52),(1,.tmp 58)]) (cs:=(ag.cells (ag.mk (O.Lo+(x.Lo/10)) (O.Hi+(x.Hi/10))))) U U (bf gM U)) U U) ?_
 have X:(dz (dY r.au r.aH r.bj.length h i) (i:Int) (ag.mk (O.Lo+(x.Lo/10)) (O.Hi+(x.Hi/10))))=(dY r.au r.aH r.bj.length h (i+1)):=by exact LU om (by rw [M]; rfl) (by rw [e]; exact Cs B hd (by rw [J]; decide) M)
 refine il (kV:=iV) (x:=(i:Int)) (C':=[_,_,_,_,_,_,_,_,_,_,_,_,_,_,_,(jM iV gm (cK jG (dY r.au r.aH r.bj.length h (i+1))))]) 15 U U U U rO (gJ rM) U ((fU _ _ _ _).symm.trans (congrArg _ X)) U<|aD<|aL<|KK L<|aq<|rP 2 [] I ?_
 refine aD ?_
 have Y:(vI (((i+1):Nat):Int))=(vI ((i:Int)+1)):=by exact cI om
 refine a7 (K ⟨(i+1),(by first|omega|(simp only []; omega))⟩ _ _ _ U os (cw 5<|aX U Y<|df.nil _) (aP [2,3,4,5,6,7,8,9,10,11,12,13,14,15]))
theorem QS (r:eV) (kA:OA) (kC:Nat) (az:List RA) (cA:OA) (cC:Nat) (bA:OA) (bC:Nat) (slA:OA) (slC:Nat) (drA:OA) (drC:Nat) (ha:List dG) (heA:OA) (heC:Nat) (tz:List RA) (tA:OA) (tC:Nat) (ms:Value) (gw n:Nat) (hin:ov r az ha) (htz:tz.length=r.aH.length) (hn:n≤r.aH.length) (hok:j7 r n):
 q6 Tryz.prog 128 [(vP gw),(vI (n:Int))] [(rd kA r.au.aV.length 9 (r.au.aV.map ao.cells)),(rd cA r.au.ar.length 2 (List.zipWith ay.cells r.au.ar az)),(dL (br ay.gn r.au.ar az)),(rd bA r.au.ab.length 4 (r.au.ab.map bI.cells)),(rd slA r.bj.length 1 (r.bj.map iC)),(rd drA r.cq.length 1 (r.cq.map iC)),(rd heA r.aH.length 1 (List.zipWith de r.aH ha)),(dL (br eY r.aH ha)),(rd tA ((fB r).length) 1 (List.zipWith K_ (fB r) tz)),(dL (br PF (fB r) tz)),(cm gw 212 (kb.cells (kb.mk (zM r kA kC cA cC bA bC slA slC drA drC heA heC) (bH.mk tA ((fB r).length) tC) ms)))] (fun (x:Nat)=>(Value.map (some x))) (fun (x:Nat)=>True) (fun (x:Nat)=>[(jM iV x (cK jG (AY r n)))]):=by
 have c:=hin.line
 have m:=hin.iX
 have o:=hin.has
 have e:=hin.iW
 have d:=hin.draw
 have f:=kH (r:=r)
 refine fR kr Tryz.func128 U U fun q Q hQ hN=>?_
 try dsimp only
 refine WS fun _ V=>vR U U fun k=>rP 1 [] I ?_
 refine RK V<|WS fun _ W=>lj (kV:=iV) U U fun B=>?_
 try dsimp only
 refine AL U QF fun l=>MK U Ea U U<|RK W<|aj fun _ X=>WS fun _ Y=>eN 1 [] (mc 2 U I) U<|rS (SX (cM U U) U U)<|rP 5 [] (mr 13 U I) ?_
 refine RK Y<|aB ?_
 skip
 have A:(0≤r.bj.length):=by exact Nat.zero_le _
 refine bT (ι:={z:Nat // (z≤r.bj.length)}) [1,2,5,15] [0,2,3,4,5,6,7,8,9,10,11,12,13] U U (fun z=>[(16,(vI (z.1:Int)))]) (fun z=>[(jM iV B (cK jG (dY r.au r.aH z.1 0 0)))]) (fun _=>rfl) (fun _=>rfl) (fun z=>r.bj.length-z.1) ⟨0,A⟩ (bx U) (aP [0,2,3,4,5,6,7,8,9,10,11,12,13,1]) ?_
 clear A
 rintro ⟨i,a⟩ J8 AA
 try dsimp only
 refine WS fun _ Z=>rP 1 [] I ?_
 refine RK Z<|aj fun _ D=>cu U (aU fun S=>?_) (aT fun S=>?_)
 ·refine WK D<|aj fun _ E=>aB<|WS fun _ F=>bE 2 U<|RK F<|aq<|rP 2 [] (mc 0 U I) ?_
  refine rS (SX (a_ (xs:=[]) (cs:=(ag.cells (ag.mk 0 0))) U U (bf gM U)) U U) ?_
  have O:(dz (dY r.au r.aH i 0 0) (i:Int) (ag.mk 0 0))=(dY r.au r.aH (i+1) 0 0):=by exact Mn
  refine il (kV:=iV) (x:=(i:Int)) (C':=[_,_,_,_,_,_,_,_,_,_,_,_,_,(jM iV B (cK jG (dY r.au r.aH (i+1) 0 0)))]) 13 U U U U rO (gJ rM) U ((fU _ _ _ _).symm.trans (congrArg _ O)) U<|aD<|aL<|KK E<|aq<|rP 2 [] I ?_
  refine aD ?_
  have P:(vI (((i+1):Nat):Int))=(vI ((i:Int)+1)):=by exact cI om
  refine a7 (AA ⟨(i+1),(by first|omega|(simp only []; omega))⟩ _ _ _ U os (cw 4<|aX U P<|df.nil _) (aP [0,1,2,3,4,5,6,7,8,9,10,11,12,13]))
 refine bL<|ai<|ai<|aG<|KK X<|WS fun _ G=>rS (FU U)<|bE 1 U<|RK G<|aj fun _ H=>WS fun _ AB=>rP 2 [] I ?_
 refine RK AB<|aB ?_
 rw [show (dY r.au r.aH i 0 0)=(dY r.au r.aH r.bj.length 0 0) from by rw [show i=r.bj.length by omega]]
 have A:(0≤n):=by exact Nat.zero_le _
 refine bT (ι:={z:Nat // (z≤n)}) [2,5,7,24] [0,1,2,3,4,5,6,7,8,9,10,11,12] U U (fun z=>[(25,(vI (z.1:Int)))]) (fun z=>[(jM iV B (cK jG (dY r.au r.aH r.bj.length z.1 0)))]) (fun _=>rfl) (fun _=>rfl) (fun z=>n-z.1) ⟨0,A⟩ (bx U) (aP [0,1,2,3,4,5,6,7,8,9,10,11,12,13]) ?_
 clear A
 rintro ⟨h,b⟩ J19 C
 try dsimp only
 refine WS fun _ J=>rP 1 [] I ?_
 refine RK J<|aj fun _ K=>bQ U (aT fun T=>?_) (aU fun T=>?_)
 ·refine bL<|ai<|ai<|aG<|KK H<|aj fun _ N=>?_
  rw [show (dY r.au r.aH r.bj.length h 0)=(AY r n) from by rw [show h=n by omega]; exact Mf]
  refine aq<|rP 2 [] (mc 0 U I) ?_
  refine RK N<|ak<|LX hQ B [13] [] I U U U U ?_
  trivial
 refine WK K<|aj fun _ L=>aB<|WS fun _ M=>bE 2 U<|RK M<|aq<|rP 2 [] I ?_
 refine nT 13 U U U U (JI r kA kC az cA cC bA bC slA slC drA drC ha heA heC tz tA tC ms gw h B k l hin htz om (by exact fun j x hj hx=>hok j x om hx)) U (dW 2 U U (dy (bR _)) (dW 3 U U (dy (bR _)) (dW 4 U U (dy (bR _)) (dW 5 U U (dy (bR _)) (dW 6 U U (dy (bR _)) (dW 7 U U (dy (bR _)) (dW 8 U U (dy (bR _)) (dW 9 U U (dy (bR _)) (dW 10 U U (dy (bR _)) (dW 11 U U (dy (bR _)) (dW 12 U U (dy (bR _)) (dW 1 U U (bR _) (dW 0 U U (bR _) qT))))))))))))) U (fun p g=>?_)
 try dsimp only
 refine aD<|aL<|KK L<|aq<|rP 2 [] I ?_
 refine aD ?_
 have R:(vI (((h+1):Nat):Int))=(vI ((h:Int)+1)):=by exact cI om
 refine a7 (C ⟨(h+1),(by first|omega|(simp only []; omega))⟩ _ _ _ U os (cw 4<|aX U R<|df.nil _) (aP [0,1,2,3,4,5,6,7,8,9,10,11,12,13]))
end
section
open Go.RowKit
theorem KH (r:eV) (kA:OA) (kC:Nat) (az:List RA) (cA:OA) (cC:Nat) (bA:OA) (bC:Nat) (slA:OA) (slC:Nat) (drA:OA) (drC:Nat) (ha:List dG) (heA:OA) (heC:Nat) (hin:ov r az ha):
 q6 Tryz.prog 103 [(vA (ig.cells (zM r kA kC cA cC bA bC slA slC drA drC heA heC)))] [(rd gN 3 2 fF),(rd kA r.au.aV.length 9 (r.au.aV.map ao.cells)),(rd cA r.au.ar.length 2 (List.zipWith ay.cells r.au.ar az)),(dL (br ay.gn r.au.ar az)),(rd bA r.au.ab.length 4 (r.au.ab.map bI.cells)),(rd slA r.bj.length 1 (r.bj.map iC)),(rd drA r.cq.length 1 (r.cq.map iC)),(rd heA r.aH.length 1 (List.zipWith de r.aH ha)),(dL (br eY r.aH ha))] (fun (x:Bool×Int×Nat×Nat×(OA)×Nat×(List RA))=>bif x.1 then (vT [(Value.pointer (some ⟨x.2.2.1,0,none⟩)),(vI 0)]) else (vT [(Value.pointer none),(vI x.2.1)])) (fun (x:Bool×Int×Nat×Nat×(OA)×Nat×(List RA))=>(x.1=true→(jv r=0∧x.2.2.2.2.2.2.length=r.aH.length))∧(x.1=false→(x.2.1=jv r∧ ¬ jv r=0))) (fun (x:Bool×Int×Nat×Nat×(OA)×Nat×(List RA))=>bif x.1 then [(cm x.2.2.1 212 (kb.cells (kb.mk (zM r kA kC cA cC bA bC slA slC drA drC heA heC) (bH.mk x.2.2.2.2.1 ((fB r).length) x.2.2.2.2.2.1) (Value.map (some x.2.2.2.1))))),(own x.2.2.2.2.1 x.2.2.2.2.2.1 204 1 (List.zipWith K_ (fB r) x.2.2.2.2.2.2)),(bX (br D4 (fB r) x.2.2.2.2.2.2)),(jM iV x.2.2.2.1 (cK jG (M3 r)))] else []):=by
 have K8:=hin.line
 have Ob:=hin.iX
 have Ok:=hin.has
 have L3:=hin.iW
 have L0:=hin.draw
 have GE:=kH (r:=r)
 refine fR kr Tryz.func103 U U fun w0 Q hQ hN=>?_
 try dsimp only
 refine WS fun _ J5=>er U fun b2=>bE 2 U<|RK J5<|aj fun _ J6=>WS fun _ J7=>bE 1 U<|rS (LP (cV.cells (jN r.au kA kC cA cC bA bC)) 0 U cb U U U)<|rS (CL (wU r.au kA kC az cA cC bA bC asm) (bq [2,3,4,5]) U)<|bE 1 U<|RK J7<|WS fun _ J8=>rP 2 [] I ?_
 refine RK J8<|cu U (bp fun B=>?_) (bo fun B=>?_)
 ·refine WS fun _ J9=>rP 3 [] I ?_
  refine RK J9<|ak<|LX hQ (false,(dw r.au),0,0,none,0,[]) [] [] I U (by rfl) U U ?_
  exact vy<|Ej (yB B) B
 refine WK J6<|WS fun _ Kf=>eN 4 [] (mc 0 U I) U<|RK Kf<|WS fun _ Kn=>rP 2 [] (mc 0 U I) ?_
 refine cX (IF drA r.cq.length drC) (aM) U fun G5 Ma=>?_
 try dsimp only
 refine cX (HQ r.cq drA drC G5 asm) (bq [8,0]) U fun Lo M2=>?_
 obtain ⟨NN,OR⟩:=Lo
 try dsimp only
 refine bE 1 U<|RK Kn<|aj fun _ e=>WS fun _ H=>rP 1 [] I ?_
 refine dZ (xs:=[.tmp 29]) (cs:=[(vI (r.bj.length:Int))]) U dp j5 U U U U (by simp [Value.cells]) U U fun Hi=>?_
 refine rS (CL (dx.eq (sO 1 5 ([(r.bj.length:Int)]) (some ⟨Hi,0,none⟩) 1 (by (simp; done))) cv) (aK (bk 0 U U (by simp [bJ]) U)<|aM) U) ?_
 refine rP 2 [] I ?_
 refine bU (t:=33) U (bp fun Id=>?_) (bo fun Id=>?_)
 ·refine bE 26 U<|RK H<|aQ U<|WS fun _ f=>rP 2 [] I ?_
  refine RK f<|ak<|LX hQ (false,60,0,0,none,0,[]) [] [] I U (by rfl) U U ?_
  exact vy<|nD (kj B (fun q:fj r=>by have q1:=q.num; have q2:=q.z3; have q3:=q.nh; have q4:=q.zi; omega))
 refine rP 6 [] I ?_
 refine bU (t:=39) U (bp fun If=>?_) (bo fun If=>?_)
 ·refine bE 20 U<|RK H<|aQ U<|WS fun _ g=>rP 2 [] I ?_
  refine RK g<|ak<|LX hQ (false,60,0,0,none,0,[]) [] [] I U (by rfl) U U ?_
  exact vy<|nD (kj B (fun q:fj r=>by have q1:=q.num; have q2:=q.z3; have q3:=q.nh; have q4:=q.zi; omega))
 refine rP 2 [] (mc 3 U I) ?_
 refine dZ (xs:=[.tmp 41]) (cs:=[(vI r.qe)]) U dp j5 U U U U (by simp [Value.cells]) U U fun H1=>?_
 refine rS (CL (dx.eq (sO 0 5 ([r.qe]) (some ⟨H1,0,none⟩) 1 (by (simp; done))) cv) (aK (bk 0 U U (by simp [bJ]) U)<|aM) U) ?_
 refine rP 3 [] I ?_
 refine bU (t:=46) U (bp fun In=>?_) (bo fun In=>?_)
 ·refine bE 13 U<|RK H<|aQ U<|WS fun _ k=>rP 2 [] I ?_
  refine RK k<|ak<|LX hQ (false,60,0,0,none,0,[]) [] [] I U (by rfl) U U ?_
  exact vy<|nD (kj B (fun q:fj r=>by have q1:=q.num; have q2:=q.z3; have q3:=q.nh; have q4:=q.zi; omega))
 refine rP 3 [] (mc 4 U I) ?_
 refine dZ (xs:=[.tmp 49]) (cs:=[(vI (r.aH.length:Int))]) U dp j5 U U U U (by simp [Value.cells]) U U fun IO=>?_
 refine rS (CL (dx.eq (sO 1 3 ([(r.aH.length:Int)]) (some ⟨IO,0,none⟩) 1 (by (simp; done))) cv) (aK (bk 0 U U (by simp [bJ]) U)<|aM) U) ?_
 refine rP 3 [] I ?_
 refine bU (t:=54) U (bp fun Ja=>?_) (bo fun Ja=>?_)
 ·refine bE 5 U<|RK H<|aQ U<|WS fun _ l=>rP 2 [] I ?_
  refine RK l<|ak<|LX hQ (false,60,0,0,none,0,[]) [] [] I U (by rfl) U U ?_
  exact vy<|nD (kj B (fun q:fj r=>by have q1:=q.num; have q2:=q.z3; have q3:=q.nh; have q4:=q.zi; omega))
 refine eN 2 [] (mc 5 U I) U<|rS (CL (sO 0 9999 r.bj slA slC asm) (bq [11]) U)<|rP 2 [] I ?_
 refine RK H<|cu U (fun N=>?_) (fun N=>?_)
 ·rw [Bool.not_eq_true'] at N
  refine WS fun _ m=>rP 2 [] I ?_
  refine RK m<|ak<|LX hQ (false,60,0,0,none,0,[]) [] [] I U (by rfl) U U ?_
  exact vy<|nD (kj B (fun q:fj r=>by exact absurd (q.ins.symm.trans N) dc))
 rw [Bool.not_eq_false'] at N
 refine WK e<|aj fun _ o=>WS fun _ p=>?_
 have Oo:(m8 r.cq).length=r.bj.length:=by rw [sX]; omega
 refine rP 2 [] I ?_
 refine RK p<|aB ?_
 have A:(0≤r.bj.length)∧(rp r 0):=by exact ⟨Nat.zero_le _,DG⟩
 refine bT (ι:={z:Nat // (z≤r.bj.length)∧(rp r z)}) [1,5,6,60] [3,5,6,7,8,9,10,11,12,13,14] U U (fun z=>[(61,(vI (z.1:Int)))]) (fun z=>[]) (fun _=>rfl) (fun _=>rfl) (fun z=>r.bj.length-z.1) ⟨0,A⟩ (bx U) (aP [3,5,6,7,8,9,10,11,12,13,14]) ?_
 clear A
 rintro ⟨i,⟨K5,J⟩⟩ J28 V
 try dsimp only
 refine WS fun _ s=>rP 1 [] I ?_
 refine RK s<|aj fun _ w=>cu U (aU fun Jt=>?_) (aT fun Jt=>?_)
 ·refine WK w<|aj fun _ W=>aB<|WS fun _ AC=>bE 2 U<|RK AC<|aj fun _ O=>dg cp 24 kr<|dP 2 [] I ?_
  obtain ⟨x,hx⟩:=aJ (m8 r.cq) i om
  have LA:=bK iC hx
  refine dS (IA i U (aN (n:=r.cq.length) 0 U sq) dp dc om om) ?_
  refine dS (hG i 0 (vI x) U cb (aN (n:=(m8 r.cq).length) 0 U sm) LA U dc U)<|dP 3 [] I ?_
  refine gY (t:=70) U (bp fun S=>?_) (bo fun S=>?_)
  ·refine kI 17 U<|cE<|RK O<|aQ U<|WS fun _ AO=>rP 2 [] I ?_
   refine RK AO<|ak<|LX hQ (false,60,0,0,none,0,[]) [] [] I U (by rfl) U U ?_
   exact vy<|nD (kj B (fun q:fj r=>by exact absurd (q.drawn hx) S))
  refine dP 3 [] I ?_
  refine js (t:=73) U (aT fun J2=>?_) (aU fun J2=>?_)
  ·refine kI 14 U<|cE<|RK O<|cg U<|cf<|aL<|KK W<|aq<|rP 2 [] I ?_
   refine aD ?_
   have EF:(vI (((i+1):Nat):Int))=(vI ((i:Int)+1)):=by exact cI om
   refine a7 (V ⟨(i+1),⟨om,xG J hx S (fun u v hu hv hw=>by omega)⟩⟩ _ _ _ U os (cw 4<|aX U EF<|df.nil _) (aP [0,1,2,3,4,5,6,7,8,9,10]))
  refine dP 3 [] (mc 1 U I) ?_
  obtain ⟨y,hy⟩:=aJ r.bj i om
  have LE:=bK iC hy
  refine dS (IA i U (aA 7 U) dp dc om om)<|dS (hG i 0 (vI y) U cb (aA 7 U) LE U dc U)<|dP 4 [] (mc 1 U I) ?_
  obtain ⟨z,hz⟩:=aJ r.bj (i-1) om
  have LT:=bK iC hz
  refine dS (IA (i-1) U (aA 7 U) dp dc om om)<|dS (hG (i-1) 0 (vI z) U cb (aA 7 U) LT U dc U)<|dP 3 [] I ?_
  refine cE<|RK O<|bQ U (aT fun J3=>?_) (aU fun J3=>?_)
  ·refine cf<|aL<|KK W<|aq<|rP 2 [] I ?_
   refine aD ?_
   have Do:(vI (((i+1):Nat):Int))=(vI ((i:Int)+1)):=by exact cI om
   refine a7 (V ⟨(i+1),⟨om,xG J hx S (fun u v hu hv hw=>by (rw [hy] at hu; cases hu; rw [hz] at hw; cases hw; omega))⟩⟩ _ _ _ rfl os (cw 4<|aX rfl Do<|df.nil _) (aP [0,1,2,3,4,5,6,7,8,9,10]))
  refine WS fun _ A0=>rP 2 [] I ?_
  refine RK A0<|ak<|LX hQ (false,60,0,0,none,0,[]) [] [] I U (by rfl) U U ?_
  exact vy<|nD (kj B (fun q:fj r=>by have q1:=(q.ids i y hy).2 z om hz; omega))
 refine bL<|ai<|ai<|aG<|KK o<|WS fun _ A1=>eN 1 [] (mc 1 U I) U<|rS (SX (a_ (xs:=[(0,.tmp 89)]) (cs:=(kb.cells (kb.mk (zM r kA kC cA cC bA bC slA slC drA drC heA heC) (bH.mk none 0 0) (Value.map none)))) U U (bf P1 U)) U U)<|er U fun L=>bE 1 U<|RK A1<|aj fun _ A2=>WS fun _ A3=>rP 4 [] (mc 2 U I) ?_
 refine RK A3<|aB<|ew 204 1<|qE ?_
 have A:(0≤r.aH.length)∧(([]:List RA).length=0)∧(j7 r 0):=by exact ⟨Nat.zero_le _,rfl,vZ⟩
 refine bT (ι:={z:Nat×(List RA)×(OA)×Nat // (z.1≤r.aH.length)∧(z.2.1.length=z.1)∧(j7 r z.1)}) [1,5,8,93,94] [3,4,5,6,7,8,9,10,11,12,13] U U (fun z=>[(95,(vI (z.1.1:Int)))]) (fun z=>[(bX (br D4 (gH r z.1.1) z.1.2.1)),(own z.1.2.2.1 z.1.2.2.2 204 1 (List.map sC (List.zipWith Ay (gH r z.1.1) z.1.2.1))),(cm L 212 (kb.cells (kb.mk (zM r kA kC cA cC bA bC slA slC drA drC heA heC) (bH.mk z.1.2.2.1 ((List.zipWith Ay (gH r z.1.1) z.1.2.1).length) z.1.2.2.2) (Value.map none))))]) (fun _=>rfl) (fun _=>rfl) (fun z=>r.aH.length-z.1.1) ⟨(0,([]:List RA),none,0),A⟩ (bx U) (aP [3,4,5,6,7,8,9,10,11,12,13,0,1,2]) ?_
 clear A
 rintro ⟨⟨h,tz,a,c⟩,⟨T,C,E⟩⟩ J42 Z
 try dsimp only at T C E
 try dsimp only
 refine WS fun _ A4=>rP 1 [] I ?_
 refine RK A4<|aj fun _ A5=>bQ U (aT fun J4=>?_) (aU fun J4=>?_)
 ·refine bL<|ai<|ai<|aG<|KK A2<|aj fun _ C3=>?_
  have K4:gH r h=fB r:=by unfold fB; rw [show h=r.aH.length by omega]
  have GT:tz.length=r.aH.length:=by omega
  rw [K4,yE,show (List.zipWith Ay (fB r) tz).length=(fB r).length from by rw [List.length_zipWith]; omega]
  have X:fj r:=Kh (n:=i) om om om om om N J E om
  refine aq<|rP 5 [] (mc 1 U I) ?_
  refine cX (QS r kA kC az cA cC bA bC slA slC drA drC ha heA heC tz a c (Value.map none) L r.aH.length hin asm om (by exact X.KW)) (ox [3,4,5,6,7,8,9,10]<|aK (aN (n:=(fB r).length) 12 U (L_ (by rw [GE]; exact GT)))<|aK (fM 11 U Sl)<|gT 13 U U<|aM) U fun K NE=>?_
  try dsimp only
  refine rS (SX (cM U U) U U)<|rP 1 [] I ?_
  refine ib (vs:=[(Value.map (some K))]) (cs':=(kb.cells (kb.mk (zM r kA kC cA cC bA bC slA slC drA drC heA heC) (bH.mk a ((fB r).length) c) (Value.map (some K))))) (C':=[_,_,_,_,_,_,_,_,_,_,_,_,_,_,(cm L 212 (kb.cells (kb.mk (zM r kA kC cA cC bA bC slA slC drA drC heA heC) (bH.mk a ((fB r).length) c) (Value.map (some K)))))]) 14 U U U Ea U U U U U U U<|RK C3<|aj fun _ Di=>?_
  rw [show AY r r.aH.length=M3 r from rfl]
  refine aq<|rP 3 [] I ?_
  refine RK Di<|ak ?_
  refine LX hQ (true,0,L,K,a,c,tz) [14,13,12,0] [] I U (by (show List.all _ _=true; simp only [cond_true,fy,List.all_nil,DR,Bool.and_true]; rfl)) U U ?_
  exact ⟨fun _=>⟨BM B X,GT⟩,PJ⟩
 refine WK A5<|aj fun _ A6=>aB<|WS fun _ A7=>?_
 obtain ⟨ht,D⟩:=aJ r.aH h om
 obtain ⟨G,AB⟩:=aJ ha h om
 have Fn:(List.zipWith de r.aH ha)[h]? =some (de ht G):=dC D AB
 refine rS (IA h U (aA 9 U) rK dc om om)<|rS (hG h 0 (vS G.1.1 ht.length G.1.2) U cb (aA 9 U) Fn U dc U)<|rP 1 [] I ?_
 refine RK A7<|aj fun _ A8=>WS fun _ A9=>?_
 have Fd:=hin.gj _ _ _ D AB
 have L2:=Fd.ot
 refine rP 4 [] I ?_
 refine RK A9<|cu U (bp fun Y=>?_) (bo fun Y=>?_)
 ·refine WS fun _ BV=>rP 2 [] I ?_
  refine RK BV<|ak<|LX hQ (false,60,0,0,none,0,[]) [] [] I U (by rfl) U U ?_
  exact vy<|nD (kj B (fun q:fj r=>by have q1:=(q.gj ht (aR D)).1; omega))
 refine WK A8<|WS fun _ B3=>bE 1 U<|RK B3<|aj fun _ B9=>WS fun _ CF=>rP 3 [] I ?_
 refine RK CF<|aB<|ew 53 2 ?_
 have A:(0≤ht.length)∧(nR r.au ht 0):=by exact ⟨Nat.zero_le _,vq⟩
 refine bT (ι:={z:Nat×(OA)×Nat // (z.1≤ht.length)∧(nR r.au ht z.1)}) [1,5,8,10,93,94,95,103,104] [1,2,3,4,5,6,7,8,9,10,11,12,13,14] U U (fun z=>[(11,(vS z.1.2.1 (((ht.take z.1.1).map (fP r.au)).length) z.1.2.2)),(105,(vI (z.1.1:Int)))]) (fun z=>[(own z.1.2.1 z.1.2.2 53 2 (((ht.take z.1.1).map (fP r.au)).map ag.cells))]) (fun _=>rfl) (fun _=>rfl) (fun z=>ht.length-z.1.1) ⟨(0,none,0),A⟩ (bx U) (aP [1,2,3,4,5,6,7,8,9,10,11,12,13,14,0]) ?_
 clear A
 rintro ⟨⟨j,la,lc⟩,⟨AA,F⟩⟩ J53 b
 try dsimp only at AA F
 try dsimp only
 refine WS fun _ Cf=>rP 1 [] I ?_
 refine RK Cf<|aj fun _ Ci=>bQ U (aT fun Jc=>?_) (aU fun Jc=>?_)
 ·refine bL<|ai<|ai<|aG<|KK B9<|aq<|bE 2 U<|rS (SX (cM U U) U U)<|rP 2 [] (mc 13 U I) ?_
  rw [show ((ht.take j).map (fP r.au))=ht.map (fP r.au) from by rw [List.take_of_length_le om]]
  refine rP 1 [] I ?_
  refine dZ (xs:=[.tmp 128]) (cs:=[(vS la ((ht.map (fP r.au)).length) lc)]) U Hv Nx U U U U (by simp [Value.cells]) U U fun N_=>?_
  refine fg (es2:=(List.map sC (List.zipWith Ay (gH r (h+1)) (tz++[(la,lc)])))) (m':=(List.zipWith Ay (gH r (h+1)) (tz++[(la,lc)])).length) 13 U U U MW U U sm (bk (es:=List.map sC [(bH.mk la ((ht.map (fP r.au)).length) lc)]) 0 U U (by simp [yA]) U) (Jf _) (by rw [List.length_zipWith,kJ om]; omega) (by rw [List.length_zipWith,kJ om]; simp only [maxLen]; omega) (by rw [tp D C,List.map_append]; rfl) (by rw [tp D C]; simp) U fun P R=>?_
  try dsimp only
  refine rS (SX (cM U U) U U)<|bE 1 U<|ib (vs:=[(vS P ((List.zipWith Ay (gH r (h+1)) (tz++[(la,lc)])).length) R)]) (cs':=(kb.cells (kb.mk (zM r kA kC cA cC bA bC slA slC drA drC heA heC) (bH.mk P ((List.zipWith Ay (gH r (h+1)) (tz++[(la,lc)])).length) R) (Value.map none)))) (C':=[_,_,_,_,_,_,_,_,_,_,_,_,_,_,(cm L 212 (kb.cells (kb.mk (zM r kA kC cA cC bA bC slA slC drA drC heA heC) (bH.mk P ((List.zipWith Ay (gH r (h+1)) (tz++[(la,lc)])).length) R) (Value.map none)))),_]) 14 U U U Rb U U U U U U U<|aD<|aL<|KK A6<|aq<|rP 2 [] I ?_
  refine aD<|yc (X':=br D4 (gH r (h+1)) (tz++[(la,lc)])) 12 15 U U (BT (a:=(la,lc)) D C) ?_
  have Eq:(vI (((h+1):Nat):Int))=(vI ((h:Int)+1)):=by exact cI om
  refine a7 (Z ⟨((h+1),(tz++[(la,lc)]),P,R),⟨om,by simp; omega,v8 E D (Ep om F om)⟩⟩ _ _ _ U os (cw 5<|aX U Eq<|df.nil _) (aP [2,3,4,5,6,7,8,9,10,11,12,0,13,14]))
 refine WK Ci<|aj fun _ Ck=>aB<|WS fun _ Cp=>?_
 obtain ⟨d,hd⟩:=aJ ht j om
 obtain ⟨da,FS⟩:=aJ G.2 j om
 have K0:(List.zipWith aw.cells ht G.2)[j]? =some (aw.cells d da):=dC hd FS
 refine rS (IA j U (show iN _ (rd G.1.1 ht.length 7 (List.zipWith aw.cells ht G.2)).holds from (cR 10 U (bM D AB ct))) s8 dc om om)<|rS (lh j 0 (aO.cells (aO.mk d.Out d.c_ d.Time (cN.mk d.bw.Start d.bw.fJ (bH.mk da.1 d.bw.aa.length da.2)))) U cb (show iN _ (rd G.1.1 ht.length 7 (List.zipWith aw.cells ht G.2)).holds from (cR 10 U (bM D AB ct))) K0 U dc U U)<|AL U zS fun NZ=>fu U Cv U<|RK Cp<|WS fun _ Cx=>bE 1 U<|rS (LP (cV.cells (jN r.au kA kC cA cC bA bC)) 2 U cb U U U)<|rP 1 [] (mc 0 U I) ?_
 have Op:=Fd.sig d (aR hd)
 refine rS (CL (CY r.au kA kC az cA cC bA bC d da.1 da.2 asm asm) (ox [3,4,5,6,7]<|aK (show iN _ (rd da.1 d.bw.aa.length 2 (d.bw.aa.map aF.cells)).holds from (cR 11 U (bM D AB (dJ _ (bM hd FS (by simp [aw.gn]))))))<|aM) U)<|bE 3 U<|AL U dN fun Ne=>fu U cS U<|bE 1 U<|RK Cx<|aj fun _ C0=>WS fun _ C1=>rP 2 [] I ?_
 refine RK C1<|bQ U (bo fun M=>?_) (bp fun M=>?_)
 ·refine WK C0<|aq<|rP 2 [] (mc 0 U I) ?_
  refine dZ (xs:=[.tmp 119]) (cs:=(ag.cells (fP r.au d))) U kS dN U U U U (by simp [Value.cells,ag.aY]) U U fun Nn=>?_
  refine fg (es2:=(List.map ag.cells ((ht.take (j+1)).map (fP r.au)))) (m':=((ht.take (j+1)).map (fP r.au)).length) 17 U U U Ex U U sm (bk (es:=List.map ag.cells [(fP r.au d)]) 0 U U (by simp [ag.aY]) U) (ky _) (by simp only [List.length_map,List.length_take]; omega) (by simp only [maxLen,List.length_map,List.length_take]; omega) (by rw [List.take_add_one,hd]; simp) sq U fun Go IR=>?_
  try dsimp only
  refine bE 1 U<|aD<|aL<|KK Ck<|aq<|rP 2 [] I ?_
  refine aD ?_
  have EQ:(vI (((j+1):Nat):Int))=(vI ((j:Int)+1)):=by exact cI om
  refine a7 (b ⟨((j+1),Go,IR),⟨om,vh F hd M⟩⟩ _ _ _ U os (cw 10<|aX U EQ<|df.nil _) (aP [3,4,5,6,7,8,9,10,11,12,13,14,15,16,17]))
 refine WS fun _ C2=>rP 2 [] I ?_
 refine RK C2<|ak<|LX hQ (false,60,0,0,none,0,[]) [] [] I U (by rfl) U U ?_
 exact vy<|nD (kj B (fun q:fj r=>by exact M ((q.gj ht (aR D)).2 d (aR hd))))
end
section
open Go.RowKit
theorem JU (r:eV) (kA:OA) (kC:Nat) (az:List RA) (cA:OA) (cC:Nat) (bA:OA) (bC:Nat) (slA:OA) (slC:Nat) (drA:OA) (drC:Nat) (ha:List dG) (heA:OA) (heC:Nat) (hin:ov r az ha):
 dx Tryz.prog 79 [(vA (ig.cells (zM r kA kC cA cC bA bC slA slC drA drC heA heC)))] [(rd gN 3 2 fF),(rd kA r.au.aV.length 9 (r.au.aV.map ao.cells)),(rd cA r.au.ar.length 2 (List.zipWith ay.cells r.au.ar az)),(dL (br ay.gn r.au.ar az)),(rd bA r.au.ab.length 4 (r.au.ab.map bI.cells)),(rd slA r.bj.length 1 (r.bj.map iC)),(rd drA r.cq.length 1 (r.cq.map iC)),(rd heA r.aH.length 1 (List.zipWith de r.aH ha)),(dL (br eY r.aH ha))] (vI (jv r)):=by
 have H:=hin.line
 have R:=hin.iX
 have S:=hin.has
 have J:=hin.iW
 have AB:=hin.draw
 have K:=kH (r:=r)
 refine bB kr Tryz.func79 U U fun X Q hQ hN=>?_
 try dsimp only
 refine WS fun _ G=>er U fun W=>bE 1 U<|RK G<|WS fun _ C=>rP 1 [] (mc 0 U I) ?_
 refine cX (KH r kA kC az cA cC bA bC slA slC drA drC ha heA heC hin) (bq [1,2,3,4,5,6,7,8,9]) U fun V E=>?_
 obtain ⟨F,N,P,O,AA,L,M⟩:=V
 cases F
 rotate_left 1
 ·obtain ⟨he,T⟩:=E.1 rfl
  try dsimp only [cond_true,cond_false,List.cons_append,List.nil_append]
  refine bE 5 U<|RK C<|WS fun _ B=>rP 2 [] I ?_
  refine RK B<|ak<|Q1 hQ U U U ?_
  first|rfl|(rw [he])
 obtain ⟨D,he⟩:=E.2 rfl
 try dsimp only at D he
 subst D
 try dsimp only [cond_true,cond_false,List.cons_append,List.nil_append]
 refine bE 5 U<|RK C<|WS fun _ A=>rP 2 [] I ?_
 refine RK A<|ak<|Q1 hQ U U U ?_
 first|rfl|(rw [he])
end
section
open Go.RowKit
theorem HU (j:cH) (kA:OA) (kC:Nat) (az:List RA) (cA:OA) (cC:Nat) (bA:OA) (bC:Nat) (slA:OA) (slC:Nat) (drA:OA) (drC:Nat) (ha:List dG) (heA:OA) (heC:Nat) (faA:OA) (faC:Nat) (prA:OA) (prC:Nat) (hin:gZ j az ha):
 dx Tryz.prog 52 [(vA (gG.cells (nN j kA kC cA cC bA bC slA slC drA drC heA heC faA faC prA prC)))] [(rd gN 3 2 fF),(rd kA j.Race.au.aV.length 9 (j.Race.au.aV.map ao.cells)),(rd cA j.Race.au.ar.length 2 (List.zipWith ay.cells j.Race.au.ar az)),(dL (br ay.gn j.Race.au.ar az)),(rd bA j.Race.au.ab.length 4 (j.Race.au.ab.map bI.cells)),(rd slA j.Race.bj.length 1 (j.Race.bj.map iC)),(rd drA j.Race.cq.length 1 (j.Race.cq.map iC)),(rd heA j.Race.aH.length 1 (List.zipWith de j.Race.aH ha)),(dL (br eY j.Race.aH ha)),(rd faA j.aI.length 4 (j.aI.map aS.cells)),(rd prA j.ax.length 5 (j.ax.map aZ.cells))] (vI (dU j)):=by
 have GT:=hin.race
 have K0:=hin.race.line
 have Ok:=hin.race.iX
 have Oo:=hin.race.has
 have NE:=hin.race.iW
 have L2:=hin.nf
 have M2:=hin.np
 refine bB kr Tryz.func52 U U fun w0 Q hQ hN=>?_
 try dsimp only
 refine WS fun _ J3=>er U fun b2=>bE 1 U<|RK J3<|zE U<|aj fun _ J4=>WS fun _ J5=>bE 1 U<|rS (LP (ig.cells (zM j.Race kA kC cA cC bA bC slA slC drA drC heA heC)) 0 U cb U U U)<|rS (CL (JU j.Race kA kC az cA cC bA bC slA slC drA drC ha heA heC asm) (bq [1,2,3,4,5,6,7,8,9]) U)<|bE 1 U<|RK J5<|WS fun _ J6=>rP 2 [] I ?_
 refine RK J6<|cu U (bp fun A=>?_) (bo fun A=>?_)
 ·refine WS fun _ J7=>rP 2 [] I ?_
  refine RK J7<|ak<|Q1 hQ U U U ?_
  exact cI (yC A).symm
 refine WK J4<|WS fun _ J8=>rP 2 [] (mc 0 U I) ?_
 refine rS (FU U) ?_
 refine cX (LG j.aI faA faC (Value.func (.func 81) [].toArray [(vP b2)].toArray) (fun u8 u9=>(decide (¬ oj j.Race.au.cD u9))) (dL [(cm b2 36 (gG.cells (nN j kA kC cA cC bA bC slA slC drA drC heA heC faA faC prA prC)))]) (by intro u8 u9 K4; exact kG (fi:=[]) (ca:=[(vP b2)]) (jJ (G3 u8 u9 j kA kC cA cC bA bC slA slC drA drC heA heC faA faC prA prC b2 (by (obtain ⟨i_,_,Kf⟩:=K4; exact hin.kind _ (aR Kf)))) (bq [0]))) asm) (gT 10 rfl rfl<|aK (jF (bq [0]))<|aM) rfl fun La NN=>?_
 obtain ⟨Ne,OR⟩:=La
 try dsimp only
 refine bE 1 U<|RK J8<|aj fun _ b=>WS fun _ G=>rP 5 [] (mc 1 U I) ?_
 refine bU (t:=25) U (aU fun In=>?_) (aT fun In=>?_)
 ·refine bE 24 U<|RK G<|aQ U<|WS fun _ c=>rP 1 [] I ?_
  refine RK c<|ak<|Q1 hQ U U U ?_
  exact cI (jw A (fun q=>by have AA:=q.nf; have O:=q.min_; have V:=q.rY; have W:=q.np; omega)).symm
 refine rP 5 [] I ?_
 refine bU (t:=30) U (aU fun S=>?_) (aT fun S=>?_)
 ·refine bE 19 U<|RK G<|aQ U<|WS fun _ e=>rP 1 [] I ?_
  refine RK e<|ak<|Q1 hQ U U U ?_
  exact cI (jw A (Dr S)).symm
 refine rP 2 [] (mc 1 U I) ?_
 refine dZ (xs:=[.tmp 32]) (cs:=[(vI j.gV)]) U dp j5 U U U U (by simp [Value.cells]) U U fun Go=>?_
 refine rS (CL (dx.eq (iE 0 60 ([j.gV]) (some ⟨Go,0,none⟩) 1 (by (simp; done))) cv) (aK (bk 0 U U (by simp [bJ]) U)<|aM) U) ?_
 refine rP 3 [] I ?_
 refine bU (t:=37) U (bp fun Jc=>?_) (bo fun Jc=>?_)
 ·refine bE 12 U<|RK G<|aQ U<|WS fun _ f=>rP 1 [] I ?_
  refine RK f<|ak<|Q1 hQ U U U ?_
  exact cI (jw A (fun q=>by have AA:=q.nf; have O:=q.min_; have V:=q.rY; have W:=q.np; omega)).symm
 refine rP 2 [] (mc 2 U I) ?_
 refine dZ (xs:=[.tmp 39]) (cs:=[(vI j.Cf)]) U dp j5 U U U U (by simp [Value.cells]) U U fun G5=>?_
 refine rS (CL (dx.eq (iE 0 100000 ([j.Cf]) (some ⟨G5,0,none⟩) 1 (by (simp; done))) cv) (aK (bk 0 U U (by simp [bJ]) U)<|aM) U) ?_
 refine rP 3 [] I ?_
 refine bU (t:=44) U (bp fun Jt=>?_) (bo fun Jt=>?_)
 ·refine bE 5 U<|RK G<|aQ U<|WS fun _ g=>rP 1 [] I ?_
  refine RK g<|ak<|Q1 hQ U U U ?_
  exact cI (jw A (fun q=>by have AA:=q.nf; have O:=q.min_; have V:=q.rY; have W:=q.np; omega)).symm
 refine rP 5 [] (mc 3 U I) ?_
 refine RK G<|cu U (aU fun J2=>?_) (aT fun J2=>?_)
 ·refine WS fun _ h=>rP 1 [] I ?_
  refine RK h<|ak<|Q1 hQ U U U ?_
  exact cI (jw A (fun q=>by have AA:=q.nf; have O:=q.min_; have V:=q.rY; have W:=q.np; omega)).symm
 refine WK b<|WS fun _ l=>bE 1 U<|RK l<|WS fun _ m=>bE 1 U<|RK m<|aj fun _ n=>zc<|KK n<|aj fun _ C=>WS fun _ o=>rP 4 [] (mc 3 U I) ?_
 refine RK o<|aB ?_
 have N:(0≤j.ax.length)∧(nO j 0):=by exact ⟨Nat.zero_le _,xh⟩
 refine bT (ι:={z:Nat // (z≤j.ax.length)∧(nO j z)}) [1,5,51,52] [2,3,4,5,6,7,8,9,10,11,12,13,14] U U (fun z=>[(6,(vI (pb j z.1))),(53,(vI (z.1:Int)))]) (fun z=>[]) (fun _=>rfl) (fun _=>rfl) (fun z=>j.ax.length-z.1) ⟨0,N⟩ (bx U) (aP [2,3,4,5,6,7,8,9,10,11,12,13,14]) ?_
 clear N
 rintro ⟨k,⟨B,D⟩⟩ J28 P
 try dsimp only
 refine WS fun _ r=>rP 1 [] I ?_
 refine RK r<|aj fun _ s=>bQ U (aT fun Ja=>?_) (aU fun Ja=>?_)
 ·refine bL<|ai<|ai<|aG<|KK C<|WS fun _ Di=>rP 2 [] I ?_
  refine RK Di<|ak<|Q1 hQ U U U ?_
  exact cI (xI A ⟨om,BK S,om,om,om,fun i p hi=>D i p (by have:=(aW.1 hi).1; omega) hi⟩).symm
 refine WK s<|aj fun _ R=>aB<|WS fun _ u=>?_
 obtain ⟨p,hp⟩:=aJ j.ax k om
 have K5:=bK aZ.cells hp
 refine rS (IA k U (aA 12 U) BH dc om om)<|rS (lh k 0 (aZ.cells p) U cb (aA 12 U) K5 U dc U U)<|AL U HJ fun Nn=>fu U LD U<|RK u<|WS fun _ AB=>rP 1 [] I ?_
 have Kn:=L8 D B
 refine rP 3 [] (mc 0 U I) ?_
 refine dZ (xs:=[.tmp 60]) (cs:=[(vI p.Id)]) U dp j5 U U U U (by simp [Value.cells]) U U fun Hi=>?_
 refine rS (CL (dx.eq (iE ((pb j k)+1) 9999 ([p.Id]) (some ⟨Hi,0,none⟩) 1 (by (simp; done))) cv) (aK (bk 0 U U (by simp [bJ]) U)<|aM) U) ?_
 refine rP 1 [] I ?_
 refine ck (t:=63) U (aT fun Y=>?_) (aU fun Y=>?_)
 ·refine bE 32 U<|RK AB<|aj fun _ Cx=>WS fun _ C0=>bE 1 U<|RK C0<|cg U<|WK Cx<|aj fun _ L0=>WS fun _ C1=>bE 2 U<|RK C1<|aQ U<|WS fun _ C2=>bE 1 U<|RK C2<|bL<|ai<|eU U<|ai<|ai<|aG<|KK C<|WS fun _ C3=>rP 2 [] I ?_
  refine RK C3<|ak<|Q1 hQ U U U ?_
  exact cI (jw A (rD hp (fun q=>by have q0:=vM q B; have AA:=q.id; have O:=q.kM; have V:=q.gj; have W:=q.fault; simp only [qf] at O; omega))).symm
 refine rP 7 [0,1] (mc 3 U (mc 1 U I)) ?_
 refine dZ (xs:=[.tmp 70]) (cs:=[(vI p.hP)]) U dp j5 U U U U (by simp [Value.cells]) U U fun H1=>?_
 refine rS (CL (dx.eq (iE 0 ((j.Race.bj.length:Int)-1) ([p.hP]) (some ⟨H1,0,none⟩) 1 (by (simp; done))) cv) (aK (bk 0 U U (by simp [bJ]) U)<|aM) U) ?_
 refine rP 2 [] I ?_
 refine ck (t:=74) U (aT fun Z=>?_) (aU fun Z=>?_)
 ·refine bE 21 U<|RK AB<|aj fun _ B9=>WS fun _ CF=>bE 1 U<|RK CF<|cg U<|WK B9<|aj fun _ Lo=>WS fun _ Ci=>bE 2 U<|RK Ci<|aQ U<|WS fun _ Ck=>bE 1 U<|RK Ck<|bL<|ai<|eU U<|ai<|ai<|aG<|KK C<|WS fun _ Cp=>rP 2 [] I ?_
  refine RK Cp<|ak<|Q1 hQ U U U ?_
  exact cI (jw A (rD hp (fun q=>by have q0:=vM q B; have AA:=q.id; have O:=q.kM; have V:=q.gj; have W:=q.fault; simp only [qf] at O; omega))).symm
 refine rP 7 [0,1] (mc 4 U (mc 2 U I)) ?_
 refine dZ (xs:=[.tmp 81]) (cs:=[(vI p.iu)]) U dp j5 U U U U (by simp [Value.cells]) U U fun IO=>?_
 refine rS (CL (dx.eq (iE 0 ((j.Race.aH.length:Int)-1) ([p.iu]) (some ⟨IO,0,none⟩) 1 (by (simp; done))) cv) (aK (bk 0 U U (by simp [bJ]) U)<|aM) U) ?_
 refine rP 2 [] I ?_
 refine ck (t:=85) U (aT fun a=>?_) (aU fun a=>?_)
 ·refine bE 10 U<|RK AB<|aj fun _ A7=>WS fun _ A8=>bE 1 U<|RK A8<|cg U<|WK A7<|aj fun _ Lk=>WS fun _ A9=>bE 2 U<|RK A9<|aQ U<|WS fun _ BV=>bE 1 U<|RK BV<|bL<|ai<|eU U<|ai<|ai<|aG<|KK C<|WS fun _ B3=>rP 2 [] I ?_
  refine RK B3<|ak<|Q1 hQ U U U ?_
  exact cI (jw A (rD hp (fun q=>by have q0:=vM q B; have AA:=q.id; have O:=q.kM; have V:=q.gj; have W:=q.fault; simp only [qf] at O; omega))).symm
 refine rP 6 [0,1] (mc 5 U (mc 3 U I)) ?_
 refine dZ (xs:=[.tmp 91]) (cs:=[(vI p.fZ)]) U dp j5 U U U U (by simp [Value.cells]) U U fun IR=>?_
 refine rS (CL (dx.eq (iE 0 ((j.aI.length:Int)-1) ([p.fZ]) (some ⟨IR,0,none⟩) 1 (by (simp; done))) cv) (aK (bk 0 U U (by simp [bJ]) U)<|aM) U) ?_
 refine bE 2 U<|RK AB<|aj fun _ L=>WS fun _ v=>rP 1 [] I ?_
 refine RK v<|bQ U (aT fun T=>?_) (aU fun T=>?_)
 ·refine WK L<|aj fun _ A3=>WS fun _ A4=>rP 2 [] I ?_
  refine RK A4<|bQ U (bo fun F=>?_) (bp fun F=>?_)
  ·refine WK A3<|aq<|eN 3 [] (mc 4 U I) U<|aD<|aL<|KK R<|aq<|rP 2 [] I ?_
   refine aD ?_
   have FS:(vI (pb j (k+1)))=(vI p.Id):=by exact cI (nc hp)
   have Fd:(vI (((k+1):Nat):Int))=(vI ((k:Int)+1)):=by exact cI om
   refine a7 (P ⟨(k+1),(by exact absurd F T)⟩ _ _ _ U os (cw 4<|aX U FS<|aX U Fd<|df.nil _) (aP [5,6,7,8,9,10,11,12,13,14,15,16,17]))
  refine WS fun _ A5=>bE 1 U<|RK A5<|bL<|ai<|eU U<|ai<|ai<|aG<|KK C<|WS fun _ A6=>rP 2 [] I ?_
  refine RK A6<|ak<|Q1 hQ U U U ?_
  exact cI (jw A (rD hp (fun q=>by have q0:=vM q B; have AA:=q.id; have O:=q.kM; have V:=q.gj; have W:=q.fault; simp only [qf] at O; omega))).symm
 refine aj fun _ w=>dH cp [11,12] [] [] [0,1,2,3,4,5,6,7,8,9,10,11,12,13,14,15,16,17] [] U U U U U<|eS U (FA 0 U fE U)<|eS U (FA 10 U fE U)<|eS U (L1 (vS heA j.Race.aH.length heC) 6 U cb U U)<|eS U (FA 2 U fE U)<|eS U (L1 (vI p.iu) 4 U cb U U) ?_
 have K8:=(eQ A).2
 obtain ⟨ht,K⟩:=aJ j.Race.aH ((p.iu).toNat) om
 obtain ⟨E,J⟩:=aJ ha ((p.iu).toNat) om
 have GE:(List.zipWith de j.Race.aH ha)[(p.iu).toNat]? =some (de ht E):=dC K J
 refine eS U (IA ((p.iu).toNat) U (aA 14 U) rK dc om om)<|eS U (hG ((p.iu).toNat) 0 (vS E.1.1 ht.length E.1.2) U cb (aA 14 U) GE U dc U)<|eS U (FA 1 U fE U) ?_
 have Fn:=GT.gj _ _ _ K J
 have L3:=Fn.ot
 have Ma:=(K8.gj ht (aR K)).1
 refine eS U (L1 (vI p.hP) 4 U cb U U) ?_
 obtain ⟨d,hd⟩:=aJ ht ((p.hP).toNat) om
 obtain ⟨da,J9⟩:=aJ E.2 ((p.hP).toNat) om
 have KW:(List.zipWith aw.cells ht E.2)[(p.hP).toNat]? =some (aw.cells d da):=dC hd J9
 refine eS U (IA ((p.hP).toNat) U (show iN _ (rd E.1.1 ht.length 7 (List.zipWith aw.cells ht E.2)).holds from (cR 15 U (bM K J ct))) s8 dc om om) ?_
 have M:=oG (j:=j) (p:=p) K hd
 have Op:=Fn.sig d (aR hd)
 refine eS U (lh ((p.hP).toNat) 0 (aO.cells (aO.mk d.Out d.c_ d.Time (cN.mk d.bw.Start d.bw.fJ (bH.mk da.1 d.bw.aa.length da.2)))) U cb (show iN _ (rd E.1.1 ht.length 7 (List.zipWith aw.cells ht E.2)).holds from (cR 15 U (bM K J ct))) KW U dc U U)<|ep U<|cj U fun T43 Do=>AL U zS fun N_=>aD (Do _ _ (aP [1,2,3,4,5,6,7,8,9,10,11,12,13,14,15,16,17,18]) ?_)
 refine cj U fun T45 EF=>fu U Cv U<|aD (EF _ _ (aP [1,2,3,4,5,6,7,8,9,10,11,12,13,14,15,16,17,18]) ?_)
 refine fH U<|KK w<|aq<|eN 1 [] (mc 0 U I) U<|rS (CL (tP d.Out d.c_ d.Time (cN.mk d.bw.Start d.bw.fJ (bH.mk da.1 d.bw.aa.length da.2))) (aM) U)<|rP 1 [] I ?_
 refine ck (t:=109) U (aT fun H=>?_) (aU fun H=>?_)
 ·refine bE 9 U<|RK L<|aj fun _ Li=>WS fun _ A0=>bE 2 U<|RK A0<|aQ U<|WS fun _ A1=>bE 1 U<|RK A1<|bL<|ai<|eU U<|ai<|ai<|aG<|KK C<|WS fun _ A2=>rP 2 [] I ?_
  refine RK A2<|ak<|Q1 hQ U U U ?_
  exact cI (jw A (rD hp (fun q=>by obtain ⟨d2,X,r1,r2⟩:=q.jy; rw [M] at X; cases X; first|exact H r1|omega))).symm
 refine rP 5 [0,1] (mc 0 U (mc 5 U I)) ?_
 refine dZ (xs:=[.tmp 114]) (cs:=[(vI p.At)]) U dp j5 U U U U (by simp [Value.cells]) U U fun If=>?_
 refine rS (CL (dx.eq (iE d.bw.Start 86400000 ([p.At]) (some ⟨If,0,none⟩) 1 (by (simp; done))) cv) (aK (bk 0 U U (by simp [bJ]) U)<|aM) U) ?_
 refine bE 2 U<|RK L<|aj fun _ x=>WS fun _ y=>rP 2 [] I ?_
 refine RK y<|bQ U (bo fun F=>?_) (bp fun F=>?_)
 ·refine WK x<|aq<|eN 3 [] (mc 6 U I) U<|aD<|aL<|KK R<|aq<|rP 2 [] I ?_
  refine aD ?_
  have EQ:(vI (pb j (k+1)))=(vI p.Id):=by exact cI (nc hp)
  have Eq:(vI (((k+1):Nat):Int))=(vI ((k:Int)+1)):=by exact cI om
  refine a7 (P ⟨(k+1),(by exact ⟨om,su D hp (Mu hp Y Kn.1 Z a T M H F)⟩)⟩ _ _ _ U os (cw 4<|aX U EQ<|aX U Eq<|df.nil _) (aP [7,8,9,10,11,12,13,14,15,16,17,18,19]))
 refine WS fun _ AC=>bE 1 U<|RK AC<|bL<|ai<|eU U<|ai<|ai<|aG<|KK C<|WS fun _ AO=>rP 2 [] I ?_
 refine RK AO<|ak<|Q1 hQ U U U ?_
 exact cI (jw A (rD hp (fun q=>by obtain ⟨d2,X,r1,r2⟩:=q.jy; rw [M] at X; cases X; first|exact H r1|omega))).symm
theorem sN (j:cH) (kA:OA) (kC:Nat) (az:List RA) (cA:OA) (cC:Nat) (bA:OA) (bC:Nat) (slA:OA) (slC:Nat) (drA:OA) (drC:Nat) (ha:List dG) (heA:OA) (heC:Nat) (faA:OA) (faC:Nat) (prA:OA) (prC:Nat) (hin:gZ j az ha):
 dx Tryz.prog 29 [(vA (gG.cells (nN j kA kC cA cC bA bC slA slC drA drC heA heC faA faC prA prC)))] [(rd gN 3 2 fF),(rd kA j.Race.au.aV.length 9 (j.Race.au.aV.map ao.cells)),(rd cA j.Race.au.ar.length 2 (List.zipWith ay.cells j.Race.au.ar az)),(dL (br ay.gn j.Race.au.ar az)),(rd bA j.Race.au.ab.length 4 (j.Race.au.ab.map bI.cells)),(rd slA j.Race.bj.length 1 (j.Race.bj.map iC)),(rd drA j.Race.cq.length 1 (j.Race.cq.map iC)),(rd heA j.Race.aH.length 1 (List.zipWith de j.Race.aH ha)),(dL (br eY j.Race.aH ha)),(rd faA j.aI.length 4 (j.aI.map aS.cells)),(rd prA j.ax.length 5 (j.ax.map aZ.cells))] (vT [(vA (cU.cells (cU.mk (nN j kA kC cA cC bA bC slA slC drA drC heA heC faA faC prA prC)))),(vI (dU j))]):=by
 refine bB kr Tryz.func29 U U fun E Q hQ hN=>?_
 try dsimp only
 refine WS fun _ A=>er U fun C=>AL U Ff fun D=>bE 1 U<|RK A<|aj fun _ B=>dg cp 4 kr<|lu 1 [] (mc 1 U I) U<|dS (SX (a_ (xs:=[(0,.tmp 4)]) (cs:=(cU.cells (cU.mk (nN j kA kC cA cC bA bC slA slC drA drC heA heC faA faC prA prC)))) U U (bf Tl U)) U U)<|lu 1 [] (mc 1 U I) U<|dS (CL (HU j kA kC az cA cC bA bC slA slC drA drC ha heA heC faA faC prA prC hin) (bq [2,3,4,5,6,7,8,9,10,11,12]) U)<|cE<|fu U Fl U<|rP 1 [] I ?_
 refine RK B<|ak<|my hQ [0] (mc 0 U I) U ?_
 rfl
end
end Go.Proofs.YtijpnoadncadoaaGreatDoor
