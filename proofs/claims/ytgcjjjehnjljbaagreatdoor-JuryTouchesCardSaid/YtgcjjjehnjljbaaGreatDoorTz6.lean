/-
 The statement juryTouches_said, part 6 of 8: V5, V6, V8, Wh2, Rc2, Rc3, Rc4, Rs1, S2, Rs2, Rs3, Rs4, Rt2, Jw1, Jw2, Jw6, IdxK, S1, Wh1, Jw3, Jw4, Jw5, Jw7, Jw8.
 Conditions: none.
-/
import Derived.Test.YtgcjjjehnjljbaaGreatDoorTz1
import Derived.Test.YtgcjjjehnjljbaaGreatDoorTz2
import Derived.Test.YtgcjjjehnjljbaaGreatDoorTz3
import Derived.Test.YtgcjjjehnjljbaaGreatDoorTz4
import Derived.Test.YtgcjjjehnjljbaaGreatDoorTz5
namespace Go.Proofs.YtgcjjjehnjljbaaGreatDoor
set_option maxRecDepth 100000
set_option maxHeartbeats 4000000
set_option linter.unusedVariables false
section
open Go.RowKit
theorem BT (ln:cu) (ri:de) (e:List Int) (tms:List TM) (e_A:OA) (e_C:Nat) (tb:List Nat) (t_A:OA) (t_C gw:Nat) (hw:Ff (cQ ln ri e tms)) (hn:ln.ab.n=e.length) (htb:tb.length=tms.length):
 JP Tryz.prog 174 [(vP gw)] [(rd e_A e.length 1 (e.map iC)),(rd t_A tms.length 1 (List.zipWith gr tms tb)),(dL (bk pU tms tb))] (cy gw 273 (cb.cells (cb.mk ln ri (bK.mk e_A e.length e_C) (bK.mk t_A tms.length t_C) (bK.mk none 0 0) (bK.mk none 0 0)))) (fun (x:(List FM)×(List Nat)×(OA)×Nat×(List FM)×(List Nat)×(OA)×Nat)=>(vT [])) (fun (x:(List FM)×(List Nat)×(OA)×Nat×(List FM)×(List Nat)×(OA)×Nat)=>vm (cQ ln ri e tms) x.1∧sB (cQ ln ri e tms) x.2.2.2.2.1∧x.2.1.length=x.1.length∧x.2.2.2.2.2.1.length=x.2.2.2.2.1.length) (fun (x:(List FM)×(List Nat)×(OA)×Nat×(List FM)×(List Nat)×(OA)×Nat)=>(bS [(cy gw 273 (cb.cells (cb.mk ln ri (bK.mk e_A e.length e_C) (bK.mk t_A tms.length t_C) (bK.mk x.2.2.1 x.1.length x.2.2.2.1) (bK.mk x.2.2.2.2.2.2.1 x.2.2.2.2.1.length x.2.2.2.2.2.2.2)))),(own x.2.2.1 x.2.2.2.1 276 1 (List.zipWith gr x.1 x.2.1)),(bS (bk mU x.1 x.2.1)),(own x.2.2.2.2.2.2.1 x.2.2.2.2.2.2.2 276 1 (List.zipWith gr x.2.2.2.2.1 x.2.2.2.2.2.1)),(bS (bk mU x.2.2.2.2.1 x.2.2.2.2.2.1))])):=by
 have Ux:e.length≤6:=hw.n
 have Uy:tms.length=e.length:=hw.times
 refine uK kr Tryz.func174 U U fun w0 Q hQ hN=>?_
 try dsimp only
 refine WS fun _ Do=>xJ U U fun W=>RK Do<|WS fun _ FP=>er 1 [] (mc 0 U mn) U<|rS (SX (cP U U) U U)<|rP 5 [] (mc 1 U mn) ?_
 refine RK FP ?_
 refine oa (ι:={z:(OA)×(OA) // True}) [0,1,2] [0,2,3,4] U U (fun z=>[]) (fun z=>[(own z.1.1 (ln.ab.n+1) 276 1 (List.map oC (List.replicate (ln.ab.n+1) (none:Option Nat)))),(own z.1.2 (ln.ab.n+1) 276 1 (List.map oC (List.replicate (ln.ab.n+1) (none:Option Nat)))),(cy gw 273 (cb.cells (cb.mk ln ri (bK.mk e_A e.length e_C) (bK.mk t_A tms.length t_C) (bK.mk z.1.1 (ln.ab.n+1) (ln.ab.n+1)) (bK.mk z.1.2 (ln.ab.n+1) (ln.ab.n+1)))))]) (fun _=>rfl) (fun _=>rfl) ?_ fun K4 FS=>?_
 ·rintro ⟨⟨fA,bA⟩,_⟩
  try dsimp only
  refine BD 6 U U fun wz Sz hz=>?_
  have Uu:(List.replicate (ln.ab.n+1) (none:Option Nat)).length=(ln.ab.n+1):=List.length_replicate
  try dsimp only
  refine oa (ι:={z:Nat // True}) [0,1,2] [0,1,2,3,4,6] U U (fun z=>[]) (fun z=>[(bS (bk mU [[((aJ.mk 0 0),ri.Start)]] [z.1])),(own fA (ln.ab.n+1) 276 1 (List.map oC (dB [z.1] (ln.ab.n+1))))]) (fun _=>rfl) (fun _=>rfl) ?_ fun K5 UB=>?_
  ·rintro ⟨ga,_⟩
   try dsimp only
   refine ak fun _ Fd=>WS fun _ Fn=>rP 2 [] mn ?_
   refine RK Fn<|aC<|mP ?_
   have C:(0≤ln.ab.n)∧(([[((aJ.mk 0 0),ri.Start)]]).length=0+1)∧(([ga]).length=0+1)∧(p8 (cQ ln ri e tms) ([[((aJ.mk 0 0),ri.Start)]])):=by exact ⟨Nat.zero_le _,rfl,rfl,p8.first⟩
   refine wh (ι:={z:Nat×(List FM)×(List Nat)×(List Nat) // (z.1≤ln.ab.n)∧(z.2.1.length=z.1+1)∧(z.2.2.1.length=z.1+1)∧(p8 (cQ ln ri e tms) z.2.1)}) (fun z=>z.1.2.2.2.map jU) (fun z=>[(0,(vP gw)),(1,(vP W)),(2,(vI (ln.ab.n:Int))),(52,(vI (ln.ab.n:Int))),(53,(vI (z.1.1:Int)))]) (fun z=>[(bS (z.1.2.2.2.map lY)),(cy gw 273 (cb.cells (cb.mk ln ri (bK.mk e_A e.length e_C) (bK.mk t_A tms.length t_C) (bK.mk fA (ln.ab.n+1) (ln.ab.n+1)) (bK.mk bA (ln.ab.n+1) (ln.ab.n+1))))).ro,(cy W 237 [(vP gw)]),(rd e_A e.length 1 (e.map iC)).ro,(rd t_A tms.length 1 (List.zipWith gr tms tb)).ro,(dL (bk pU tms tb)).ro,(own bA (ln.ab.n+1) 276 1 (List.map oC (List.replicate (ln.ab.n+1) (none:Option Nat)))),(bS (bk mU z.1.2.1 z.1.2.2.1)),(own fA (ln.ab.n+1) 276 1 (List.map oC (dB z.1.2.2.1 (ln.ab.n+1))))]) (fun z=>ln.ab.n-z.1.1) ⟨(0,[[((aJ.mk 0 0),ri.Start)]],[ga],([]:List Nat)),C⟩ U (bu U) (aN [0,1,2,3,4,5,6,7,8]) ?_
   clear C
   rintro ⟨⟨b,fs,fb,Tj⟩,⟨Jb,A6,Ji,M⟩⟩ J8 T6
   try dsimp only at Jb A6 Ji M
   try dsimp only
   have Uv:(dB fb (ln.ab.n+1)).length=(ln.ab.n+1):=ng I
   refine WS fun _ GE=>rP 1 [] mn ?_
   refine RK GE<|ak fun _ AO=>cr U (aT fun T0=>?_) (aS fun T0=>?_)
   ·refine WK AO<|ak fun _ LT=>aC<|WS fun _ La=>rP 1 [] mn ?_
    refine AL U kJ fun s=>LY U Cl U U<|RK La<|ak fun _ Li=>dx ck [6,8] [6] [0] [0,1,2,3,4,5,6,7,8] [0,1,2,3,4,5,6,7,8,9] U U U U U<|eS U (DD 3 U bX U)<|eS U (SX (cP U U) U U)<|eS U (FA 12 U eV U)<|eS U (GS (vS fA (ln.ab.n+1) (ln.ab.n+1)) 2 U bX U U)<|eS U (DD 0 U bX U)<|eS U (BI U (n9 ⟨I,I⟩)) ?_
    obtain ⟨UN,S2⟩:=aF (dB fb (ln.ab.n+1)) (b+1) I
    have hx17m:(List.map oC (dB fb (ln.ab.n+1)))[(b+1)]? =some (oC UN):=by rw [fK,S2]; rfl
    refine fS U (IA (b+1) U (aL (n:=(ln.ab.n+1)) 9 U sq) ou dc I I) ?_
    refine eo U<|jJ U fun T18 Pt=>mH (kV:=ew) U U fun B=>?_
    try dsimp only
    refine aD (Pt _ _ (aN [1,2,3,4,5,6,7,8,9]) (aN [1,2,3,4,5,6,7,8,9,10]) ?_)
    refine cd U fun T20 Pw=>?_
    have R6:((dB fb (ln.ab.n+1)).set (b+1) (some B))=(dB (fb++[B]) (ln.ab.n+1)):=by exact rp I I
    refine gp (k:=(b+1)) (o:=0) (vs:=[(Value.map (some B))]) (es':=(List.map oC (dB (fb++[B]) (ln.ab.n+1)))) (C':=[_,_,_,_,_,_,_,_,_,_,(own fA (ln.ab.n+1) 276 1 (List.map oC (dB (fb++[B]) (ln.ab.n+1))))]) 10 U U U I_ U U U U hx17m U dc (by exact (List.map_set (f:=oC) (l:=(dB fb (ln.ab.n+1))) (i:=(b+1)) (a:=(some B))).symm.trans (congrArg _ R6)) U<|aD (Pw _ _ (aN [1,2,3,4,5,6,7,8,9]) ?_)
    refine fh U<|KK Li<|ak fun _ Lk=>?_
    have UF:(dB (fb++[B]) (ln.ab.n+1)).length=(ln.ab.n+1):=ng (by simp; omega)
    obtain ⟨mb,N⟩:=aF fs b I
    obtain ⟨ga,Z⟩:=aF fb b I
    refine yS 9 N Z U U U ?_
    try dsimp only
    refine cW ck 7 kr<|kv 1 [] (mc 6 U mn) U<|dS (SX (cP U U) U U)<|dP 3 [0,1] (mr 5 U (mc 3 U mn)) ?_
    have SA:(List.map oC (dB (fb++[B]) (ln.ab.n+1)))[b]? =some (oC (some ga)):=p_ (mJ (Hw Z))
    refine dS (IA b U (aL (n:=(ln.ab.n+1)) 11 U sq) ou dc I I) ?_
    refine dS (h_ b 0 (Value.map (some ga)) U bX (aL (n:=(dB (fb++[B]) (ln.ab.n+1)).length) 11 U sm) SA U dc U)<|cw<|yK 0 U U o7 U U fun Ci=>?_
    try dsimp only
    refine RK Lk<|aC ?_
    have C:(∀ p∈mb,p∈mb)∧(wq (cQ ln ri e tms) b ([]:FM))∧(j3 (cQ ln ri e tms) b mb ([]:FM) mb):=by exact ⟨fun p hp=>hp,wq.start,j3.start⟩
    refine wh (ι:={z:FM×FM×(List Nat) // (∀ p∈z.1,p∈mb)∧(wq (cQ ln ri e tms) b z.2.1)∧(j3 (cQ ln ri e tms) b mb z.2.1 z.1)}) (fun z=>z.1.2.2.map jU) (fun z=>[(0,(vP gw)),(1,(vP W)),(2,(vI (ln.ab.n:Int))),(3,(vP s)),(52,(vI (ln.ab.n:Int))),(53,(vI (b:Int))),(71,(vP Ci))]) (fun z=>[(zp ew Ci ga (cR iV mb) (cR iV z.1.1) none),(bS (jg mU fs fb b)),(ks ew B (cR iV z.1.2.1)),(cy s 3 [(vI (b:Int))]),(bS (z.1.2.2.map lY)),(cy gw 273 (cb.cells (cb.mk ln ri (bK.mk e_A e.length e_C) (bK.mk t_A tms.length t_C) (bK.mk fA (ln.ab.n+1) (ln.ab.n+1)) (bK.mk bA (ln.ab.n+1) (ln.ab.n+1))))).ro,(cy W 237 [(vP gw)]),(rd e_A e.length 1 (e.map iC)).ro,(rd t_A tms.length 1 (List.zipWith gr tms tb)).ro,(dL (bk pU tms tb)).ro,(own bA (ln.ab.n+1) 276 1 (List.map oC (List.replicate (ln.ab.n+1) (none:Option Nat)))),(own fA (ln.ab.n+1) 276 1 (List.map oC (dB (fb++[B]) (ln.ab.n+1))))]) (fun z=>z.1.1.length) ⟨(mb,([]:FM),Tj),C⟩ U (bu U) (aN [0,1,2,3,4,5,6,7,8,9,10,11]) ?_
    clear C
    rintro ⟨⟨left,m,A7⟩,⟨c,d,g⟩⟩ J26 LA
    try dsimp only at c d g
    try dsimp only
    refine WS fun _ Cx=>wI o2.inj (f:=iV) 0 U U U U (fun T4=>?_) (fun t v hm Jr=>?_)
    ·refine bx 1 U<|RK Cx<|ak fun _ UW=>bT U<|bM<|ag<|ag<|aG<|aK<|KK LT<|au<|rP 2 [] mn ?_
     refine aD<|GU (C':=[(ks ew ga (cR iV mb)),(bS (jg mU fs fb b)),(ks ew B (cR iV m)),(cy s 3 [(vI (b:Int))]),(bS (A7.map lY)),(cy gw 273 (cb.cells (cb.mk ln ri (bK.mk e_A e.length e_C) (bK.mk t_A tms.length t_C) (bK.mk fA (ln.ab.n+1) (ln.ab.n+1)) (bK.mk bA (ln.ab.n+1) (ln.ab.n+1))))).ro,(cy W 237 [(vP gw)]),(rd e_A e.length 1 (e.map iC)).ro,(rd t_A tms.length 1 (List.zipWith gr tms tb)).ro,(dL (bk pU tms tb)).ro,(own bA (ln.ab.n+1) 276 1 (List.map oC (List.replicate (ln.ab.n+1) (none:Option Nat)))),(own fA (ln.ab.n+1) 276 1 (List.map oC (dB (fb++[B]) (ln.ab.n+1))))]) 0 U Hv U<|JG 1 0 N Z U U U ?_
     try dsimp only
     refine wV (X':=bk mU (fs++[m]) (fb++[B])) 0 1 U U (zh I U) ?_
     try dsimp only
     have R7:(vI (((b+1):Nat):Int))=(vI ((b:Int)+1)):=by exact cI I
     refine bj (T6 ⟨((b+1),(fs++[m]),(fb++[B]),A7),⟨I,by simp; omega,by simp; omega,M.add A6 N d g T4⟩⟩ _ _ _ U os (cN 4<|a_ U R7<|dh.nil _) (aN [2,3,4,5,6,7,8,0,9]))
    try dsimp only
    refine bx 1 U<|RK Cx<|ak fun _ Lw=>aI U<|WK Lw<|aC<|WS fun _ L2=>rS (SX (wM 0 U U U) U U)<|bx 2 U<|AL U tv fun J4=>AL U kJ fun J5=>pZ U rZ U<|LY U Cl U U<|RK L2<|WS fun _ L3=>rP 2 [0,1] (mc 8 U (mc 5 U mn)) ?_
    refine cX (u7 gw b) (aR) U fun UR UZ=>?_
    obtain ⟨C3,DW⟩:=UR
    try dsimp only
    refine RK L3<|aC<|jq 11 U (by exact fun _ h=>h)<|jq 13 U (by exact fun _ h=>h)<|jq 15 U (by exact fun _ h=>h)<|jq 12 U (by exact fun _ h=>h) ?_
    refine uq (L0:=[(0,(vP gw)),(1,(vP W)),(2,(vI (ln.ab.n:Int))),(3,(vP s)),(4,(vP J4)),(5,(vP J5)),(52,(vI (ln.ab.n:Int))),(53,(vI (b:Int))),(71,(vP Ci))]) (F:=[(rd e_A e.length 1 (e.map iC)).ro,(rd t_A tms.length 1 (List.zipWith gr tms tb)).ro,(dL (bk pU tms tb)).ro,(cy gw 273 (cb.cells (cb.mk ln ri (bK.mk e_A e.length e_C) (bK.mk t_A tms.length t_C) (bK.mk fA (ln.ab.n+1) (ln.ab.n+1)) (bK.mk bA (ln.ab.n+1) (ln.ab.n+1))))).ro,(cy C3 237 [(vP gw)]),(cy DW 3 [(vI (b:Int))])]) (fun k (y:FM)=>(nH (cQ ln ri e tms) b mb left y (t,v) k)) (fun k y=>[(cy J5 3 [(vI v)]),(cy J4 278 (aJ.cells t)),(zp ew Ci ga (cR iV mb) (cR iV (fg left t)) (some (t,(vI v)))),(bS (jg mU fs fb b)),(ks ew B (cR iV y)),(cy s 3 [(vI (b:Int))]),(bS (A7.map lY)),(cy gw 273 (cb.cells (cb.mk ln ri (bK.mk e_A e.length e_C) (bK.mk t_A tms.length t_C) (bK.mk fA (ln.ab.n+1) (ln.ab.n+1)) (bK.mk bA (ln.ab.n+1) (ln.ab.n+1))))).ro,(cy W 237 [(vP gw)]),(rd e_A e.length 1 (e.map iC)).ro,(rd t_A tms.length 1 (List.zipWith gr tms tb)).ro,(dL (bk pU tms tb)).ro,(own bA (ln.ab.n+1) 276 1 (List.map oC (List.replicate (ln.ab.n+1) (none:Option Nat)))),(own fA (ln.ab.n+1) 276 1 (List.map oC (dB (fb++[B]) (ln.ab.n+1))))]) (fun _ (_:Unit)=>False) (fun _ _=>[]) [6,7,8,9,10,11,12,13,14,15,16,17,18,19] [3,2,1,0,4,5] m rfl rfl (sf ln ri e tms e_A e_C tb t_A t_C fA (ln.ab.n+1) (ln.ab.n+1) bA (ln.ab.n+1) (ln.ab.n+1) gw b C3 DW I I) rfl rfl rfl (by exact nH.start d g) (by simp only [List.forall_mem_cons,List.not_mem_nil,false_imp_iff,implies_true,and_true]; exact ⟨⟨_,aP (i:=0) rfl,(dI (bY _))⟩,⟨_,aP (i:=1) rfl,(dI (bY _))⟩,⟨_,aP (i:=2) rfl,(dI (bY _))⟩,⟨_,aP (i:=3) rfl,(dI (bY _))⟩,⟨_,aP (i:=4) rfl,(bY _)⟩,⟨_,aP (i:=5) rfl,(bY _)⟩⟩) (by rintro k x k2 ⟨o,_,rfl,_⟩; rfl) rfl (bu rfl) ?_ ?_ (fun _ _ _ h=>h.elim) (fun _ _ h=>h.elim)
    rotate_left 1
    ·rintro UM k O A5 IO
     have D:=IO
     try dsimp only
     refine aK<|aK<|Jp (X:=A7.map lY) 13 0 U U ?_
     try dsimp only
     refine qy 9 U Ay U ?_
     refine bj (LA ⟨((fg left t),O,(UM::A7)),⟨mK c,D.on,D.next Jr hm A5⟩⟩ _ _ _ U (mL hm) (bu U) (aN [9,10,11,12,0,4,14,1,2,3,18,19]))
    rintro k x k2 O l ra rb S w1 K39 Qr40 UJ hx H1 Ms H UP UT
    obtain ⟨o,ho,rfl,rfl⟩:=hx
    have D:=H1
    try dsimp only
    refine WS fun _ M0=>rP 1 [] mn ?_
    refine RK M0<|au<|AL U dV fun Uq=>fj U cT U<|aD<|jY (fun _ _ h=>h) (aN [1,0,2,3,4,5,6,7,8,9,10,11,12,13,14,15])<|bj (Ms _ _ ?_)
    refine aC<|ak fun _ M2=>dx ck [16,18] [] [] [0,1,2,3,4,5,6,7,8,9,10,11,12,13,14,15] [] U U U U U<|eS U (DD 2 U bX U)<|eS U (DD 10 U bX U)<|eS U (SX (cP U U) U U)<|eS U (FA 10 U eV U)<|eS U (GS (vS e_A e.length e_C) 9 U bX U U)<|eS U (DD 7 U bX U) ?_
    obtain ⟨y,hy⟩:=aF e b I
    have J2:=bJ iC hy
    refine eS U (IA b U (ax 11 U) dJ dc I I)<|eS U (h_ b 0 (vI y) U bX (ax 11 U) J2 U dc U) ?_
    have UE:=hw.least y (aP hy)
    have hp:=M.mem N (c _ hm)
    have UD:=Im hw _ _ hp
    have UH:=ve o.1
    have UI:=hw.opt ho
    have Uw:=hw.now
    dsimp only at UD
    refine eS U (BI U (n9 ⟨I,I⟩))<|eS U (FA 0 U eV U)<|eS U (L1 (vI o.2.Lo) 1 U bX U U)<|eS U (MX U)<|eS U (LW 3 U bX U U)<|eS U (MV U)<|eS U (CL (GM o.1) (aR) U)<|eS U (CL (v8 t (fG o.1) I I) (aR) U)<|eS U (AG U)<|eo U<|cd U fun T45 QI=>AL U tv fun Ur=>aD (QI _ _ (aN [1,2,3,4,5,6,7,8,9,10,11,12,13,14,15,16]) ?_)
    refine cd U fun T47 Qr=>fj U rZ U<|aD (Qr _ _ (aN [1,2,3,4,5,6,7,8,9,10,11,12,13,14,15,16]) ?_)
    refine fh U<|KK M2<|ak fun _ M3=>cW ck 15 kr<|kv 1 [] (mc 11 U mn) U<|dS (SX (cP U U) U U)<|dP 4 [0,1] (mr 10 U (mc 8 U mn)) ?_
    have SK:(List.map oC (dB (fb++[B]) (ln.ab.n+1)))[(b+1)]? =some (oC (some B)):=p_ (mJ (zA I))
    refine dS (IA (b+1) U (aL (n:=(ln.ab.n+1)) 16 U sq) ou dc I I) ?_
    refine dS (h_ (b+1) 0 (Value.map (some B)) U bX (aL (n:=(dB (fb++[B]) (ln.ab.n+1)).length) 16 U sm) SK U dc U)<|kv 1 [] (mc 0 U mn) U<|dS (SX (sL (kV:=ew) (x:=(dD t (fG o.1))) (l:=O) (f:=iV) (z:=0) U U U o7 o2 TX (by exact ax 7 U)) U U)<|kx 5 U<|cw<|RK M3<|ak fun _ A0=>cW ck 19 kr<|kv 4 [0,1] (mc 2 U (mc 11 U mn)) U<|dS (SX (cP U U) U U)<|kv 3 [] (mr 10 U mn) U<|dS (MN U)<|dP 2 [] mn ?_
    refine g0 (t:=121) U (aS fun P=>?_) (aT fun P=>?_)
    ·refine dP 8 [] mn ?_
     refine cw<|RK A0<|bT U<|cp<|aK ?_
     exact H O _ _ (by exact D.skip (Hx hy P)) (aN [1,3,4,5,6,7,8,9,10,11,12,13,14,15,16])
    refine dP 3 [] mn ?_
    refine g9 (t:=124) U (fun R=>?_) (fun R=>?_)
    ·rw [Bool.not_eq_true'] at R
     refine kx 5 U<|cw<|RK A0<|aI U<|cW ck 10 kr<|kv 1 [] (mc 11 U mn) U<|dS (SX (cP U U) U U)<|dP 4 [0,1] (mr 10 U (mc 8 U mn)) ?_
     have ST:(List.map oC (dB (fb++[B]) (ln.ab.n+1)))[(b+1)]? =some (oC (some B)):=p_ (mJ (zA I))
     refine dS (IA (b+1) U (aL (n:=(ln.ab.n+1)) 16 U sq) ou dc I I) ?_
     refine dS (h_ (b+1) 0 (Value.map (some B)) U bX (aL (n:=(dB (fb++[B]) (ln.ab.n+1)).length) 16 U sm) ST U dc U)<|dP 2 [] (mc 0 U mn) ?_
     refine cw<|jt (kV:=ew) (x:=(dD t (fG o.1))) (C':=[_,_,_,_,_,_,_,(ks ew B (cR iV (eD O (dD t (fG o.1)) (max (v+y) o.2.Lo)))),_,_,_,_,_,_,_,_,_]) 7 U U U U o7 o2 U (gN _ _ _ _).symm U<|aD<|aK ?_
     exact H (eD O (dD t (fG o.1)) (max (v+y) o.2.Lo)) _ _ (by exact D.set hp ho (zU hy P) (.inl (by simpa using R))) (aN [1,3,4,5,6,7,8,9,10,11,12,13,14,15,16])
    rw [Bool.not_eq_false'] at R
    refine dP 5 [] mn ?_
    refine cw<|RK A0<|bO U (aS fun u=>?_) (aT fun u=>?_)
    ·refine cp<|aK ?_
     exact H O _ _ (by exact D.oH (zU hy P) (by simpa using R) u) (aN [1,3,4,5,6,7,8,9,10,11,12,13,14,15,16])
    refine cW ck 10 kr<|kv 1 [] (mc 11 U mn) U<|dS (SX (cP U U) U U)<|dP 4 [0,1] (mr 10 U (mc 8 U mn)) ?_
    have SZ:(List.map oC (dB (fb++[B]) (ln.ab.n+1)))[(b+1)]? =some (oC (some B)):=p_ (mJ (zA I))
    refine dS (IA (b+1) U (aL (n:=(ln.ab.n+1)) 16 U sq) ou dc I I) ?_
    refine dS (h_ (b+1) 0 (Value.map (some B)) U bX (aL (n:=(dB (fb++[B]) (ln.ab.n+1)).length) 16 U sm) SZ U dc U)<|dP 2 [] (mc 0 U mn) ?_
    refine cw<|jt (kV:=ew) (x:=(dD t (fG o.1))) (C':=[_,_,_,_,_,_,_,(ks ew B (cR iV (eD O (dD t (fG o.1)) (max (v+y) o.2.Lo)))),_,_,_,_,_,_,_,_,_]) 7 U U U U o7 o2 U (gN _ _ _ _).symm U<|aD<|aK ?_
    exact H (eD O (dD t (fG o.1)) (max (v+y) o.2.Lo)) _ _ (by exact D.set hp ho (zU hy P) (.inr u)) (aN [1,3,4,5,6,7,8,9,10,11,12,13,14,15,16])
   refine bM<|ag<|ag<|aG<|KK Fd<|WS fun _ A1=>rP 1 [] mn ?_
   refine AL U kJ fun To=>LY U Cl U U<|RK A1<|aC ?_
   rw [Gk]
   refine mP ?_
   have C:(0≤ln.ab.n+1)∧(([]:List FM).length=0)∧(([]:List Nat).length=0)∧(iw (cQ ln ri e tms) (ln.ab.n+1-0) ([]:List FM)):=by exact ⟨Nat.zero_le _,rfl,rfl,iw.none_⟩
   refine wh (ι:={z:Nat×(List FM)×(List Nat)×Nat×(List Nat) // (z.1≤ln.ab.n+1)∧(z.2.1.length=z.1)∧(z.2.2.1.length=z.1)∧(iw (cQ ln ri e tms) (ln.ab.n+1-z.1) z.2.1)}) (fun z=>z.1.2.2.2.2.map jU) (fun z=>[(0,(vP gw)),(1,(vP W)),(2,(vI (ln.ab.n:Int))),(12,(Value.pointer (some ⟨z.1.2.2.2.1,0,none⟩)))]) (fun z=>[(bS (bk mU z.1.2.1 z.1.2.2.1)),(cy z.1.2.2.2.1 3 [(vI ((ln.ab.n:Int)-(z.1.1:Int)))]),(bS (z.1.2.2.2.2.map lY)),(cy gw 273 (cb.cells (cb.mk ln ri (bK.mk e_A e.length e_C) (bK.mk t_A tms.length t_C) (bK.mk fA (ln.ab.n+1) (ln.ab.n+1)) (bK.mk bA (ln.ab.n+1) (ln.ab.n+1))))).ro,(cy W 237 [(vP gw)]),(rd e_A e.length 1 (e.map iC)).ro,(rd t_A tms.length 1 (List.zipWith gr tms tb)).ro,(dL (bk pU tms tb)).ro,(own bA (ln.ab.n+1) 276 1 (List.map oC (iv z.1.2.2.1 (ln.ab.n+1)))),(bS (bk mU fs fb)),(own fA (ln.ab.n+1) 276 1 (List.map oC (dB fb (ln.ab.n+1))))]) (fun z=>ln.ab.n+1-z.1.1) ⟨(0,([]:List FM),([]:List Nat),To,Tj),C⟩ U (bu U) (aN [0,1,2,3,4,5,6,7,8,9,10]) ?_
   clear C
   rintro ⟨⟨j,bs,bb,gq,q⟩,⟨Bv,B3,B9,E⟩⟩ J57 Cp
   try dsimp only at Bv B3 B9 E
   try dsimp only
   refine ak fun _ A2=>WS fun _ A3=>rP 2 [] (mc 1 U mn) ?_
   refine RK A3<|bO U (aS fun KV=>?_) (aT fun KV=>?_)
   ·refine bM<|ag<|ag<|aG ?_
    rw [show (List.map oC (dB fb (ln.ab.n+1)))=(List.zipWith gr fs fb) from by rw [zb I]; exact (zH I).symm]
    rw [show (List.map oC (iv bb (ln.ab.n+1)))=(List.zipWith gr bs bb) from by rw [Gg I]; exact (zH I).symm]
    refine zN (C1:=[(own fA (ln.ab.n+1) 276 1 (List.zipWith gr fs fb)),(bS (bk mU fs fb)),(own bA (ln.ab.n+1) 276 1 (List.zipWith gr bs bb)),(bS (bk mU bs bb)),(bS (q.map lY))]) hz [10,9,8,0,2] U U (by simp only [eH,List.all_nil,ph,KU,Bool.and_true]; rfl) ?_
    rw [show (cy gw 273 (cb.cells (cb.mk ln ri (bK.mk e_A e.length e_C) (bK.mk t_A tms.length t_C) (bK.mk fA (ln.ab.n+1) (ln.ab.n+1)) (bK.mk bA (ln.ab.n+1) (ln.ab.n+1)))))=(cy gw 273 (cb.cells (cb.mk ln ri (bK.mk e_A e.length e_C) (bK.mk t_A tms.length t_C) (bK.mk fA fs.length (ln.ab.n+1)) (bK.mk bA bs.length (ln.ab.n+1))))) from by rw [show fs.length=(ln.ab.n+1) from by omega,show bs.length=(ln.ab.n+1) from by omega]]
    refine OC [(cy gw 273 (cb.cells (cb.mk ln ri (bK.mk e_A e.length e_C) (bK.mk t_A tms.length t_C) (bK.mk fA fs.length (ln.ab.n+1)) (bK.mk bA bs.length (ln.ab.n+1))))),(own fA (ln.ab.n+1) 276 1 (List.zipWith gr fs fb)),(bS (bk mU fs fb)),(own bA (ln.ab.n+1) 276 1 (List.zipWith gr bs bb)),(bS (bk mU bs bb))] [(bS (q.map lY))] ?_
    refine hN _ _ _ (HQ 1 U U<|ke (vs:=[]) trivial fun w hs=>Px (fs,fb,fA,(ln.ab.n+1),bs,bb,bA,(ln.ab.n+1)) 0 ?_ ?_ U (by show List.all _ _=true; simp only [eH,List.all_nil,ph,Bool.and_true]; rfl) hs)
    ·clear hs w hQ hN A3 A2 A1 AO GE Fn Fd FP Do; rfl
    ·clear hs w hQ hN A3 A2 A1 AO GE Fn Fd FP Do; exact ⟨M.ok (by show fs.length=e.length+1; omega),iw.ok (by have:=E; rwa [show ln.ab.n+1-j=0 by omega] at this) (by show bs.length=e.length+1; omega),dso,dso⟩
   refine WK A2<|ak fun _ C0=>aC<|ak fun _ NE=>?_
   obtain ⟨b,Ut⟩: ∃ b:Nat,b+j=ln.ab.n:=⟨ln.ab.n-j,I⟩
   rw [show (ln.ab.n:Int)-(j:Int)=(b:Int) from by omega]
   have UY:(iv bb (ln.ab.n+1)).length=(ln.ab.n+1):=yH I
   refine dx ck [5,12,13,15] [11] [0,1,2] [0,1,2,3,4,5,6,7,9,10] [0,1,2,3,4,5,6,7,8,9,10] U U U U U<|eS U (DD 4 U bX U)<|eS U (SX (cP U U) U U)<|eS U (FA 13 U eV U)<|eS U (GS (vS bA (ln.ab.n+1) (ln.ab.n+1)) 3 U bX U U)<|eS U (DD 1 U bX U)<|eS U (SX (bG (xs:=[]) (cs:=(aJ.cells (aJ.mk 0 0))) U U (bH BW U)) U U)<|eS U (DD 4 U bX U)<|eS U (SX (cP U U) U U)<|eS U (FA 7 U eV U)<|eS U (FA 8 U eV U)<|eS U (GS (vI ri.fP) 3 U bX U U) ?_
   obtain ⟨UO,TV⟩:=aF (iv bb (ln.ab.n+1)) b I
   have hx63m:(List.map oC (iv bb (ln.ab.n+1)))[b]? =some (oC UO):=by rw [fK,TV]; rfl
   refine fS U (IA b U (aL (n:=(ln.ab.n+1)) 8 U sq) ou dc I I) ?_
   refine eo U<|jJ U fun T64 R0=>mH (kV:=ew) U U fun A=>?_
   try dsimp only
   refine aD (R0 _ _ (aN [1,2,3,4,5,6,7,8,10,11]) (aN [1,2,3,4,5,6,7,8,9,10,11]) ?_)
   refine jJ U fun T66 R1=>?_
   have R8:(eD ([]:List (aJ×Int)) (aJ.mk 0 0) ri.fP)=[((aJ.mk 0 0),ri.fP)]:=by rfl
   refine vi (kV:=ew) (x:=(aJ.mk 0 0)) (C':=[(ks ew A (cR iV ([((aJ.mk 0 0),ri.fP)]))),_,_,_,_,_,_,_,_,_,_,_]) 0 U U U U o7 o2 U ((gN _ _ _ _).symm.trans (congrArg _ R8)) U<|aD (R1 _ _ (aN [1,2,3,4,5,6,7,8,10,11]) (aN [1,2,3,4,5,6,7,8,9,10,11]) ?_)
   refine jJ U fun T68 R2=>rS (MV U)<|aD (R2 _ _ (aN [1,2,3,4,5,6,7,8,10,11]) (aN [1,2,3,4,5,6,7,8,9,10,11]) ?_)
   refine cd U fun T69 R3=>?_
   have R9:((iv bb (ln.ab.n+1)).set b (some A))=(iv (A::bb) (ln.ab.n+1)):=by exact E6 I
   refine gp (k:=b) (o:=0) (vs:=[(Value.map (some A))]) (es':=(List.map oC (iv (A::bb) (ln.ab.n+1)))) (C':=[_,_,_,_,_,_,_,_,_,(own bA (ln.ab.n+1) 276 1 (List.map oC (iv (A::bb) (ln.ab.n+1)))),_,_]) 9 U U U I_ U U U U hx63m U dc (by exact (List.map_set (f:=oC) (l:=(iv bb (ln.ab.n+1))) (i:=b) (a:=(some A))).symm.trans (congrArg _ R9)) U<|aD (R3 _ _ (aN [1,2,3,4,5,6,7,8,10,11]) ?_)
   refine fh U<|KK NE<|ak fun _ Ne=>WS fun _ N7=>rP 3 [] (mc 2 U mn) ?_
   refine RK N7<|cr U (aT fun K0=>?_) (aS fun K0=>?_)
   ·refine bM<|ag<|aG<|KK C0<|ak fun _ OB=>WS fun _ OF=>er 1 [] (mc 2 U mn) U<|RK OF<|au<|AL U kJ fun Tt=>LY U Cl U U<|RK OB<|au<|rP 2 [] (mc 0 U mn) ?_
    refine LY U Cl U U<|aD ?_
    rw [show (b:Int)-1=(ln.ab.n:Int)-(((j+1):Nat):Int) from by omega]
    refine yw (ms:=bs) (m:=[((aJ.mk 0 0),ri.fP)]) (a:=A) 2 1 U U U ?_
    try dsimp only
    refine bj (Cp ⟨((j+1),([((aJ.mk 0 0),ri.fP)]::bs),(A::bb),Tt,q),⟨I,by simp; omega,by simp; omega,by exact iw.end_ (b:=b) E I I (by show e.length≤b; omega)⟩⟩ _ _ _ U os (bu U) (aN [0,1,3,4,5,6,7,8,9,10,11]))
   refine WK Ne<|ak fun _ OG=>?_
   have UG:(iv (A::bb) (ln.ab.n+1)).length=(ln.ab.n+1):=yH (by simp; omega)
   obtain ⟨mb,N⟩:=aF bs 0 I
   obtain ⟨ga,Z⟩:=aF bb 0 I
   refine yS 1 N Z U U U ?_
   try dsimp only
   refine cW ck 8 kr<|kv 1 [] (mc 6 U mn) U<|dS (SX (cP U U) U U)<|dP 4 [0,1] (mr 5 U (mc 3 U mn)) ?_
   have S1:(List.map oC (iv (A::bb) (ln.ab.n+1)))[(b+1)]? =some (oC (some ga)):=p_ (sY (i:=1) (by simpa using Z) (by simp; omega))
   refine dS (IA (b+1) U (aL (n:=(ln.ab.n+1)) 10 U sq) ou dc I I) ?_
   refine dS (h_ (b+1) 0 (Value.map (some ga)) U bX (aL (n:=(iv (A::bb) (ln.ab.n+1)).length) 10 U sm) S1 U dc U)<|cw<|yK 0 U U o7 U U fun Ck=>?_
   try dsimp only
   refine RK OG<|aC ?_
   have C:(∀ p∈mb,p∈mb)∧(vQ (cQ ln ri e tms) b ([((aJ.mk 0 0),ri.fP)]))∧(jT (cQ ln ri e tms) b mb ([((aJ.mk 0 0),ri.fP)]) mb):=by exact ⟨fun p hp=>hp,vQ.start (by show b<e.length; omega),jT.start⟩
   refine wh (ι:={z:FM×FM×(List Nat) // (∀ p∈z.1,p∈mb)∧(vQ (cQ ln ri e tms) b z.2.1)∧(jT (cQ ln ri e tms) b mb z.2.1 z.1)}) (fun z=>z.1.2.2.map jU) (fun z=>[(0,(vP gw)),(1,(vP W)),(2,(vI (ln.ab.n:Int))),(12,(vP gq)),(171,(vP Ck))]) (fun z=>[(zp ew Ck ga (cR iV mb) (cR iV z.1.1) none),(bS (jg mU bs bb 0)),(ks ew A (cR iV z.1.2.1)),(cy gq 3 [(vI (b:Int))]),(bS (z.1.2.2.map lY)),(cy gw 273 (cb.cells (cb.mk ln ri (bK.mk e_A e.length e_C) (bK.mk t_A tms.length t_C) (bK.mk fA (ln.ab.n+1) (ln.ab.n+1)) (bK.mk bA (ln.ab.n+1) (ln.ab.n+1))))).ro,(cy W 237 [(vP gw)]),(rd e_A e.length 1 (e.map iC)).ro,(rd t_A tms.length 1 (List.zipWith gr tms tb)).ro,(dL (bk pU tms tb)).ro,(own bA (ln.ab.n+1) 276 1 (List.map oC (iv (A::bb) (ln.ab.n+1)))),(bS (bk mU fs fb)),(own fA (ln.ab.n+1) 276 1 (List.map oC (dB fb (ln.ab.n+1))))]) (fun z=>z.1.1.length) ⟨(mb,[((aJ.mk 0 0),ri.fP)],q),C⟩ U (bu U) (aN [0,1,2,3,4,5,6,7,8,9,10,11,12]) ?_
   clear C
   rintro ⟨⟨left,m,V⟩,⟨J,K,L⟩⟩ J80 LE
   try dsimp only at J K L
   try dsimp only
   refine WS fun _ C2=>wI o2.inj (f:=iV) 0 U U U U (fun K8=>?_) (fun t v hm Jr=>?_)
   ·refine bx 1 U<|RK C2<|ak fun _ UX=>bT U<|bM<|ag<|ag<|aG<|aK<|KK C0<|ak fun _ OQ=>WS fun _ OT=>er 1 [] (mc 3 U mn) U<|RK OT<|au<|AL U kJ fun J6=>LY U Cl U U<|RK OQ<|au<|rP 2 [] (mc 0 U mn) ?_
    refine LY U Cl U U<|aD<|GU (C':=[(cy J6 3 [(vI ((b:Int)-1))]),(ks ew ga (cR iV mb)),(bS (jg mU bs bb 0)),(ks ew A (cR iV m)),(cy gq 3 [(vI (b:Int))]),(bS (V.map lY)),(cy gw 273 (cb.cells (cb.mk ln ri (bK.mk e_A e.length e_C) (bK.mk t_A tms.length t_C) (bK.mk fA (ln.ab.n+1) (ln.ab.n+1)) (bK.mk bA (ln.ab.n+1) (ln.ab.n+1))))).ro,(cy W 237 [(vP gw)]),(rd e_A e.length 1 (e.map iC)).ro,(rd t_A tms.length 1 (List.zipWith gr tms tb)).ro,(dL (bk pU tms tb)).ro,(own bA (ln.ab.n+1) 276 1 (List.map oC (iv (A::bb) (ln.ab.n+1)))),(bS (bk mU fs fb)),(own fA (ln.ab.n+1) 276 1 (List.map oC (dB fb (ln.ab.n+1))))]) 1 U Hv U<|JG 2 1 N Z U U U ?_
    try dsimp only
    rw [show (b:Int)-1=(ln.ab.n:Int)-(((j+1):Nat):Int) from by omega]
    refine yw (ms:=bs) (m:=m) (a:=A) 0 2 U U U ?_
    try dsimp only
    refine bj (Cp ⟨((j+1),(m::bs),(A::bb),J6,V),⟨I,by simp; omega,by simp; omega,by exact iw.more (b:=b) E I I (by show b<e.length; omega) N K L K8⟩⟩ _ _ _ U os (bu U) (aN [0,1,3,4,5,6,7,8,9,10,11]))
   try dsimp only
   refine bx 1 U<|RK C2<|ak fun _ Oa=>aI U<|WK Oa<|aC<|WS fun _ Op=>rS (SX (wM 0 U U U) U U)<|bx 2 U<|AL U tv fun J7=>AL U kJ fun J9=>pZ U rZ U<|LY U Cl U U<|RK Op<|WS fun _ Or=>rP 2 [0,1] (mc 8 U (mc 5 U mn)) ?_
   refine cX (u7 gw b) (aR) U fun US Ui=>?_
   obtain ⟨DE,Di⟩:=US
   try dsimp only
   refine RK Or<|aC<|jq 11 U (by exact fun _ h=>h)<|jq 13 U (by exact fun _ h=>h)<|jq 15 U (by exact fun _ h=>h)<|jq 12 U (by exact fun _ h=>h) ?_
   refine uq (L0:=[(0,(vP gw)),(1,(vP W)),(2,(vI (ln.ab.n:Int))),(12,(vP gq)),(13,(vP J7)),(14,(vP J9)),(171,(vP Ck))]) (F:=[(rd e_A e.length 1 (e.map iC)).ro,(rd t_A tms.length 1 (List.zipWith gr tms tb)).ro,(dL (bk pU tms tb)).ro,(cy gw 273 (cb.cells (cb.mk ln ri (bK.mk e_A e.length e_C) (bK.mk t_A tms.length t_C) (bK.mk fA (ln.ab.n+1) (ln.ab.n+1)) (bK.mk bA (ln.ab.n+1) (ln.ab.n+1))))).ro,(cy DE 237 [(vP gw)]),(cy Di 3 [(vI (b:Int))])]) (fun k (y:FM)=>(nN (cQ ln ri e tms) b mb left y (t,v) k)) (fun k y=>[(cy J9 3 [(vI v)]),(cy J7 278 (aJ.cells t)),(zp ew Ck ga (cR iV mb) (cR iV (fg left t)) (some (t,(vI v)))),(bS (jg mU bs bb 0)),(ks ew A (cR iV y)),(cy gq 3 [(vI (b:Int))]),(bS (V.map lY)),(cy gw 273 (cb.cells (cb.mk ln ri (bK.mk e_A e.length e_C) (bK.mk t_A tms.length t_C) (bK.mk fA (ln.ab.n+1) (ln.ab.n+1)) (bK.mk bA (ln.ab.n+1) (ln.ab.n+1))))).ro,(cy W 237 [(vP gw)]),(rd e_A e.length 1 (e.map iC)).ro,(rd t_A tms.length 1 (List.zipWith gr tms tb)).ro,(dL (bk pU tms tb)).ro,(own bA (ln.ab.n+1) 276 1 (List.map oC (iv (A::bb) (ln.ab.n+1)))),(bS (bk mU fs fb)),(own fA (ln.ab.n+1) 276 1 (List.map oC (dB fb (ln.ab.n+1))))]) (fun _ (_:Unit)=>False) (fun _ _=>[]) [6,7,8,9,10,11,12,13,14,15,16,17,18,19,20] [3,2,1,0,4,5] m rfl rfl (sf ln ri e tms e_A e_C tb t_A t_C fA (ln.ab.n+1) (ln.ab.n+1) bA (ln.ab.n+1) (ln.ab.n+1) gw b DE Di I I) rfl rfl rfl (by exact nN.start K L) (by simp only [List.forall_mem_cons,List.not_mem_nil,false_imp_iff,implies_true,and_true]; exact ⟨⟨_,aP (i:=0) rfl,(dI (bY _))⟩,⟨_,aP (i:=1) rfl,(dI (bY _))⟩,⟨_,aP (i:=2) rfl,(dI (bY _))⟩,⟨_,aP (i:=3) rfl,(dI (bY _))⟩,⟨_,aP (i:=4) rfl,(bY _)⟩,⟨_,aP (i:=5) rfl,(bY _)⟩⟩) (by rintro k x k2 ⟨o,_,rfl,_⟩; rfl) rfl (bu rfl) ?_ ?_ (fun _ _ _ h=>h.elim) (fun _ _ h=>h.elim)
   rotate_left 1
   ·rintro Ti k O A5 A9
    have D:=A9
    try dsimp only
    refine aK<|aK<|Jp (X:=V.map lY) 13 0 U U ?_
    try dsimp only
    refine qy 9 U Ay U ?_
    refine bj (LE ⟨((fg left t),O,(Ti::V)),⟨mK J,D.on,D.next Jr hm A5⟩⟩ _ _ _ U (mL hm) (bu U) (aN [9,10,11,12,0,4,14,1,2,3,18,19,20]))
   rintro k x k2 O l ra rb S w1 K95 Qr96 UJ hx IR Os AB UQ UU
   obtain ⟨o,ho,rfl,rfl⟩:=hx
   have D:=IR
   try dsimp only
   refine WS fun _ PP=>rP 1 [] mn ?_
   refine RK PP<|au<|AL U dV fun Us=>fj U cT U<|aD<|jY (fun _ _ h=>h) (aN [1,0,2,3,4,5,6,7,8,9,10,11,12,13,14,15,16])<|bj (Os _ _ ?_)
   refine aC<|ak fun _ EQ=>dx ck [16,18] [] [] [0,1,2,3,4,5,6,7,8,9,10,11,12,13,14,15,16] [] U U U U U<|eS U (DD 2 U bX U)<|eS U (FA 1 U eV U)<|eS U (L1 (vI o.2.Hi) 1 U bX U U) ?_
   have hp:=E.RT (b:=b) I N (J _ hm)
   have UC:=H2 hw hp
   have UH:=ve o.1
   have UI:=hw.opt ho
   dsimp only at UC
   refine eS U (MN U)<|eS U (DD 10 U bX U)<|eS U (SX (cP U U) U U)<|eS U (FA 10 U eV U)<|eS U (GS (vS e_A e.length e_C) 9 U bX U U)<|eS U (DD 7 U bX U) ?_
   obtain ⟨y,hy⟩:=aF e b I
   have J2:=bJ iC hy
   refine eS U (IA b U (ax 11 U) dJ dc I I)<|eS U (h_ b 0 (vI y) U bX (ax 11 U) J2 U dc U) ?_
   have UE:=hw.least y (aP hy)
   refine eS U (BI U (xx ⟨I,I⟩))<|eS U (LW 3 U bX U U)<|eS U (MV U)<|eS U (CL (GM o.1) (aR) U)<|eS U (CL (v8 t (fG o.1) I I) (aR) U)<|eS U (AG U)<|eo U<|cd U fun T101 GT=>AL U tv fun UV=>aD (GT _ _ (aN [1,2,3,4,5,6,7,8,9,10,11,12,13,14,15,16,17]) ?_)
   refine cd U fun T103 GY=>fj U rZ U<|aD (GY _ _ (aN [1,2,3,4,5,6,7,8,9,10,11,12,13,14,15,16,17]) ?_)
   refine fh U<|KK EQ<|ak fun _ Eq=>cW ck 14 kr<|kv 1 [] (mc 11 U mn) U<|dS (SX (cP U U) U U)<|dP 3 [0,1] (mr 10 U (mc 8 U mn)) ?_
   have Id:(List.map oC (iv (A::bb) (ln.ab.n+1)))[b]? =some (oC (some A)):=p_ (sY (i:=0) rfl (by simp; omega))
   refine dS (IA b U (aL (n:=(ln.ab.n+1)) 15 U sq) ou dc I I) ?_
   refine dS (h_ b 0 (Value.map (some A)) U bX (aL (n:=(iv (A::bb) (ln.ab.n+1)).length) 15 U sm) Id U dc U)<|kv 1 [] (mc 0 U mn) U<|dS (SX (sL (kV:=ew) (x:=(dD t (fG o.1))) (l:=O) (f:=iV) (z:=0) U U U o7 o2 TX (by exact ax 7 U)) U U)<|kx 5 U<|cw<|RK Eq<|WS fun _ Y=>er 3 [0,1] (mc 3 U (mc 2 U mn)) U<|rS (MN U)<|rP 4 [] (mc 2 U mn) ?_
   refine db (t:=217) U (aS fun T=>?_) (aT fun T=>?_)
   ·refine rP 8 [] mn ?_
    refine RK Y<|bT U<|cp<|aK ?_
    exact AB O _ _ (by exact D.skip (JU T)) (aN [1,3,4,5,6,7,8,9,10,11,12,13,14,15,16,17])
   refine rP 3 [] mn ?_
   refine bP (t:=220) U (fun AA=>?_) (fun AA=>?_)
   ·rw [Bool.not_eq_true'] at AA
    refine bx 5 U<|RK Y<|aI U<|cW ck 9 kr<|kv 1 [] (mc 11 U mn) U<|dS (SX (cP U U) U U)<|dP 3 [0,1] (mr 10 U (mc 8 U mn)) ?_
    have If:(List.map oC (iv (A::bb) (ln.ab.n+1)))[b]? =some (oC (some A)):=p_ (sY (i:=0) rfl (by simp; omega))
    refine dS (IA b U (aL (n:=(ln.ab.n+1)) 15 U sq) ou dc I I) ?_
    refine dS (h_ b 0 (Value.map (some A)) U bX (aL (n:=(iv (A::bb) (ln.ab.n+1)).length) 15 U sm) If U dc U)<|dP 2 [] (mc 0 U mn) ?_
    refine cw<|jt (kV:=ew) (x:=(dD t (fG o.1))) (C':=[_,_,_,_,_,_,_,(ks ew A (cR iV (eD O (dD t (fG o.1)) ((min v o.2.Hi)-y)))),_,_,_,_,_,_,_,_,_,_]) 7 U U U U o7 o2 U (gN _ _ _ _).symm U<|aD<|aK ?_
    exact AB (eD O (dD t (fG o.1)) ((min v o.2.Hi)-y)) _ _ (by exact D.set (by show b<e.length; omega) hp ho (zo hy T) (.inl (by simpa using AA))) (aN [1,3,4,5,6,7,8,9,10,11,12,13,14,15,16,17])
   rw [Bool.not_eq_false'] at AA
   refine rP 5 [] mn ?_
   refine RK Y<|bO U (aS fun AC=>?_) (aT fun AC=>?_)
   ·refine cp<|aK ?_
    exact AB O _ _ (by exact D.oH (zo hy T) (by simpa using AA) AC) (aN [1,3,4,5,6,7,8,9,10,11,12,13,14,15,16,17])
   refine cW ck 9 kr<|kv 1 [] (mc 11 U mn) U<|dS (SX (cP U U) U U)<|dP 3 [0,1] (mr 10 U (mc 8 U mn)) ?_
   have In:(List.map oC (iv (A::bb) (ln.ab.n+1)))[b]? =some (oC (some A)):=p_ (sY (i:=0) rfl (by simp; omega))
   refine dS (IA b U (aL (n:=(ln.ab.n+1)) 15 U sq) ou dc I I) ?_
   refine dS (h_ b 0 (Value.map (some A)) U bX (aL (n:=(iv (A::bb) (ln.ab.n+1)).length) 15 U sm) In U dc U)<|dP 2 [] (mc 0 U mn) ?_
   refine cw<|jt (kV:=ew) (x:=(dD t (fG o.1))) (C':=[_,_,_,_,_,_,_,(ks ew A (cR iV (eD O (dD t (fG o.1)) ((min v o.2.Hi)-y)))),_,_,_,_,_,_,_,_,_,_]) 7 U U U U o7 o2 U (gN _ _ _ _).symm U<|aD<|aK ?_
   exact AB (eD O (dD t (fG o.1)) ((min v o.2.Hi)-y)) _ _ (by exact D.set (by show b<e.length; omega) hp ho (zo hy T) (.inr AC)) (aN [1,3,4,5,6,7,8,9,10,11,12,13,14,15,16,17])
  refine dx ck [4,11,12,14] [10] [0,1,2] [0,1,2,3,4,6] [0,1,2,3,4,5,6] U U U U U<|eS U (DD 1 U bX U)<|eS U (SX (cP U U) U U)<|eS U (FA 12 U eV U)<|eS U (GS (vS fA (ln.ab.n+1) (ln.ab.n+1)) 0 U bX U U)<|eS U (SX (bG (xs:=[]) (cs:=(aJ.cells (aJ.mk 0 0))) U U (bH BW U)) U U)<|eS U (DD 1 U bX U)<|eS U (SX (cP U U) U U)<|eS U (FA 7 U eV U)<|eS U (FA 7 U eV U)<|eS U (GS (vI ri.Start) 0 U bX U U) ?_
  obtain ⟨x6,UK⟩:=aF (List.replicate (ln.ab.n+1) (none:Option Nat)) 0 I
  have hx7m:(List.map oC (List.replicate (ln.ab.n+1) (none:Option Nat)))[0]? =some (oC x6):=by rw [fK,UK]; rfl
  refine fS U (IA 0 U (aL (n:=(ln.ab.n+1)) 5 U sq) ou dc U I) ?_
  refine eo U<|jJ U fun T8 HY=>mH (kV:=ew) U U fun r=>?_
  try dsimp only
  refine aD (HY _ _ (aN [1,2,3,4,5,7]) (aN [1,2,3,4,5,6,7]) ?_)
  refine jJ U fun T10 G=>?_
  have R4:(eD ([]:List (aJ×Int)) (aJ.mk 0 0) ri.Start)=[((aJ.mk 0 0),ri.Start)]:=by rfl
  refine vi (kV:=ew) (x:=(aJ.mk 0 0)) (C':=[(ks ew r (cR iV ([((aJ.mk 0 0),ri.Start)]))),_,_,_,_,_,_,_]) 0 U U U U o7 o2 U ((gN _ _ _ _).symm.trans (congrArg _ R4)) U<|aD (G _ _ (aN [1,2,3,4,5,7]) (aN [1,2,3,4,5,6,7]) ?_)
  refine jJ U fun T12 Pi=>rS (MV U)<|aD (Pi _ _ (aN [1,2,3,4,5,7]) (aN [1,2,3,4,5,6,7]) ?_)
  refine cd U fun T13 Pl=>?_
  have R5:((List.replicate (ln.ab.n+1) (none:Option Nat)).set 0 (some r))=(dB [r] (ln.ab.n+1)):=by rw [uB]; exact rp rfl sm
  refine gp (k:=0) (o:=0) (vs:=[(Value.map (some r))]) (es':=(List.map oC (dB [r] (ln.ab.n+1)))) (C':=[_,_,_,_,_,_,(own fA (ln.ab.n+1) 276 1 (List.map oC (dB [r] (ln.ab.n+1)))),_]) 6 U U U I_ U U U U hx7m U dc (by exact (List.map_set (f:=oC) (l:=(List.replicate (ln.ab.n+1) (none:Option Nat))) (i:=0) (a:=(some r))).symm.trans (congrArg _ R5)) U<|aD (Pl _ _ (aN [1,2,3,4,5,7]) ?_)
  refine fh U<|Da<|wV (X:=[]) (X':=bk mU [[((aJ.mk 0 0),ri.Start)]] [r]) 0 1 U U U ?_
  try dsimp only
  refine bj (jY (bu U) (aN [1,2,3,4,5,7,0,6]) (UB ⟨r,trivial⟩))
 refine mx ck [0,1,2,3,5,6,8,9,11,12] [4,7,10,13] [false,false,false,false,false,false,false,false,false,false] [] [(cy W 237 [(vP gw)]),(rd e_A e.length 1 (e.map iC)).ro,(rd t_A tms.length 1 (List.zipWith gr tms tb)).ro,(dL (bk pU tms tb)).ro] [] kr (aN [0,2,3,4]) (aN [])<|eS U (DD 0 U bX U)<|eS U (DD 0 U bX U)<|eS U (MV U)<|eS U (BI U (n9 ⟨I,I⟩))<|eS U (MV U)<|eS U (BI U (n9 ⟨I,I⟩))<|eS U (SX (cP U U) U U)<|eS U (FA 12 U eV U)<|eS U (SX (cP U U) U U)<|eS U (FA 13 U eV U)<|eo U<|mj [4,7] kr (ik ?_<|ik ?_<|pg)
 rotate_left 1
 ·refine NO U U [4,10,13] fun T5 Go=>?_
  refine s8 (n:=(ln.ab.n+1)) (es:=(List.map oC (List.replicate (ln.ab.n+1) (none:Option Nat)))) U U U AJ I I (by simp only [maxLen]; omega) (by rw [List.map_replicate]; rfl) U fun b6=>?_
  try dsimp only
  refine aD (Go _ _ (aN [1,3,4,5]) ?_)
  refine N1 4<|NO U U [10,13] fun T7 A4=>?_
  refine s8 (n:=(ln.ab.n+1)) (es:=(List.map oC (List.replicate (ln.ab.n+1) (none:Option Nat)))) U U U AJ I I (by simp only [maxLen]; omega) (by rw [List.map_replicate]; rfl) U fun b8=>?_
  try dsimp only
  refine aD (A4 _ _ (aN [2,4,5,6]) ?_)
  refine N1 10<|NO U U [13] fun T9 Ho=>M_ (cb.cells (cb.mk ln ri (bK.mk e_A e.length e_C) (bK.mk t_A tms.length t_C) (bK.mk (some ⟨b8,0,none⟩) (ln.ab.n+1) (ln.ab.n+1)) (bK.mk none 0 0))) U yr U U<|aD (Ho _ _ (aN [2,4,5,6]) ?_)
  refine N1 13<|NO U U [] fun T10 G=>M_ (cb.cells (cb.mk ln ri (bK.mk e_A e.length e_C) (bK.mk t_A tms.length t_C) (bK.mk (some ⟨b8,0,none⟩) (ln.ab.n+1) (ln.ab.n+1)) (bK.mk (some ⟨b6,0,none⟩) (ln.ab.n+1) (ln.ab.n+1)))) U yr U U<|aD (G _ _ (aN [2,4,5,6]) ?_)
  refine lp ?_
  refine bj (jY (bu U) (aN [2,4,5,6,0,1,3]) (FS ⟨((some ⟨b8,0,none⟩),(some ⟨b6,0,none⟩)),trivial⟩))
 refine NO U U [7,10,13] fun T5 Go=>?_
 refine s8 (n:=(ln.ab.n+1)) (es:=(List.map oC (List.replicate (ln.ab.n+1) (none:Option Nat)))) U U U AJ I I (by simp only [maxLen]; omega) (by rw [List.map_replicate]; rfl) U fun b6=>?_
 try dsimp only
 refine aD (Go _ _ (aN [1,3,4,5]) ?_)
 refine mj [7,10] kr (ik ?_<|ik ?_<|pg)
 rotate_left 1
 ·refine NO U U [7,13] fun T7 A4=>Tp (cb.cells (cb.mk ln ri (bK.mk e_A e.length e_C) (bK.mk t_A tms.length t_C) (bK.mk (some ⟨b6,0,none⟩) (ln.ab.n+1) (ln.ab.n+1)) (bK.mk none 0 0))) U yr U U<|aD (A4 _ _ (aN [1,3,4,5]) ?_)
  refine N1 7<|NO U U [13] fun T8 HY=>?_
  refine s8 (n:=(ln.ab.n+1)) (es:=(List.map oC (List.replicate (ln.ab.n+1) (none:Option Nat)))) U U U AJ I I (by simp only [maxLen]; omega) (by rw [List.map_replicate]; rfl) U fun r=>?_
  try dsimp only
  refine aD (HY _ _ (aN [2,4,5,6]) ?_)
  refine N1 13<|NO U U [] fun T10 G=>M_ (cb.cells (cb.mk ln ri (bK.mk e_A e.length e_C) (bK.mk t_A tms.length t_C) (bK.mk (some ⟨b6,0,none⟩) (ln.ab.n+1) (ln.ab.n+1)) (bK.mk (some ⟨r,0,none⟩) (ln.ab.n+1) (ln.ab.n+1)))) U yr U U<|aD (G _ _ (aN [2,4,5,6]) ?_)
  refine lp ?_
  refine bj (jY (bu U) (aN [2,4,5,6,1,0,3]) (FS ⟨((some ⟨b6,0,none⟩),(some ⟨r,0,none⟩)),trivial⟩))
 refine NO U U [10,13] fun T7 A4=>?_
 refine s8 (n:=(ln.ab.n+1)) (es:=(List.map oC (List.replicate (ln.ab.n+1) (none:Option Nat)))) U U U AJ I I (by simp only [maxLen]; omega) (by rw [List.map_replicate]; rfl) U fun b8=>?_
 try dsimp only
 refine aD (A4 _ _ (aN [2,4,5,6]) ?_)
 refine N1 10<|NO U U [13] fun T9 Ho=>M_ (cb.cells (cb.mk ln ri (bK.mk e_A e.length e_C) (bK.mk t_A tms.length t_C) (bK.mk (some ⟨b6,0,none⟩) (ln.ab.n+1) (ln.ab.n+1)) (bK.mk none 0 0))) U yr U U<|aD (Ho _ _ (aN [2,4,5,6]) ?_)
 refine N1 13<|NO U U [] fun T10 G=>M_ (cb.cells (cb.mk ln ri (bK.mk e_A e.length e_C) (bK.mk t_A tms.length t_C) (bK.mk (some ⟨b6,0,none⟩) (ln.ab.n+1) (ln.ab.n+1)) (bK.mk (some ⟨b8,0,none⟩) (ln.ab.n+1) (ln.ab.n+1)))) U yr U U<|aD (G _ _ (aN [2,4,5,6]) ?_)
 refine lp ?_
 refine bj (jY (bu U) (aN [2,4,5,6,1,0,3]) (FS ⟨((some ⟨b6,0,none⟩),(some ⟨b8,0,none⟩)),trivial⟩))
end
section
open Go.RowKit
theorem DK (l:bo) (kA:OA) (kC:Nat) (az:List RA) (cA:OA) (cC:Nat) (bA:OA) (bC g1:Nat) (bm:Int) (g2:Nat) (hin:d_ l az):
 dF Tryz.prog 145 [(vP g1),(vP g2)] [(rd kA l.aO.length 9 (l.aO.map aq.cells)),(rd cA l.aj.length 2 (List.zipWith av.cells l.aj az)),(dL (bk av.fu l.aj az)),(rd bA l.ab.length 4 (l.ab.map bL.cells)),(cy g1 28 (cu.cells (jr l kA kC cA cC bA bC))),(cy g2 3 [(vI bm)])] (vI (e_ l bm)):=by
 have K:=hin.qm
 have J:=hin.qj
 have H:=hin.mq
 have AA:=hin.qi
 refine bE kr Tryz.func145 U U fun L Q hQ hN=>?_
 try dsimp only
 refine WS fun _ B=>bx 1 U<|RK B<|ak fun _ C=>WS fun _ D=>rP 5 [0,1] (mr 4 U (mr 5 U mn)) ?_
 refine eP (xs:=[.tmp 7]) (cs:=[(vI bm)]) U dJ kJ U U U U (by simp [Value.cells]) U U fun G=>?_
 refine rS (CL (dF.eq (ic 0 ((l.ab.length:Int)-1) ([bm]) (some ⟨G,0,none⟩) 1 (by (simp; done))) cD) (aQ (bq 0 U U (by simp [bU]) U)<|aR) U) ?_
 refine rP 1 [] mn ?_
 refine RK D<|cr U (aW fun A=>?_) (aV fun A=>?_)
 ·refine WS fun _ E=>rP 1 [] mn ?_
  refine RK E<|ao<|Q1 hQ U U U ?_
  exact cI (if_neg I).symm
 refine WK C<|WS fun _ F=>rP 1 [] mn ?_
 refine RK F<|ao<|Q1 hQ U U U ?_
 exact cI (if_pos I).symm
theorem Kf (l:bo) (kA:OA) (kC:Nat) (az:List RA) (cA:OA) (cC:Nat) (bA:OA) (bC:Nat) (r:cx) (sgA:OA) (sgC:Nat) (hin:d_ l az) (hsl:r.aa.length≤1000000):
 qf Tryz.prog 144 [(vA (cu.cells (jr l kA kC cA cC bA bC))),(vA (de.cells (im r sgA sgC))),(vS none 0 0)] [(rd kA l.aO.length 9 (l.aO.map aq.cells)),(rd cA l.aj.length 2 (List.zipWith av.cells l.aj az)),(dL (bk av.fu l.aj az)),(rd bA l.ab.length 4 (l.ab.map bL.cells)),(rd sgA r.aa.length 2 (r.aa.map aH.cells))] (fun (x:Bool×Int×Nat×(OA)×Nat×(OA)×Nat×(List Nat)×(List FM)×(List Nat)×(OA)×Nat×(List FM)×(List Nat)×(OA)×Nat)=>bif x.1 then (vT [(Value.pointer (some ⟨x.2.2.1,0,none⟩)),(vI 0)]) else (vT [(Value.pointer none),(vI x.2.1)])) (fun (x:Bool×Int×Nat×(OA)×Nat×(OA)×Nat×(List Nat)×(List FM)×(List Nat)×(OA)×Nat×(List FM)×(List Nat)×(OA)×Nat)=>(x.1=true→(dN l r 0=0∧vm (bW l r) x.2.2.2.2.2.2.2.2.1∧sB (bW l r) x.2.2.2.2.2.2.2.2.2.2.2.2.1∧x.2.2.2.2.2.2.2.2.2.1.length=x.2.2.2.2.2.2.2.2.1.length∧x.2.2.2.2.2.2.2.2.2.2.2.2.2.1.length=x.2.2.2.2.2.2.2.2.2.2.2.2.1.length∧x.2.2.2.2.2.2.2.1.length=(cL l r.aa r.aa.length).length))∧(x.1=false→(x.2.1=dN l r 0∧ ¬ dN l r 0=0))) (fun (x:Bool×Int×Nat×(OA)×Nat×(OA)×Nat×(List Nat)×(List FM)×(List Nat)×(OA)×Nat×(List FM)×(List Nat)×(OA)×Nat)=>bif x.1 then [(cy x.2.2.1 273 (cb.cells (cb.mk (jr l kA kC cA cC bA bC) (im r sgA sgC) (bK.mk x.2.2.2.1 ((cq l l.ab.length).length) x.2.2.2.2.1) (bK.mk x.2.2.2.2.2.1 ((cL l r.aa r.aa.length).length) x.2.2.2.2.2.2.1) (bK.mk x.2.2.2.2.2.2.2.2.2.2.1 x.2.2.2.2.2.2.2.2.1.length x.2.2.2.2.2.2.2.2.2.2.2.1) (bK.mk x.2.2.2.2.2.2.2.2.2.2.2.2.2.2.1 x.2.2.2.2.2.2.2.2.2.2.2.2.1.length x.2.2.2.2.2.2.2.2.2.2.2.2.2.2.2)))),(own x.2.2.2.1 x.2.2.2.2.1 3 1 ((cq l l.ab.length).map iC)),(own x.2.2.2.2.2.1 x.2.2.2.2.2.2.1 155 1 (List.zipWith gr (cL l r.aa r.aa.length) x.2.2.2.2.2.2.2.1)),(bS (bk pU (cL l r.aa r.aa.length) x.2.2.2.2.2.2.2.1)),(own x.2.2.2.2.2.2.2.2.2.2.1 x.2.2.2.2.2.2.2.2.2.2.2.1 276 1 (List.zipWith gr x.2.2.2.2.2.2.2.2.1 x.2.2.2.2.2.2.2.2.2.1)),(bS (bk mU x.2.2.2.2.2.2.2.2.1 x.2.2.2.2.2.2.2.2.2.1)),(own x.2.2.2.2.2.2.2.2.2.2.2.2.2.2.1 x.2.2.2.2.2.2.2.2.2.2.2.2.2.2.2 276 1 (List.zipWith gr x.2.2.2.2.2.2.2.2.2.2.2.2.1 x.2.2.2.2.2.2.2.2.2.2.2.2.2.1)),(bS (bk mU x.2.2.2.2.2.2.2.2.2.2.2.2.1 x.2.2.2.2.2.2.2.2.2.2.2.2.2.1))] else []):=by
 have R8:=hin.qm
 have R6:=hin.qj
 have R4:=hin.mq
 have R5:=hin.qi
 have R7:=hin.side
 refine fJ kr Tryz.func144 U U fun w0 Q hQ hN=>?_
 try dsimp only
 refine WS fun _ M3=>ed U fun b2=>ed U fun b3=>bx 2 U<|RK M3<|ak fun _ NE=>WS fun _ Ne=>er 1 [] (mc 1 U mn) U<|rS (CL (xr l kA kC az cA cC bA bC hin) (br [2,3,4,5]) U)<|bx 1 U<|RK Ne<|WS fun _ N7=>rP 2 [] mn ?_
 refine RK N7<|cr U (aW fun B=>?_) (aV fun B=>?_)
 ·refine WS fun _ OB=>rP 3 [] mn ?_
  refine RK OB<|ao ?_
  refine LX hQ (false,(dM l),0,none,0,none,0,[],[],[],none,0,[],[],none,0) [] [] mn U (by first|rfl|(show List.all _ _=true; simp only [cond_true,eH,List.all_nil,ph,q6,Bool.and_true]; rfl)) U U ?_
  refine ⟨yl,fun _=>?_⟩; first|exact EC (eE (r:=r) (me:=0) B) B|exact nv (cM (me:=0) A (fun q:ei l r=>by have p:=q.time; have s:=q.len; omega))|exact nv (cM (me:=0) A (kl hx (by unfold iB je; omega)))|exact nv (g8 (me:=0) A H (by first|rfl|exact h156) (show hG (bW l r)=[] from ig (Int.natCast_eq_zero.1 C)))
 refine WK NE<|ak fun _ OF=>WS fun _ w=>?_
 have A:dM l=0:=B
 obtain ⟨LA,e⟩:=dK A
 have OQ:=e.head
 unfold eT at OQ
 refine rP 2 [] (mc 0 U mn) ?_
 refine eP (xs:=[.tmp 24]) (cs:=[(vI r.Start)]) U dJ kJ U U U U (by simp [Value.cells]) U U fun Li=>?_
 refine rS (CL (dF.eq (ic 0 86400000 ([r.Start]) (some ⟨Li,0,none⟩) 1 sd) cD) (aQ (bq 0 U U (by simp [bU]) U)<|aR) U) ?_
 refine rP 2 [] mn ?_
 refine bP (t:=28) U (aW fun L0=>?_) (aV fun L0=>?_)
 ·refine bx 14 U<|RK w<|aI U<|WS fun _ A7=>rP 2 [] mn ?_
  refine RK A7<|ao ?_
  refine LX hQ (false,51,0,none,0,none,0,[],[],[],none,0,[],[],none,0) [] [] mn U (by first|rfl|(show List.all _ _=true; simp only [cond_true,eH,List.all_nil,ph,q6,Bool.and_true]; rfl)) U U ?_
  refine ⟨yl,fun _=>?_⟩; first|exact EC (eE (r:=r) (me:=0) B) B|exact nv (cM (me:=0) A (fun q:ei l r=>by have p:=q.time; have s:=q.len; omega))|exact nv (cM (me:=0) A (kl hx (by unfold iB je; omega)))|exact nv (g8 (me:=0) A H (by first|rfl|exact h156) (show hG (bW l r)=[] from ig (Int.natCast_eq_zero.1 C)))
 refine rP 4 [] (mc 1 U mn) ?_
 refine eP (xs:=[.tmp 32]) (cs:=[(vI r.fP)]) U dJ kJ U U U U (by simp [Value.cells]) U U fun Lk=>?_
 refine rS (CL (dF.eq (ic r.Start 86400000 ([r.fP]) (some ⟨Lk,0,none⟩) 1 sd) cD) (aQ (bq 0 U U (by simp [bU]) U)<|aR) U) ?_
 refine rP 3 [] mn ?_
 refine bP (t:=37) U (aW fun L3=>?_) (aV fun L3=>?_)
 ·refine bx 5 U<|RK w<|aI U<|WS fun _ A8=>rP 2 [] mn ?_
  refine RK A8<|ao ?_
  refine LX hQ (false,51,0,none,0,none,0,[],[],[],none,0,[],[],none,0) [] [] mn U (by first|rfl|(show List.all _ _=true; simp only [cond_true,eH,List.all_nil,ph,q6,Bool.and_true]; rfl)) U U ?_
  refine ⟨yl,fun _=>?_⟩; first|exact EC (eE (r:=r) (me:=0) B) B|exact nv (cM (me:=0) A (fun q:ei l r=>by have p:=q.time; have s:=q.len; omega))|exact nv (cM (me:=0) A (kl hx (by unfold iB je; omega)))|exact nv (g8 (me:=0) A H (by first|rfl|exact h156) (show hG (bW l r)=[] from ig (Int.natCast_eq_zero.1 C)))
 refine rP 5 [] (mc 2 U mn) ?_
 refine RK w<|cr U (aT fun Ms=>?_) (aS fun Ms=>?_)
 ·refine WS fun _ A9=>rP 2 [] mn ?_
  refine RK A9<|ao ?_
  refine LX hQ (false,51,0,none,0,none,0,[],[],[],none,0,[],[],none,0) [] [] mn U (by first|rfl|(show List.all _ _=true; simp only [cond_true,eH,List.all_nil,ph,q6,Bool.and_true]; rfl)) U U ?_
  refine ⟨yl,fun _=>?_⟩; first|exact EC (eE (r:=r) (me:=0) B) B|exact nv (cM (me:=0) A (fun q:ei l r=>by have p:=q.time; have s:=q.len; omega))|exact nv (cM (me:=0) A (kl hx (by unfold iB je; omega)))|exact nv (g8 (me:=0) A H (by first|rfl|exact h156) (show hG (bW l r)=[] from ig (Int.natCast_eq_zero.1 C)))
 refine WK OF<|WS fun _ Bv=>rS (SX (bG (xs:=[(0,.const (vI (-1)))]) (cs:=(aH.cells (aH.mk (-1) 0))) U U (bH Mo U)) U U)<|AL U Bo fun Y=>fj U oZ U<|RK Bv<|ak fun _ B3=>dx ck [5,6,7,8] [] [] [0,1,2,3,4,5,6,7,8,9] [] U U U U U<|eS U (LW 4 U bX U U)<|eS U (LW 3 U bX U U)<|eS U (FA 3 U eV U)<|eS U (L1 (vS bA l.ab.length bC) 4 U bX U U)<|eS U (LN U Od)<|eo U<|cd U fun T18 H1=>?_
 refine s8 (n:=l.ab.length) (es:=(List.map oC (List.replicate l.ab.length (none:Option Nat)))) U U U MJ I I (by simp only [maxLen]; omega) (by rw [List.map_replicate]; rfl) U fun E=>?_
 try dsimp only
 refine aD (H1 _ _ (aN [1,2,3,4,5,6,7,8,9,10]) ?_)
 refine cd U fun T20 IO=>rS (SX (bG (xs:=[(0,.tmp 44),(1,.tmp 45),(3,.tmp 49)]) (cs:=(cb.cells (cb.mk (jr l kA kC cA cC bA bC) (im r sgA sgC) (bK.mk none 0 0) (bK.mk (some ⟨E,0,none⟩) l.ab.length l.ab.length) (bK.mk none 0 0) (bK.mk none 0 0)))) U U (bH MP U)) U U)<|aD (IO _ _ (aN [1,2,3,4,5,6,7,8,9,10]) ?_)
 refine cd U fun T21 IR=>ed U fun M=>aD (IR _ _ (aN [2,3,4,5,6,7,8,9,10,11]) ?_)
 refine cd U fun T23 Id=>rS (AG U)<|aD (Id _ _ (aN [2,3,4,5,6,7,8,9,10,11]) ?_)
 refine fh U<|KK B3<|ak fun _ B9=>WS fun _ Ci=>rP 4 [] (mc 6 U mn) ?_
 refine RK Ci<|aC ?_
 rw [uB]
 refine fR 3 1<|mP ?_
 have G:(0≤l.ab.length)∧(([]:List Nat).length=0):=by exact ⟨Nat.zero_le _,rfl⟩
 refine bQ (ι:={z:Nat×(OA)×Nat×(List Nat) // (z.1≤l.ab.length)∧(z.2.2.2.length=z.1)}) [2,3,4,6,7,9,10,54] [4,7,8,9,10,11,12,13] U U (fun z=>[(55,(vI (z.1.1:Int)))]) (fun z=>[(bS (bk pU (List.replicate z.1.1 ([]:TM)) z.1.2.2.2)),(own z.1.2.1 z.1.2.2.1 3 1 ((cq l z.1.1).map iC)),(cy M 273 (cb.cells (cb.mk (jr l kA kC cA cC bA bC) (im r sgA sgC) (bK.mk z.1.2.1 ((cq l z.1.1).length) z.1.2.2.1) (bK.mk (some ⟨E,0,none⟩) l.ab.length l.ab.length) (bK.mk none 0 0) (bK.mk none 0 0)))),(own (some ⟨E,0,none⟩) l.ab.length 155 1 (List.map oC (dB z.1.2.2.2 l.ab.length)))]) (fun _=>rfl) (fun _=>rfl) (fun z=>l.ab.length-z.1.1) ⟨(0,none,0,([]:List Nat)),G⟩ (bu U) (aN [4,7,8,9,10,11,12,13,0,1,2,3]) ?_
 clear G
 rintro ⟨⟨b,a,c,fb⟩,⟨y,Z⟩⟩ J26 A6
 try dsimp only at y Z
 try dsimp only
 have OT:(dB fb l.ab.length).length=l.ab.length:=ng I
 refine WS fun _ Ck=>rP 1 [] mn ?_
 refine RK Ck<|ak fun _ Cp=>cr U (aT fun L2=>?_) (aS fun L2=>?_)
 ·refine WK Cp<|ak fun _ Cx=>aC<|WS fun _ C0=>rP 2 [] mn ?_
  refine RK C0<|ak fun _ C1=>dx ck [12,13,16] [4] [0] [0,1,2,3,4,5,6,7,8,11] [0,1,2,3,4,5,6,7,8,9,10,11] U U U U U<|eS U (MV U)<|eS U (MV U)<|eS U (SX (cP U U) U U)<|eS U (FA 10 U eV U)<|fS U (L1 (vS a ((cq l b).length) c) 10 U bX U U)<|eS U (LW 2 U bX U U)<|eS U (MV U) ?_
  refine eS U (CL (G5 l kA kC az cA cC bA bC (b:Int) hin sd (by exact e.ti) sd) (br [3,4,5,6]) U) ?_
  have R9:=B2 LA e.ti b
  have SA:=e.Oa b I
  simp only [Int.toNat_natCast]
  refine eS U (BI U (wo ⟨I,I⟩))<|eS U (FA 1 U eV U)<|eS U (L1 (vI l.ib) 2 U bX U U) ?_
  refine eS U (CL (G1 (1000*(mo l (b:Int).toNat)) l.ib sd sd) (aR) U) ?_
  refine eS U (SX (cP U U) U U)<|eS U (FA 10 U eV U)<|eo U<|jJ U fun T33 If=>eP (xs:=[.tmp 69]) (cs:=[(vI (oM (1000*(mo l (b:Int).toNat)) l.ib))]) U dJ kJ U U U U (by simp [Value.cells]) U U fun RT=>aD (If _ _ (aN [1,2,3,4,5,6,7,8,9,12]) (aN [1,2,3,4,5,6,7,8,9,10,11,12]) ?_)
  refine cd U fun T35 In=>?_
  refine dA (es2:=(List.map iC (cq l (b+1)))) (m':=(cq l (b+1)).length) 10 U U U qz U U (by simp [cS]) (bq (es:=List.map iC [(oM (1000*(mo l (b:Int).toNat)) l.ib)]) 0 U U (by simp [bU]) U) (kG _) (by have:=cS (l:=l) (n:=b); first|omega|(simp; omega)) (by simp only [maxLen,cS]; omega) (by rw [qK]; simp [ej]) (by simp [cS]) U fun A0 A1=>?_
  try dsimp only
  refine aD (In _ _ (aN [1,2,3,4,5,6,7,8,9,12]) ?_)
  refine cd U fun T38 Jb=>Qi (cb.cells (cb.mk (jr l kA kC cA cC bA bC) (im r sgA sgC) (bK.mk A0 ((cq l (b+1)).length) A1) (bK.mk (some ⟨E,0,none⟩) l.ab.length l.ab.length) (bK.mk none 0 0) (bK.mk none 0 0))) U F3 U U<|aD (Jb _ _ (aN [1,2,3,4,5,6,7,8,9,12]) ?_)
  refine fh U<|KK C1<|au<|bx 1 U<|rS (SX (cP U U) U U)<|rP 3 [] (mc 11 U mn) ?_
  refine mH (kV:=iV) U U fun K=>?_
  try dsimp only
  obtain ⟨Os,LT⟩:=aF (dB fb l.ab.length) b I
  have hx41m:(List.map oC (dB fb l.ab.length))[b]? =some (oC Os):=by rw [fK,LT]; rfl
  refine rS (IA b U (aL (n:=l.ab.length) 13 U sq) xX dc I I) ?_
  have Ji:((dB fb l.ab.length).set b (some K))=(dB (fb++[K]) l.ab.length):=by exact rp I I
  refine gp (k:=b) (o:=0) (vs:=[(Value.map (some K))]) (es':=(List.map oC (dB (fb++[K]) l.ab.length))) (C':=[_,_,_,_,_,_,_,_,_,_,_,_,_,(own (some ⟨E,0,none⟩) l.ab.length 155 1 (List.map oC (dB (fb++[K]) l.ab.length)))]) 13 U U U EY U U U U hx41m U dc (by exact (List.map_set (f:=oC) (l:=(dB fb l.ab.length)) (i:=b) (a:=(some K))).symm.trans (congrArg _ Ji)) U<|aD<|aK<|KK Cx<|au<|rP 2 [] mn ?_
  refine aD<|wV (X':=bk pU (List.replicate (b+1) ([]:TM)) (fb++[K])) 10 0 U U (EW Z) ?_
  try dsimp only
  have Jr:(vI (((b+1):Nat):Int))=(vI ((b:Int)+1)):=by exact cI I
  refine bj (A6 ⟨((b+1),A0,A1,(fb++[K])),⟨I,by simp; omega⟩⟩ _ _ _ U os (cN 8<|a_ U Jr<|dh.nil _) (aN [2,3,4,5,6,7,8,9,0,10,11,12]))
 refine bM<|ag<|ag<|aG<|KK B9<|ak fun _ C2=>WS fun _ C3=>rP 4 [] (mc 1 U mn) ?_
 refine RK C3<|aC ?_
 rw [show (List.replicate b ([]:TM))=cL l r.aa 0 from by rw [x9,show b=l.ab.length by omega]]
 rw [show cq l b=cq l l.ab.length from by rw [show b=l.ab.length by omega]]
 have G:(0≤r.aa.length)∧(oB l r.aa 0):=by exact ⟨Nat.zero_le _,uS⟩
 refine bQ (ι:={z:Nat // (z≤r.aa.length)∧(oB l r.aa z)}) [2,3,4,6,7,9,10,83,84] [1,2,3,4,5,6,7,9,10,11] U U (fun z=>[(85,(vI (z.1:Int)))]) (fun z=>[(cy Y 139 (aH.cells (lR r.aa z.1))),(bS (bk pU (cL l r.aa z.1) fb))]) (fun _=>rfl) (fun _=>rfl) (fun z=>r.aa.length-z.1) ⟨0,G⟩ (bu U) (aN [1,2,3,4,5,6,7,9,10,11,0,8]) ?_
 clear G
 rintro ⟨i,⟨La,D⟩⟩ J46 V
 try dsimp only
 have Op:(cL l r.aa i).length=l.ab.length:=gT
 have OT:(dB fb l.ab.length).length=l.ab.length:=ng I
 refine WS fun _ DE=>rP 1 [] mn ?_
 refine RK DE<|ak fun _ DW=>bO U (aS fun M0=>?_) (aT fun M0=>?_)
 ·refine bM<|ag<|ag<|aG<|KK C2<|ak fun _ GT=>ak fun _ GY=>?_
  have H:ei l r:=xM I I D I
  refine au<|rP 3 [] mn ?_
  refine RK GY<|aC<|qB 1<|kT fun R81 Pt=>WS fun _ Go=>rS (SX (eK (r:= .bool false) U U U p9) U U)<|RK Go<|ak fun _ Pl=>bT U<|bM<|ag<|ag<|aG<|KK GT<|ak fun _ HY=>?_
  rw [show cL l r.aa i=cL l r.aa r.aa.length from by rw [show i=r.aa.length by omega]]
  have AO:(cL l r.aa r.aa.length).length=l.ab.length:=gT
  rw [show (List.map oC (dB fb l.ab.length))=(List.zipWith gr (cL l r.aa r.aa.length) fb) from PX I AO]
  rw [show (cy M 273 (cb.cells (cb.mk (jr l kA kC cA cC bA bC) (im r sgA sgC) (bK.mk a ((cq l l.ab.length).length) c) (bK.mk (some ⟨E,0,none⟩) l.ab.length l.ab.length) (bK.mk none 0 0) (bK.mk none 0 0))))=(cy M 273 (cb.cells (cb.mk (jr l kA kC cA cC bA bC) (im r sgA sgC) (bK.mk a ((cq l l.ab.length).length) c) (bK.mk (some ⟨E,0,none⟩) ((cL l r.aa r.aa.length).length) l.ab.length) (bK.mk none 0 0) (bK.mk none 0 0)))) from by rw [AO]]
  have LE:=lL LA e H
  have Pw:(cq l l.ab.length).length=l.ab.length:=cS
  refine au<|rP 1 [] mn ?_
  refine ob 8 U U U U (BT (jr l kA kC cA cC bA bC) (im r sgA sgC) (cq l l.ab.length) (cL l r.aa r.aa.length) a c fb (some ⟨E,0,none⟩) l.ab.length M (by exact LE) (by exact cS.symm) (by rw [AO]; omega)) U (ep 7 U U (jx sm) (ep 9 U U (jx (by rw [List.length_zipWith]; omega)) (ep 11 U U qL qZ))) U (fun PP OG=>?_)
  obtain ⟨J,AA,S,T,AB,R,O,P⟩:=PP
  refine EF (X:=[(cy M 273 (cb.cells (cb.mk (jr l kA kC cA cC bA bC) (im r sgA sgC) (bK.mk a ((cq l l.ab.length).length) c) (bK.mk (some ⟨E,0,none⟩) ((cL l r.aa r.aa.length).length) l.ab.length) (bK.mk S J.length T) (bK.mk O AB.length P)))),(own S T 276 1 (List.zipWith gr J AA)),(bS (bk mU J AA)),(own O P 276 1 (List.zipWith gr AB R)),(bS (bk mU AB R))]) 8 U U ?_
  try dsimp only
  obtain ⟨AC,K4,K5,K8⟩:=OG
  dsimp only at AC K4 K5 K8
  refine RK HY<|ak fun _ Hi=>WS fun _ Ho=>rP 1 [] mn ?_
  refine cX (uP (jr l kA kC cA cC bA bC) (im r sgA sgC) (cq l l.ab.length) (cL l r.aa r.aa.length) a c fb (some ⟨E,0,none⟩) l.ab.length J AB AA S T R O P M (by exact LE) sd (by exact cS.symm) (by exact AC) sd) (aQ (aL (n:=(cq l l.ab.length).length) 12 U sm)<|aQ (aL (n:=(cL l r.aa r.aa.length).length) 13 U (by rw [List.length_zipWith]; omega))<|aQ (gM 15 U lB)<|aQ (aL (n:=J.length) 1 U (by rw [List.length_zipWith]; omega))<|aQ (gM 2 U lB)<|aQ (aL (n:=AB.length) 3 U (by rw [List.length_zipWith]; omega))<|aQ (gM 4 U lB)<|gu 0 U U<|aR) U fun Pi QI=>?_
  obtain ⟨Qr,R3⟩:=Pi
  try dsimp only
  refine rP 2 [] mn ?_
  refine RK Ho<|bO U (aS fun C=>?_) (aT fun C=>?_)
  ·refine WK Hi<|WS fun _ v=>rP 3 [] mn ?_
   refine RK v<|ao ?_
   refine LX hQ (true,0,M,a,c,(some ⟨E,0,none⟩),l.ab.length,fb,J,AA,S,T,AB,R,O,P) [1,13,14,16,2,3,4,5] [] mn U (by first|rfl|(show List.all _ _=true; simp only [cond_true,eH,List.all_nil,ph,q6,Bool.and_true]; rfl)) U U ?_
   exact ⟨fun _=>⟨mh A H (by first|rfl|exact h156) (fun q=>C (congrArg (fun z:List Int=>(z.length:Int)) q)),AC,K4,K5,K8,dso⟩,OZ⟩
  refine WS fun _ u=>rP 2 [] mn ?_
  refine RK u<|ao ?_
  refine LX hQ (false,8,0,none,0,none,0,[],[],[],none,0,[],[],none,0) [] [] mn U (by first|rfl|(show List.all _ _=true; simp only [cond_true,eH,List.all_nil,ph,q6,Bool.and_true]; rfl)) U U ?_
  refine ⟨yl,fun _=>?_⟩; first|exact EC (eE (r:=r) (me:=0) B) B|exact nv (cM (me:=0) A (fun q:ei l r=>by have p:=q.time; have s:=q.len; omega))|exact nv (cM (me:=0) A (kl hx (by unfold iB je; omega)))|exact nv (g8 (me:=0) A H (by first|rfl|exact h156) (show hG (bW l r)=[] from ig (Int.natCast_eq_zero.1 C)))
 refine WK DW<|ak fun _ W=>aC<|WS fun _ Di=>rP 1 [] mn ?_
 obtain ⟨x,hx⟩:=aF r.aa i I
 have Or:=bJ aH.cells hx
 refine rS (IA i U (ax 6 U) xp dc I I)<|rS (jL i 0 (aH.cells x) U bX (ax 6 U) Or U dc U U)<|AL U Bo fun R0=>bx 1 U<|fj U oZ U<|RK Di<|ak fun _ g=>WS fun _ L=>rP 6 [0,1] (mc 2 U (mc 0 U mn)) ?_
 refine eP (xs:=[.tmp 95]) (cs:=[(vI x.fz)]) U dJ kJ U U U U (by simp [Value.cells]) U U fun Lo=>?_
 refine rS (CL (dF.eq (ic 0 ((l.ab.length:Int)-1) ([x.fz]) (some ⟨Lo,0,none⟩) 1 sd) cD) (aQ (bq 0 U U (by simp [bU]) U)<|aR) U) ?_
 refine rP 2 [] mn ?_
 refine bP (t:=99) U (aW fun M2=>?_) (aV fun M2=>?_)
 ·refine bx 27 U<|RK L<|aI U<|WS fun _ Do=>rP 2 [] mn ?_
  refine RK Do<|ao ?_
  refine LX hQ (false,51,0,none,0,none,0,[],[],[],none,0,[],[],none,0) [] [] mn U (by first|rfl|(show List.all _ _=true; simp only [cond_true,eH,List.all_nil,ph,q6,Bool.and_true]; rfl)) U U ?_
  refine ⟨yl,fun _=>?_⟩; first|exact EC (eE (r:=r) (me:=0) B) B|exact nv (cM (me:=0) A (fun q:ei l r=>by have p:=q.time; have s:=q.len; omega))|exact nv (cM (me:=0) A (kl hx (by unfold iB je; omega)))|exact nv (g8 (me:=0) A H (by first|rfl|exact h156) (show hG (bW l r)=[] from ig (Int.natCast_eq_zero.1 C)))
 refine rP 2 [] (mc 1 U mn) ?_
 refine eP (xs:=[.tmp 101]) (cs:=[(vI x.Read)]) U dJ kJ U U U U (by simp [Value.cells]) U U fun Lw=>?_
 refine rS (CL (dF.eq (ic 0 86400000 ([x.Read]) (some ⟨Lw,0,none⟩) 1 sd) cD) (aQ (bq 0 U U (by simp [bU]) U)<|aR) U) ?_
 refine rP 3 [] mn ?_
 refine bP (t:=106) U (aW fun A2=>?_) (aV fun A2=>?_)
 ·refine bx 20 U<|RK L<|aI U<|WS fun _ EQ=>rP 2 [] mn ?_
  refine RK EQ<|ao ?_
  refine LX hQ (false,51,0,none,0,none,0,[],[],[],none,0,[],[],none,0) [] [] mn U (by first|rfl|(show List.all _ _=true; simp only [cond_true,eH,List.all_nil,ph,q6,Bool.and_true]; rfl)) U U ?_
  refine ⟨yl,fun _=>?_⟩; first|exact EC (eE (r:=r) (me:=0) B) B|exact nv (cM (me:=0) A (fun q:ei l r=>by have p:=q.time; have s:=q.len; omega))|exact nv (cM (me:=0) A (kl hx (by unfold iB je; omega)))|exact nv (g8 (me:=0) A H (by first|rfl|exact h156) (show hG (bW l r)=[] from ig (Int.natCast_eq_zero.1 C)))
 refine rP 7 [0,1] (mc 2 U (mc 13 U mn)) ?_
 refine bP (t:=113) U (aT fun A3=>?_) (aS fun A3=>?_)
 ·refine bx 13 U<|RK L<|aI U<|WS fun _ Eq=>rP 2 [] mn ?_
  refine RK Eq<|ao ?_
  refine LX hQ (false,51,0,none,0,none,0,[],[],[],none,0,[],[],none,0) [] [] mn U (by first|rfl|(show List.all _ _=true; simp only [cond_true,eH,List.all_nil,ph,q6,Bool.and_true]; rfl)) U U ?_
  refine ⟨yl,fun _=>?_⟩; first|exact EC (eE (r:=r) (me:=0) B) B|exact nv (cM (me:=0) A (fun q:ei l r=>by have p:=q.time; have s:=q.len; omega))|exact nv (cM (me:=0) A (kl hx (by unfold iB je; omega)))|exact nv (g8 (me:=0) A H (by first|rfl|exact h156) (show hG (bW l r)=[] from ig (Int.natCast_eq_zero.1 C)))
 refine rP 6 [0,1] (mc 2 U (mc 13 U mn)) ?_
 refine db (t:=119) U (aS fun A4=>?_) (aT fun A4=>?_)
 ·refine bx 7 U<|RK L<|bT U<|WK g<|ak fun _ j=>WS fun _ Fn=>rP 2 [0,1] (mc 4 U (mc 2 U mn)) ?_
  refine rS (CL (zK l kA kC az cA cC bA bC x hin sd sd) (br [5,6,7,8]) U) ?_
  refine AL U dV fun R2=>fj U cT U<|RK Fn<|WS fun _ GE=>rP 5 [] (mc 0 U mn) ?_
  refine RK GE<|bO U (aS fun F=>?_) (aT fun F=>?_)
  ·refine WK j<|au<|rP 1 [] (mc 3 U mn) ?_
   refine iQ (vs:=(aH.cells x)) (cs':=(aH.cells x)) (C':=[_,_,_,_,_,_,_,_,_,_,_,_,_,_,(cy Y 139 (aH.cells x)),_]) 14 U U U oZ U U U U U U U<|aD<|aK<|KK W ?_
   have J8:(aH.cells x)=(aH.cells (lR r.aa (i+1))):=by rw [j6 hx]
   rw [J8]
   refine au<|rP 2 [] mn ?_
   refine aD ?_
   rw [show (cL l r.aa i)=(cL l r.aa (i+1)) from (pK hx F).symm]
   have J9:(vI (((i+1):Nat):Int))=(vI ((i:Int)+1)):=by exact cI I
   refine bj (V ⟨(i+1),⟨I,ju D hx (by unfold iB je; omega)⟩⟩ _ _ _ U os (cN 9<|a_ U J9<|dh.nil _) (aN [4,5,6,7,8,9,10,11,12,13,14,15]))
  obtain ⟨mb,d⟩:=aF (cL l r.aa i) ((x.fz).toNat) I
  obtain ⟨ga,N⟩:=aF fb ((x.fz).toNat) I
  refine yS 15 d N U U U ?_
  try dsimp only
  refine cW ck 10 kr<|kx 1 U<|dS (SX (cP U U) U U)<|dP 4 [0,1] (mc 14 U (mc 5 U mn)) ?_
  have K0:(List.map oC (dB fb l.ab.length))[(x.fz).toNat]? =some (oC (some ga)):=p_ (mJ N)
  refine dS (IA ((x.fz).toNat) U (aL (n:=l.ab.length) 15 U sq) xX dc I I) ?_
  refine dS (h_ ((x.fz).toNat) 0 (Value.map (some ga)) U bX (aL (n:=(dB fb l.ab.length).length) 15 U sm) K0 U dc U)<|kv 2 [] (mc 2 U mn) U<|cw<|jt (kV:=iV) (x:=(i:Int)) (C':=[(ks iV ga (cR jZ (eD mb (i:Int) (dg l x)))),_,_,_,_,_,_,_,_,_,_,_,_,_,_,_,_]) 0 U U U U rX (iL nX) U (gN _ _ _ _).symm U<|RK j<|au<|rP 1 [] (mc 5 U mn) ?_
  refine iQ (vs:=(aH.cells x)) (cs':=(aH.cells x)) (C':=[_,_,_,_,_,_,_,_,_,_,_,_,_,_,_,_,(cy Y 139 (aH.cells x))]) 16 U U U oZ U U U U U U U<|aD<|aK<|KK W ?_
  have J6:(aH.cells x)=(aH.cells (lR r.aa (i+1))):=by rw [j6 hx]
  rw [J6]
  refine au<|rP 2 [] mn ?_
  refine aD ?_
  refine zE (f:=pU) (ms:=(cL l r.aa i)) (m:=(eD mb (i:Int) (dg l x))) 1 0 (by rw [gT]; omega) N U U U ?_
  rw [rq hx I F d]
  have J7:(vI (((i+1):Nat):Int))=(vI ((i:Int)+1)):=by exact cI I
  refine bj (V ⟨(i+1),⟨I,ju D hx (by unfold iB je; omega)⟩⟩ _ _ _ U os (cN 9<|a_ U J7<|dh.nil _) (aN [5,6,7,8,9,10,11,12,13,14,15,0]))
 refine rP 7 [0,1] (mc 2 U (mc 13 U mn)) ?_
 refine RK L<|cr U (aT fun A5=>?_) (aS fun A5=>?_)
 ·refine WS fun _ FP=>rP 2 [] mn ?_
  refine RK FP<|ao ?_
  refine LX hQ (false,51,0,none,0,none,0,[],[],[],none,0,[],[],none,0) [] [] mn U (by first|rfl|(show List.all _ _=true; simp only [cond_true,eH,List.all_nil,ph,q6,Bool.and_true]; rfl)) U U ?_
  refine ⟨yl,fun _=>?_⟩; first|exact EC (eE (r:=r) (me:=0) B) B|exact nv (cM (me:=0) A (fun q:ei l r=>by have p:=q.time; have s:=q.len; omega))|exact nv (cM (me:=0) A (kl hx (by unfold iB je; omega)))|exact nv (g8 (me:=0) A H (by first|rfl|exact h156) (show hG (bW l r)=[] from ig (Int.natCast_eq_zero.1 C)))
 refine WK g<|ak fun _ h=>WS fun _ FS=>rP 2 [0,1] (mc 4 U (mc 2 U mn)) ?_
 refine rS (CL (zK l kA kC az cA cC bA bC x hin sd sd) (br [5,6,7,8]) U) ?_
 refine AL U dV fun R1=>fj U cT U<|RK FS<|WS fun _ Fd=>rP 5 [] (mc 0 U mn) ?_
 refine RK Fd<|bO U (aS fun F=>?_) (aT fun F=>?_)
 ·refine WK h<|au<|rP 1 [] (mc 3 U mn) ?_
  refine iQ (vs:=(aH.cells x)) (cs':=(aH.cells x)) (C':=[_,_,_,_,_,_,_,_,_,_,_,_,_,_,(cy Y 139 (aH.cells x)),_]) 14 U U U oZ U U U U U U U<|aD<|aK<|KK W ?_
  have J4:(aH.cells x)=(aH.cells (lR r.aa (i+1))):=by rw [j6 hx]
  rw [J4]
  refine au<|rP 2 [] mn ?_
  refine aD ?_
  rw [show (cL l r.aa i)=(cL l r.aa (i+1)) from (pK hx F).symm]
  have J5:(vI (((i+1):Nat):Int))=(vI ((i:Int)+1)):=by exact cI I
  refine bj (V ⟨(i+1),⟨I,ju D hx (by unfold iB je; omega)⟩⟩ _ _ _ U os (cN 9<|a_ U J5<|dh.nil _) (aN [4,5,6,7,8,9,10,11,12,13,14,15]))
 obtain ⟨mb,d⟩:=aF (cL l r.aa i) ((x.fz).toNat) I
 obtain ⟨ga,N⟩:=aF fb ((x.fz).toNat) I
 refine yS 15 d N U U U ?_
 try dsimp only
 refine cW ck 10 kr<|kx 1 U<|dS (SX (cP U U) U U)<|dP 4 [0,1] (mc 14 U (mc 5 U mn)) ?_
 have KV:(List.map oC (dB fb l.ab.length))[(x.fz).toNat]? =some (oC (some ga)):=p_ (mJ N)
 refine dS (IA ((x.fz).toNat) U (aL (n:=l.ab.length) 15 U sq) xX dc I I) ?_
 refine dS (h_ ((x.fz).toNat) 0 (Value.map (some ga)) U bX (aL (n:=(dB fb l.ab.length).length) 15 U sm) KV U dc U)<|kv 2 [] (mc 2 U mn) U<|cw<|jt (kV:=iV) (x:=(i:Int)) (C':=[(ks iV ga (cR jZ (eD mb (i:Int) (dg l x)))),_,_,_,_,_,_,_,_,_,_,_,_,_,_,_,_]) 0 U U U U rX (iL nX) U (gN _ _ _ _).symm U<|RK h<|au<|rP 1 [] (mc 5 U mn) ?_
 refine iQ (vs:=(aH.cells x)) (cs':=(aH.cells x)) (C':=[_,_,_,_,_,_,_,_,_,_,_,_,_,_,_,_,(cy Y 139 (aH.cells x))]) 16 U U U oZ U U U U U U U<|aD<|aK<|KK W ?_
 have J2:(aH.cells x)=(aH.cells (lR r.aa (i+1))):=by rw [j6 hx]
 rw [J2]
 refine au<|rP 2 [] mn ?_
 refine aD ?_
 refine zE (f:=pU) (ms:=(cL l r.aa i)) (m:=(eD mb (i:Int) (dg l x))) 1 0 (by rw [gT]; omega) N U U U ?_
 rw [rq hx I F d]
 have J3:(vI (((i+1):Nat):Int))=(vI ((i:Int)+1)):=by exact cI I
 refine bj (V ⟨(i+1),⟨I,ju D hx (by unfold iB je; omega)⟩⟩ _ _ _ U os (cN 9<|a_ U J3<|dh.nil _) (aN [5,6,7,8,9,10,11,12,13,14,15,0]))
end
section
open Go.RowKit
theorem KX (l:bo) (kA:OA) (kC:Nat) (az:List RA) (cA:OA) (cC:Nat) (bA:OA) (bC:Nat) (r:cx) (sgA:OA) (sgC:Nat) (f:Value) (X:aA) (me:Int) (gm:Nat) (hf:Ef Tryz.prog f [] [X] (.int .i64 me)) (hin:d_ l az) (hsl:r.aa.length≤1000000):
 qf Tryz.prog 144 [(vA (cu.cells (jr l kA kC cA cC bA bC))),(vA (de.cells (im r sgA sgC))),(vS (some ⟨gm,0,none⟩) 1 1)] [(rd kA l.aO.length 9 (l.aO.map aq.cells)),(rd cA l.aj.length 2 (List.zipWith av.cells l.aj az)),(dL (bk av.fu l.aj az)),(rd bA l.ab.length 4 (l.ab.map bL.cells)),(rd sgA r.aa.length 2 (r.aa.map aH.cells)),X,(cy gm 240 [f])] (fun (x:Bool×Int×Nat×(OA)×Nat×(OA)×Nat×(List Nat)×(List FM)×(List Nat)×(OA)×Nat×(List FM)×(List Nat)×(OA)×Nat)=>bif x.1 then (vT [(Value.pointer (some ⟨x.2.2.1,0,none⟩)),(vI 0)]) else (vT [(Value.pointer none),(vI x.2.1)])) (fun (x:Bool×Int×Nat×(OA)×Nat×(OA)×Nat×(List Nat)×(List FM)×(List Nat)×(OA)×Nat×(List FM)×(List Nat)×(OA)×Nat)=>(x.1=true→(dN l r me=0∧vm (bW l r) x.2.2.2.2.2.2.2.2.1∧sB (bW l r) x.2.2.2.2.2.2.2.2.2.2.2.2.1∧x.2.2.2.2.2.2.2.2.2.1.length=x.2.2.2.2.2.2.2.2.1.length∧x.2.2.2.2.2.2.2.2.2.2.2.2.2.1.length=x.2.2.2.2.2.2.2.2.2.2.2.2.1.length∧x.2.2.2.2.2.2.2.1.length=(cL l r.aa r.aa.length).length))∧(x.1=false→(x.2.1=dN l r me∧ ¬ dN l r me=0))) (fun (x:Bool×Int×Nat×(OA)×Nat×(OA)×Nat×(List Nat)×(List FM)×(List Nat)×(OA)×Nat×(List FM)×(List Nat)×(OA)×Nat)=>bif x.1 then [(cy x.2.2.1 273 (cb.cells (cb.mk (jr l kA kC cA cC bA bC) (im r sgA sgC) (bK.mk x.2.2.2.1 ((cq l l.ab.length).length) x.2.2.2.2.1) (bK.mk x.2.2.2.2.2.1 ((cL l r.aa r.aa.length).length) x.2.2.2.2.2.2.1) (bK.mk x.2.2.2.2.2.2.2.2.2.2.1 x.2.2.2.2.2.2.2.2.1.length x.2.2.2.2.2.2.2.2.2.2.2.1) (bK.mk x.2.2.2.2.2.2.2.2.2.2.2.2.2.2.1 x.2.2.2.2.2.2.2.2.2.2.2.2.1.length x.2.2.2.2.2.2.2.2.2.2.2.2.2.2.2)))),(own x.2.2.2.1 x.2.2.2.2.1 3 1 ((cq l l.ab.length).map iC)),(own x.2.2.2.2.2.1 x.2.2.2.2.2.2.1 155 1 (List.zipWith gr (cL l r.aa r.aa.length) x.2.2.2.2.2.2.2.1)),(bS (bk pU (cL l r.aa r.aa.length) x.2.2.2.2.2.2.2.1)),(own x.2.2.2.2.2.2.2.2.2.2.1 x.2.2.2.2.2.2.2.2.2.2.2.1 276 1 (List.zipWith gr x.2.2.2.2.2.2.2.2.1 x.2.2.2.2.2.2.2.2.2.1)),(bS (bk mU x.2.2.2.2.2.2.2.2.1 x.2.2.2.2.2.2.2.2.2.1)),(own x.2.2.2.2.2.2.2.2.2.2.2.2.2.2.1 x.2.2.2.2.2.2.2.2.2.2.2.2.2.2.2 276 1 (List.zipWith gr x.2.2.2.2.2.2.2.2.2.2.2.2.1 x.2.2.2.2.2.2.2.2.2.2.2.2.2.1)),(bS (bk mU x.2.2.2.2.2.2.2.2.2.2.2.2.1 x.2.2.2.2.2.2.2.2.2.2.2.2.2.1))] else []):=by
 have TV:=hin.qm
 have S1:=hin.qj
 have SZ:=hin.mq
 have Sz:=hin.qi
 have S2:=hin.side
 refine fJ kr Tryz.func144 U U fun w0 Q hQ hN=>?_
 try dsimp only
 refine WS fun _ Op=>ed U fun b2=>ed U fun b3=>bx 2 U<|RK Op<|ak fun _ Or=>WS fun _ Os=>er 1 [] (mc 1 U mn) U<|rS (CL (xr l kA kC az cA cC bA bC hin) (br [2,3,4,5]) U)<|bx 1 U<|RK Os<|WS fun _ PP=>rP 2 [] mn ?_
 refine RK PP<|cr U (aW fun h=>?_) (aV fun h=>?_)
 ·refine WS fun _ Pi=>rP 3 [] mn ?_
  refine RK Pi<|ao<|LX hQ (false,(dM l),0,none,0,none,0,[],[],[],none,0,[],[],none,0) [] [] mn U (by rfl) U U ?_
  exact vO<|EC (eE (r:=r) (me:=me) h) h
 refine WK Or<|ak fun _ Pl=>WS fun _ AO=>?_
 have C:dM l=0:=h
 obtain ⟨Lw,d⟩:=dK C
 have Pw:=d.head
 unfold eT at Pw
 refine rP 2 [] (mc 0 U mn) ?_
 refine eP (xs:=[.tmp 24]) (cs:=[(vI r.Start)]) U dJ kJ U U U U (by simp [Value.cells]) U U fun M2=>?_
 refine rS (CL (dF.eq (ic 0 86400000 ([r.Start]) (some ⟨M2,0,none⟩) 1 (by (simp; done))) cD) (aQ (bq 0 U U (by simp [bU]) U)<|aR) U) ?_
 refine rP 2 [] mn ?_
 refine bP (t:=28) U (aW fun N7=>?_) (aV fun N7=>?_)
 ·refine bx 14 U<|RK AO<|aI U<|WS fun _ A8=>rP 2 [] mn ?_
  refine RK A8<|ao<|LX hQ (false,51,0,none,0,none,0,[],[],[],none,0,[],[],none,0) [] [] mn U (by rfl) U U ?_
  exact vO<|nv (cM (me:=me) C (fun q:ei l r=>by have q1:=q.time; have q2:=q.len; omega))
 refine rP 4 [] (mc 1 U mn) ?_
 refine eP (xs:=[.tmp 32]) (cs:=[(vI r.fP)]) U dJ kJ U U U U (by simp [Value.cells]) U U fun M3=>?_
 refine rS (CL (dF.eq (ic r.Start 86400000 ([r.fP]) (some ⟨M3,0,none⟩) 1 (by (simp; done))) cD) (aQ (bq 0 U U (by simp [bU]) U)<|aR) U) ?_
 refine rP 3 [] mn ?_
 refine bP (t:=37) U (aW fun OF=>?_) (aV fun OF=>?_)
 ·refine bx 5 U<|RK AO<|aI U<|WS fun _ A9=>rP 2 [] mn ?_
  refine RK A9<|ao<|LX hQ (false,51,0,none,0,none,0,[],[],[],none,0,[],[],none,0) [] [] mn U (by rfl) U U ?_
  exact vO<|nv (cM (me:=me) C (fun q:ei l r=>by have q1:=q.time; have q2:=q.len; omega))
 refine rP 5 [] (mc 2 U mn) ?_
 refine RK AO<|cr U (aT fun OG=>?_) (aS fun OG=>?_)
 ·refine WS fun _ Bv=>rP 2 [] mn ?_
  refine RK Bv<|ao<|LX hQ (false,51,0,none,0,none,0,[],[],[],none,0,[],[],none,0) [] [] mn U (by rfl) U U ?_
  exact vO<|nv (cM (me:=me) C (fun q:ei l r=>by have q1:=q.time; have q2:=q.len; omega))
 refine WK Pl<|WS fun _ B3=>rS (SX (bG (xs:=[(0,.const (vI (-1)))]) (cs:=(aH.cells (aH.mk (-1) 0))) U U (bH Mo U)) U U)<|AL U Bo fun V=>fj U oZ U<|RK B3<|ak fun _ B9=>dx ck [5,6,7,8] [] [] [0,1,2,3,4,5,6,7,8,9,10,11] [] U U U U U<|eS U (LW 4 U bX U U)<|eS U (LW 3 U bX U U)<|eS U (FA 3 U eV U)<|eS U (L1 (vS bA l.ab.length bC) 4 U bX U U)<|eS U (LN U Od)<|eo U<|cd U fun T18 Ji=>?_
 refine s8 (n:=l.ab.length) (es:=(List.map oC (List.replicate l.ab.length (none:Option Nat)))) U U U MJ I I (by simp only [maxLen]; omega) (by rw [List.map_replicate]; rfl) U fun B=>?_
 try dsimp only
 refine aD (Ji _ _ (aN [1,2,3,4,5,6,7,8,9,10,11,12]) ?_)
 refine cd U fun T20 Jr=>rS (SX (bG (xs:=[(0,.tmp 44),(1,.tmp 45),(3,.tmp 49)]) (cs:=(cb.cells (cb.mk (jr l kA kC cA cC bA bC) (im r sgA sgC) (bK.mk none 0 0) (bK.mk (some ⟨B,0,none⟩) l.ab.length l.ab.length) (bK.mk none 0 0) (bK.mk none 0 0)))) U U (bH MP U)) U U)<|aD (Jr _ _ (aN [1,2,3,4,5,6,7,8,9,10,11,12]) ?_)
 refine cd U fun T21 J2=>ed U fun AB=>aD (J2 _ _ (aN [2,3,4,5,6,7,8,9,10,11,12,13]) ?_)
 refine cd U fun T23 J3=>rS (AG U)<|aD (J3 _ _ (aN [2,3,4,5,6,7,8,9,10,11,12,13]) ?_)
 refine fh U<|KK B9<|ak fun _ Ci=>WS fun _ Ck=>rP 4 [] (mc 6 U mn) ?_
 refine RK Ck<|aC ?_
 rw [uB]
 refine fR 3 1<|mP ?_
 have E:(0≤l.ab.length)∧(([]:List Nat).length=0):=by exact ⟨Nat.zero_le _,rfl⟩
 refine bQ (ι:={z:Nat×(OA)×Nat×(List Nat) // (z.1≤l.ab.length)∧(z.2.2.2.length=z.1)}) [2,3,4,6,7,9,10,54] [4,7,8,9,10,11,12,13,14,15] U U (fun z=>[(55,(vI (z.1.1:Int)))]) (fun z=>[(bS (bk pU (List.replicate z.1.1 ([]:TM)) z.1.2.2.2)),(own z.1.2.1 z.1.2.2.1 3 1 ((cq l z.1.1).map iC)),(cy AB 273 (cb.cells (cb.mk (jr l kA kC cA cC bA bC) (im r sgA sgC) (bK.mk z.1.2.1 ((cq l z.1.1).length) z.1.2.2.1) (bK.mk (some ⟨B,0,none⟩) l.ab.length l.ab.length) (bK.mk none 0 0) (bK.mk none 0 0)))),(own (some ⟨B,0,none⟩) l.ab.length 155 1 (List.map oC (dB z.1.2.2.2 l.ab.length)))]) (fun _=>rfl) (fun _=>rfl) (fun z=>l.ab.length-z.1.1) ⟨(0,none,0,([]:List Nat)),E⟩ (bu U) (aN [4,7,8,9,10,11,12,13,14,15,0,1,2,3]) ?_
 clear E
 rintro ⟨⟨b,a,c,fb⟩,⟨A0,Y⟩⟩ J26 A7
 try dsimp only at A0 Y
 try dsimp only
 have QI:(dB fb l.ab.length).length=l.ab.length:=ng I
 refine WS fun _ Cp=>rP 1 [] mn ?_
 refine RK Cp<|ak fun _ Cx=>cr U (aT fun OB=>?_) (aS fun OB=>?_)
 ·refine WK Cx<|ak fun _ C0=>aC<|WS fun _ C1=>rP 2 [] mn ?_
  refine RK C1<|ak fun _ C2=>dx ck [12,13,16] [4] [0] [0,1,2,3,4,5,6,7,8,9,10,13] [0,1,2,3,4,5,6,7,8,9,10,11,12,13] U U U U U<|eS U (MV U)<|eS U (MV U)<|eS U (SX (cP U U) U U)<|eS U (FA 10 U eV U)<|fS U (L1 (vS a ((cq l b).length) c) 12 U bX U U)<|eS U (LW 2 U bX U U)<|eS U (MV U)<|eS U (CL (G5 l kA kC az cA cC bA bC (b:Int) hin asm (by exact d.ti) I) (br [3,4,5,6]) U) ?_
  have Ti:=B2 Lw d.ti b
  have Tj:=d.Oa b I
  simp only [Int.toNat_natCast]
  refine eS U (BI U (wo ⟨I,I⟩))<|eS U (FA 1 U eV U)<|eS U (L1 (vI l.ib) 2 U bX U U) ?_
  refine eS U (CL (G1 (1000*(mo l (b:Int).toNat)) l.ib I (by (simp; omega))) (aR) U) ?_
  refine eS U (SX (cP U U) U U)<|eS U (FA 10 U eV U)<|eo U<|jJ U fun T33 J4=>eP (xs:=[.tmp 69]) (cs:=[(vI (oM (1000*(mo l (b:Int).toNat)) l.ib))]) U dJ kJ U U U U (by simp [Value.cells]) U U fun R9=>aD (J4 _ _ (aN [1,2,3,4,5,6,7,8,9,10,11,14]) (aN [1,2,3,4,5,6,7,8,9,10,11,12,13,14]) ?_)
  refine cd U fun T35 J5=>?_
  refine dA (es2:=(List.map iC (cq l (b+1)))) (m':=(cq l (b+1)).length) 12 U U U qz U U (by simp [cS]) (bq (es:=List.map iC [(oM (1000*(mo l (b:Int).toNat)) l.ib)]) 0 U U (by simp [bU]) U) (kG _) (by have:=cS (l:=l) (n:=b); first|omega|(simp; omega)) (by simp only [maxLen,cS]; omega) (by rw [qK]; simp [ej]) (by simp [cS]) U fun e g=>?_
  try dsimp only
  refine aD (J5 _ _ (aN [1,2,3,4,5,6,7,8,9,10,11,14]) ?_)
  refine cd U fun T38 J6=>iQ (vs:=[(vS e ((cq l (b+1)).length) g)]) (cs':=(cb.cells (cb.mk (jr l kA kC cA cC bA bC) (im r sgA sgC) (bK.mk e ((cq l (b+1)).length) g) (bK.mk (some ⟨B,0,none⟩) l.ab.length l.ab.length) (bK.mk none 0 0) (bK.mk none 0 0)))) (C':=[_,_,_,_,_,_,_,_,_,_,_,_,_,(cy AB 273 (cb.cells (cb.mk (jr l kA kC cA cC bA bC) (im r sgA sgC) (bK.mk e ((cq l (b+1)).length) g) (bK.mk (some ⟨B,0,none⟩) l.ab.length l.ab.length) (bK.mk none 0 0) (bK.mk none 0 0)))),_]) 13 U U U F3 U U U U U U U<|aD (J6 _ _ (aN [1,2,3,4,5,6,7,8,9,10,11,14]) ?_)
  refine fh U<|KK C2<|au<|bx 1 U<|rS (SX (cP U U) U U)<|rP 3 [] (mc 13 U mn) ?_
  refine mH (kV:=iV) U U fun J=>?_
  try dsimp only
  obtain ⟨R1,L2⟩:=aF (dB fb l.ab.length) b I
  have hx41m:(List.map oC (dB fb l.ab.length))[b]? =some (oC R1):=by rw [fK,L2]; rfl
  refine rS (IA b U (aL (n:=l.ab.length) 15 U sq) xX dc I I) ?_
  have J7:((dB fb l.ab.length).set b (some J))=(dB (fb++[J]) l.ab.length):=by exact rp I I
  refine gp (k:=b) (o:=0) (vs:=[(Value.map (some J))]) (es':=(List.map oC (dB (fb++[J]) l.ab.length))) (C':=[_,_,_,_,_,_,_,_,_,_,_,_,_,_,_,(own (some ⟨B,0,none⟩) l.ab.length 155 1 (List.map oC (dB (fb++[J]) l.ab.length)))]) 15 U U U EY U U U U hx41m U dc (by exact (List.map_set (f:=oC) (l:=(dB fb l.ab.length)) (i:=b) (a:=(some J))).symm.trans (congrArg _ J7)) U<|aD<|aK<|KK C0<|au<|rP 2 [] mn ?_
  refine aD<|wV (X':=bk pU (List.replicate (b+1) ([]:TM)) (fb++[J])) 12 0 U U (EW Y) ?_
  try dsimp only
  have J8:(vI (((b+1):Nat):Int))=(vI ((b:Int)+1)):=by exact cI I
  refine bj (A7 ⟨((b+1),e,g,(fb++[J])),⟨I,by simp; omega⟩⟩ _ _ _ U os (cN 8<|a_ U J8<|dh.nil _) (aN [2,3,4,5,6,7,8,9,10,11,0,12,13,14]))
 refine bM<|ag<|ag<|aG<|KK Ci<|ak fun _ C3=>WS fun _ DE=>rP 4 [] (mc 1 U mn) ?_
 refine RK DE<|aC ?_
 rw [show (List.replicate b ([]:TM))=cL l r.aa 0 from by rw [x9,show b=l.ab.length by omega]]
 rw [show cq l b=cq l l.ab.length from by rw [show b=l.ab.length by omega]]
 have E:(0≤r.aa.length)∧(oB l r.aa 0):=by exact ⟨Nat.zero_le _,uS⟩
 refine bQ (ι:={z:Nat // (z≤r.aa.length)∧(oB l r.aa z)}) [2,3,4,6,7,9,10,83,84] [1,2,3,4,5,6,7,8,9,11,12,13] U U (fun z=>[(85,(vI (z.1:Int)))]) (fun z=>[(cy V 139 (aH.cells (lR r.aa z.1))),(bS (bk pU (cL l r.aa z.1) fb))]) (fun _=>rfl) (fun _=>rfl) (fun z=>r.aa.length-z.1) ⟨0,E⟩ (bu U) (aN [1,2,3,4,5,6,7,8,9,11,12,13,0,10]) ?_
 clear E
 rintro ⟨i,⟨M0,A⟩⟩ J46 T
 try dsimp only
 have Qr:(cL l r.aa i).length=l.ab.length:=gT
 have QI:(dB fb l.ab.length).length=l.ab.length:=ng I
 refine WS fun _ DW=>rP 1 [] mn ?_
 refine RK DW<|ak fun _ Di=>bO U (aS fun OQ=>?_) (aT fun OQ=>?_)
 ·refine bM<|ag<|ag<|aG<|KK C3<|ak fun _ GY=>ak fun _ Go=>?_
  have j:ei l r:=xM I I A I
  refine au<|bx 3 U<|RK Go<|aC<|qB 2<|kT fun R81 Jb=>WS fun _ HY=>rS (SX (eK (r:= .bool true) U U U p9) U U)<|RK HY<|ak fun _ Hi=>aI U<|WK Hi<|ak fun _ Ho=>aC<|WS fun _ H1=>rS (Ub 0 0 U Mk U dc U)<|er 2 [] (mr 8 U mn) U<|RK H1<|WS fun _ IO=>bx 1 U<|rS (SX (qO U U U (hf) (br [7])) U U)<|bx 1 U<|RK IO<|WS fun _ IR=>rP 2 [] mn ?_
  refine RK IR<|cr U (aW fun K=>?_) (aV fun K=>?_)
  ·refine WS fun _ Id=>rP 3 [] mn ?_
   refine RK Id<|ao<|LX hQ (false,me,0,none,0,none,0,[],[],[],none,0,[],[],none,0) [] [] mn U (by rfl) U U ?_
   exact vO<|EC (jC C j K) K
  refine cp<|aK<|KK Ho<|au<|rS (SX (eK (r:= .int .i64 1) U U U (n9 ⟨dc,dc⟩)) U U)<|rP 1 [] mn ?_
  refine RK Jb<|kT fun R89 R5=>WS fun _ If=>rS (SX (eK (r:= .bool false) U U U p9) U U)<|RK If<|ak fun _ R4=>bT U<|bM<|ag<|ag<|aG<|KK GY<|ak fun _ In=>?_
  rw [show cL l r.aa i=cL l r.aa r.aa.length from by rw [show i=r.aa.length by omega]]
  have A2:(cL l r.aa r.aa.length).length=l.ab.length:=gT
  rw [show (List.map oC (dB fb l.ab.length))=(List.zipWith gr (cL l r.aa r.aa.length) fb) from PX I A2]
  rw [show (cy AB 273 (cb.cells (cb.mk (jr l kA kC cA cC bA bC) (im r sgA sgC) (bK.mk a ((cq l l.ab.length).length) c) (bK.mk (some ⟨B,0,none⟩) l.ab.length l.ab.length) (bK.mk none 0 0) (bK.mk none 0 0))))=(cy AB 273 (cb.cells (cb.mk (jr l kA kC cA cC bA bC) (im r sgA sgC) (bK.mk a ((cq l l.ab.length).length) c) (bK.mk (some ⟨B,0,none⟩) ((cL l r.aa r.aa.length).length) l.ab.length) (bK.mk none 0 0) (bK.mk none 0 0)))) from by rw [A2]]
  have L0:=lL Lw d j
  have R6:(cq l l.ab.length).length=l.ab.length:=cS
  refine au<|rP 1 [] mn ?_
  refine ob 10 U U U U (BT (jr l kA kC cA cC bA bC) (im r sgA sgC) (cq l l.ab.length) (cL l r.aa r.aa.length) a c fb (some ⟨B,0,none⟩) l.ab.length AB (by exact L0) (by exact cS.symm) (by rw [A2]; omega)) U (ep 9 U U (jx sm) (ep 11 U U (jx (by rw [List.length_zipWith]; omega)) (ep 13 U U qL qZ))) U (fun L3 Pt=>?_)
  obtain ⟨G,S,P,R,F,O,N,H⟩:=L3
  refine EF (X:=[(cy AB 273 (cb.cells (cb.mk (jr l kA kC cA cC bA bC) (im r sgA sgC) (bK.mk a ((cq l l.ab.length).length) c) (bK.mk (some ⟨B,0,none⟩) ((cL l r.aa r.aa.length).length) l.ab.length) (bK.mk P G.length R) (bK.mk N F.length H)))),(own P R 276 1 (List.zipWith gr G S)),(bS (bk mU G S)),(own N H 276 1 (List.zipWith gr F O)),(bS (bk mU F O))]) 10 U U ?_
  try dsimp only
  obtain ⟨A1,Li,Lk,Lo⟩:=Pt
  dsimp only at A1 Li Lk Lo
  refine RK In<|ak fun _ v=>WS fun _ w=>rP 1 [] mn ?_
  refine cX (uP (jr l kA kC cA cC bA bC) (im r sgA sgC) (cq l l.ab.length) (cL l r.aa r.aa.length) a c fb (some ⟨B,0,none⟩) l.ab.length G F S P R O N H AB (by exact L0) (by (simp; omega)) (by exact cS.symm) (by exact A1) asm) (aQ (aL (n:=(cq l l.ab.length).length) 14 U sm)<|aQ (aL (n:=(cL l r.aa r.aa.length).length) 15 U (by rw [List.length_zipWith]; omega))<|aQ (gM 17 U lB)<|aQ (aL (n:=G.length) 1 U (by rw [List.length_zipWith]; omega))<|aQ (gM 2 U lB)<|aQ (aL (n:=F.length) 3 U (by rw [List.length_zipWith]; omega))<|aQ (gM 4 U lB)<|gu 0 U U<|aR) U fun Ms R0=>?_
  obtain ⟨R2,R3⟩:=Ms
  try dsimp only
  refine rP 2 [] mn ?_
  refine RK w<|bO U (aS fun W=>?_) (aT fun W=>?_)
  ·refine WK v<|WS fun _ AC=>rP 3 [] mn ?_
   refine RK AC<|ao ?_
   refine LX hQ (true,0,AB,a,c,(some ⟨B,0,none⟩),l.ab.length,fb,G,S,P,R,F,O,N,H) [1,15,16,18,2,3,4,5] [] mn U (by (show List.all _ _=true; simp only [cond_true,eH,List.all_nil,ph,q6,Bool.and_true]; rfl)) U U ?_
   exact ⟨fun _=>⟨mh C j (by first|rfl|exact K) (fun q=>W (congrArg (fun z:List Int=>(z.length:Int)) q)),A1,Li,Lk,Lo,dso⟩,OZ⟩
  refine WS fun _ y=>rP 2 [] mn ?_
  refine RK y<|ao<|LX hQ (false,8,0,none,0,none,0,[],[],[],none,0,[],[],none,0) [] [] mn U (by rfl) U U ?_
  exact vO<|nv (g8 (me:=me) C j (by first|rfl|exact K) (show hG (bW l r)=[] from ig (Int.natCast_eq_zero.1 W)))
 refine WK Di<|ak fun _ AA=>aC<|WS fun _ Do=>rP 1 [] mn ?_
 obtain ⟨x,hx⟩:=aF r.aa i I
 have RT:=bJ aH.cells hx
 refine rS (IA i U (ax 6 U) xp dc I I)<|rS (jL i 0 (aH.cells x) U bX (ax 6 U) RT U dc U U)<|AL U Bo fun SA=>bx 1 U<|fj U oZ U<|RK Do<|ak fun _ p=>WS fun _ L=>rP 6 [0,1] (mc 2 U (mc 0 U mn)) ?_
 refine eP (xs:=[.tmp 95]) (cs:=[(vI x.fz)]) U dJ kJ U U U U (by simp [Value.cells]) U U fun NE=>?_
 refine rS (CL (dF.eq (ic 0 ((l.ab.length:Int)-1) ([x.fz]) (some ⟨NE,0,none⟩) 1 (by (simp; done))) cD) (aQ (bq 0 U U (by simp [bU]) U)<|aR) U) ?_
 refine rP 2 [] mn ?_
 refine bP (t:=99) U (aW fun OT=>?_) (aV fun OT=>?_)
 ·refine bx 27 U<|RK L<|aI U<|WS fun _ EQ=>rP 2 [] mn ?_
  refine RK EQ<|ao<|LX hQ (false,51,0,none,0,none,0,[],[],[],none,0,[],[],none,0) [] [] mn U (by rfl) U U ?_
  exact vO<|nv (cM (me:=me) C (kl hx (by unfold iB je; omega)))
 refine rP 2 [] (mc 1 U mn) ?_
 refine eP (xs:=[.tmp 101]) (cs:=[(vI x.Read)]) U dJ kJ U U U U (by simp [Value.cells]) U U fun Ne=>?_
 refine rS (CL (dF.eq (ic 0 86400000 ([x.Read]) (some ⟨Ne,0,none⟩) 1 (by (simp; done))) cD) (aQ (bq 0 U U (by simp [bU]) U)<|aR) U) ?_
 refine rP 3 [] mn ?_
 refine bP (t:=106) U (aW fun A3=>?_) (aV fun A3=>?_)
 ·refine bx 20 U<|RK L<|aI U<|WS fun _ Eq=>rP 2 [] mn ?_
  refine RK Eq<|ao<|LX hQ (false,51,0,none,0,none,0,[],[],[],none,0,[],[],none,0) [] [] mn U (by rfl) U U ?_
  exact vO<|nv (cM (me:=me) C (kl hx (by unfold iB je; omega)))
 refine rP 7 [0,1] (mc 2 U (mc 15 U mn)) ?_
 refine bP (t:=113) U (aT fun A4=>?_) (aS fun A4=>?_)
 ·refine bx 13 U<|RK L<|aI U<|WS fun _ FP=>rP 2 [] mn ?_
  refine RK FP<|ao<|LX hQ (false,51,0,none,0,none,0,[],[],[],none,0,[],[],none,0) [] [] mn U (by rfl) U U ?_
  exact vO<|nv (cM (me:=me) C (kl hx (by unfold iB je; omega)))
 refine rP 6 [0,1] (mc 2 U (mc 15 U mn)) ?_
 refine db (t:=119) U (aS fun A5=>?_) (aT fun A5=>?_)
 ·refine bx 7 U<|RK L<|bT U<|WK p<|ak fun _ u=>WS fun _ GE=>er 2 [0,1] (mc 4 U (mc 2 U mn)) U<|rS (CL (zK l kA kC az cA cC bA bC x hin asm I) (br [5,6,7,8]) U)<|AL U dV fun ST=>fj U cT U<|RK GE<|WS fun _ GT=>rP 5 [] (mc 0 U mn) ?_
  refine RK GT<|bO U (aS fun D=>?_) (aT fun D=>?_)
  ·refine WK u<|au<|rP 1 [] (mc 3 U mn) ?_
   refine iQ (vs:=(aH.cells x)) (cs':=(aH.cells x)) (C':=[_,_,_,_,_,_,_,_,_,_,_,_,_,_,_,_,(cy V 139 (aH.cells x)),_]) 16 U U U oZ U U U U U U U<|aD<|aK<|KK AA ?_
   have LA:(aH.cells x)=(aH.cells (lR r.aa (i+1))):=by rw [j6 hx]
   rw [LA]
   refine au<|rP 2 [] mn ?_
   refine aD ?_
   rw [show (cL l r.aa i)=(cL l r.aa (i+1)) from (pK hx D).symm]
   have LE:(vI (((i+1):Nat):Int))=(vI ((i:Int)+1)):=by exact cI I
   refine bj (T ⟨(i+1),⟨I,ju A hx (by unfold iB je; omega)⟩⟩ _ _ _ U os (cN 9<|a_ U LE<|dh.nil _) (aN [4,5,6,7,8,9,10,11,12,13,14,15,16,17]))
  obtain ⟨mb,Z⟩:=aF (cL l r.aa i) ((x.fz).toNat) I
  obtain ⟨ga,M⟩:=aF fb ((x.fz).toNat) I
  refine yS 17 Z M U U U ?_
  try dsimp only
  refine cW ck 10 kr<|kx 1 U<|dS (SX (cP U U) U U)<|dP 4 [0,1] (mc 16 U (mc 5 U mn)) ?_
  have La:(List.map oC (dB fb l.ab.length))[(x.fz).toNat]? =some (oC (some ga)):=p_ (mJ M)
  refine dS (IA ((x.fz).toNat) U (aL (n:=l.ab.length) 17 U sq) xX dc I I) ?_
  refine dS (h_ ((x.fz).toNat) 0 (Value.map (some ga)) U bX (aL (n:=(dB fb l.ab.length).length) 17 U sm) La U dc U)<|kv 2 [] (mc 2 U mn) U<|cw<|jt (kV:=iV) (x:=(i:Int)) (C':=[(ks iV ga (cR jZ (eD mb (i:Int) (dg l x)))),_,_,_,_,_,_,_,_,_,_,_,_,_,_,_,_,_,_]) 0 U U U U rX (iL nX) U (gN _ _ _ _).symm U<|RK u<|au<|rP 1 [] (mc 5 U mn) ?_
  refine iQ (vs:=(aH.cells x)) (cs':=(aH.cells x)) (C':=[_,_,_,_,_,_,_,_,_,_,_,_,_,_,_,_,_,_,(cy V 139 (aH.cells x))]) 18 U U U oZ U U U U U U U<|aD<|aK<|KK AA ?_
  have K5:(aH.cells x)=(aH.cells (lR r.aa (i+1))):=by rw [j6 hx]
  rw [K5]
  refine au<|rP 2 [] mn ?_
  refine aD ?_
  refine zE (f:=pU) (ms:=(cL l r.aa i)) (m:=(eD mb (i:Int) (dg l x))) 1 0 (by rw [gT]; omega) M U U U ?_
  rw [rq hx I D Z]
  have K8:(vI (((i+1):Nat):Int))=(vI ((i:Int)+1)):=by exact cI I
  refine bj (T ⟨(i+1),⟨I,ju A hx (by unfold iB je; omega)⟩⟩ _ _ _ U os (cN 9<|a_ U K8<|dh.nil _) (aN [5,6,7,8,9,10,11,12,13,14,15,16,17,0]))
 refine rP 7 [0,1] (mc 2 U (mc 15 U mn)) ?_
 refine RK L<|cr U (aT fun A6=>?_) (aS fun A6=>?_)
 ·refine WS fun _ FS=>rP 2 [] mn ?_
  refine RK FS<|ao<|LX hQ (false,51,0,none,0,none,0,[],[],[],none,0,[],[],none,0) [] [] mn U (by rfl) U U ?_
  exact vO<|nv (cM (me:=me) C (kl hx (by unfold iB je; omega)))
 refine WK p<|ak fun _ s=>WS fun _ Fd=>er 2 [0,1] (mc 4 U (mc 2 U mn)) U<|rS (CL (zK l kA kC az cA cC bA bC x hin asm I) (br [5,6,7,8]) U)<|AL U dV fun SK=>fj U cT U<|RK Fd<|WS fun _ Fn=>rP 5 [] (mc 0 U mn) ?_
 refine RK Fn<|bO U (aS fun D=>?_) (aT fun D=>?_)
 ·refine WK s<|au<|rP 1 [] (mc 3 U mn) ?_
  refine iQ (vs:=(aH.cells x)) (cs':=(aH.cells x)) (C':=[_,_,_,_,_,_,_,_,_,_,_,_,_,_,_,_,(cy V 139 (aH.cells x)),_]) 16 U U U oZ U U U U U U U<|aD<|aK<|KK AA ?_
  have K0:(aH.cells x)=(aH.cells (lR r.aa (i+1))):=by rw [j6 hx]
  rw [K0]
  refine au<|rP 2 [] mn ?_
  refine aD ?_
  rw [show (cL l r.aa i)=(cL l r.aa (i+1)) from (pK hx D).symm]
  have K4:(vI (((i+1):Nat):Int))=(vI ((i:Int)+1)):=by exact cI I
  refine bj (T ⟨(i+1),⟨I,ju A hx (by unfold iB je; omega)⟩⟩ _ _ _ U os (cN 9<|a_ U K4<|dh.nil _) (aN [4,5,6,7,8,9,10,11,12,13,14,15,16,17]))
 obtain ⟨mb,Z⟩:=aF (cL l r.aa i) ((x.fz).toNat) I
 obtain ⟨ga,M⟩:=aF fb ((x.fz).toNat) I
 refine yS 17 Z M U U U ?_
 try dsimp only
 refine cW ck 10 kr<|kx 1 U<|dS (SX (cP U U) U U)<|dP 4 [0,1] (mc 16 U (mc 5 U mn)) ?_
 have LT:(List.map oC (dB fb l.ab.length))[(x.fz).toNat]? =some (oC (some ga)):=p_ (mJ M)
 refine dS (IA ((x.fz).toNat) U (aL (n:=l.ab.length) 17 U sq) xX dc I I) ?_
 refine dS (h_ ((x.fz).toNat) 0 (Value.map (some ga)) U bX (aL (n:=(dB fb l.ab.length).length) 17 U sm) LT U dc U)<|kv 2 [] (mc 2 U mn) U<|cw<|jt (kV:=iV) (x:=(i:Int)) (C':=[(ks iV ga (cR jZ (eD mb (i:Int) (dg l x)))),_,_,_,_,_,_,_,_,_,_,_,_,_,_,_,_,_,_]) 0 U U U U rX (iL nX) U (gN _ _ _ _).symm U<|RK s<|au<|rP 1 [] (mc 5 U mn) ?_
 refine iQ (vs:=(aH.cells x)) (cs':=(aH.cells x)) (C':=[_,_,_,_,_,_,_,_,_,_,_,_,_,_,_,_,_,_,(cy V 139 (aH.cells x))]) 18 U U U oZ U U U U U U U<|aD<|aK<|KK AA ?_
 have J9:(aH.cells x)=(aH.cells (lR r.aa (i+1))):=by rw [j6 hx]
 rw [J9]
 refine au<|rP 2 [] mn ?_
 refine aD ?_
 refine zE (f:=pU) (ms:=(cL l r.aa i)) (m:=(eD mb (i:Int) (dg l x))) 1 0 (by rw [gT]; omega) M U U U ?_
 rw [rq hx I D Z]
 have KV:(vI (((i+1):Nat):Int))=(vI ((i:Int)+1)):=by exact cI I
 refine bj (T ⟨(i+1),⟨I,ju A hx (by unfold iB je; omega)⟩⟩ _ _ _ U os (cN 9<|a_ U KV<|dh.nil _) (aN [5,6,7,8,9,10,11,12,13,14,15,16,17,0]))
end
section
open Go.RowKit
theorem Ah (l:bo) (kA:OA) (kC:Nat) (az:List RA) (cA:OA) (cC:Nat) (bA:OA) (bC:Nat) (r:cx) (sgA:OA) (sgC:Nat) (bq_:Int) (hin:d_ l az) (hsl:r.aa.length≤1000000):
 dF Tryz.prog 125 [(vA (cu.cells (jr l kA kC cA cC bA bC))),(vA (de.cells (im r sgA sgC))),(vI bq_)] [(rd kA l.aO.length 9 (l.aO.map aq.cells)),(rd cA l.aj.length 2 (List.zipWith av.cells l.aj az)),(dL (bk av.fu l.aj az)),(rd bA l.ab.length 4 (l.ab.map bL.cells)),(rd sgA r.aa.length 2 (r.aa.map aH.cells))] (vT [(vA (ai.cells (dy l r bq_))),(vI (eh l r bq_))]):=by
 have J7:=hin.qm
 have Ji:=hin.qj
 have IR:=hin.mq
 have In:=hin.qi
 have J5:=hin.side
 refine bE kr Tryz.func125 U U fun w0 Q hQ hN=>?_
 try dsimp only
 refine WS fun _ A3=>ed U fun b2=>ed U fun b3=>xJ U U fun b4=>AL U dV fun b5=>bx 1 U<|RK A3<|WS fun _ p=>rP 2 [0,1] (mc 3 U (mc 2 U mn)) ?_
 refine rS (FU U)<|eP (xs:=[.tmp 17]) (cs:=[(Value.func (.func 145) [].toArray [(vP b2),(vP b4)].toArray)]) U Mk Qy U U U U (by simp [Value.cells]) U U fun b7=>cX (KX l kA kC az cA cC bA bC r sgA sgC (Value.func (.func 145) [].toArray [(vP b2),(vP b4)].toArray) (dL [(rd kA l.aO.length 9 (l.aO.map aq.cells)),(rd cA l.aj.length 2 (List.zipWith av.cells l.aj az)),(dL (bk av.fu l.aj az)),(rd bA l.ab.length 4 (l.ab.map bL.cells)),(cy b2 28 (cu.cells (jr l kA kC cA cC bA bC))),(cy b4 3 [(vI bq_)])]) (e_ l bq_) b7 (by exact mN (fi:=[]) (ca:=[(vP b2),(vP b4)]) (lD (DK l kA kC az cA cC bA bC b2 bq_ b4 (by first|assumption|omega)) (br [0,1,2,3,4,5]))) hin hsl) (lW [5,6,7,8,9]<|aQ (lH (br [5,6,7,8,4,2]))<|gu 0 U U<|aR) U fun y8 C2=>?_
 obtain ⟨C3,Go,E,H,AB,g,j,m,B,L,J,K,A,G,d,f⟩:=y8
 cases C3
 ·obtain ⟨Cp,he⟩:=C2.2 rfl
  try dsimp only at Cp he
  subst Cp
  try dsimp only [cond_true,cond_false,List.cons_append,List.nil_append]
  refine bx 5 U<|RK p<|ak fun _ HY=>WS fun _ B3=>rP 2 [] mn ?_
  refine RK B3<|bO U (aV fun Bv=>?_) (aW fun Bv=>?_)
  ·exact absurd Bv he
  refine WS fun _ B9=>rS (SX (bG (xs:=[]) (cs:=(ai.cells (ai.mk 0 0))) U U (bH gU U)) U U)<|bx 1 U<|pZ U cT U<|rP 1 [] mn ?_
  refine RK B9<|ao<|lS hQ [0] (mc 1 U mn) U ?_
  (have e:=dE (b:=bq_) he; rw [e.1,e.2]<;>rfl)
 obtain ⟨he,D,C,Do,Di,FP⟩:=C2.1 rfl
 try dsimp only [cond_true,cond_false,List.cons_append,List.nil_append]
 dsimp only at D C Do Di FP
 obtain ⟨DW,A7,Eq,J2⟩:=g5 he
 obtain ⟨FS,C0⟩:=dK DW
 have EQ:=C0.head
 unfold eT at EQ
 have Fd:=lL FS C0 A7
 have J4:=A7.time
 have J3:=A7.len
 have Cx:(cq l l.ab.length).length=l.ab.length:=cS
 have C1:(cL l r.aa r.aa.length).length=l.ab.length:=gT
 have Jr:B.length=l.ab.length+1:=by have:=D.len; rw [show (bW l r).n=l.ab.length from cS] at this; exact this
 have Jb:A.length=l.ab.length+1:=by have:=C.len; rw [show (bW l r).n=l.ab.length from cS] at this; exact this
 obtain ⟨Id,If⟩:=Cy Eq
 obtain ⟨b,A4⟩: ∃ b:Nat,bq_=(b:Int):=⟨bq_.toNat,I⟩
 rw [A4]
 refine bx 5 U<|RK p<|ak fun _ N=>WS fun _ O=>bx 1 U<|rS (SX (eK (r:= .bool false) U U U xR) U U)<|RK O<|bT U<|WK N<|WS fun _ P=>rS (SX (bG (xs:=[(0,.const (vI 1))]) (cs:=(ai.cells (ai.mk 1 0))) U U (bH gU U)) U U)<|AL U dV fun A8=>fj U cT U<|RK P<|WS fun _ R=>er 1 [] (mc 0 U mn) U<|AL U dV fun A9=>fj U cT U<|RK R<|ak fun _ T=>WS fun _ AA=>rP 2 [] (mc 12 U mn) ?_
 obtain ⟨mf,Y⟩:=aF B b I
 obtain ⟨mb,Z⟩:=aF A (b+1) I
 refine cX (IC E b) (aR) U fun GE Ho=>?_
 obtain ⟨AC,AO⟩:=GE
 try dsimp only
 refine RK AA<|aC ?_
 refine uq (L0:=[(3,(vP b2)),(4,(vP b3)),(5,(vP b4)),(6,(vP b5)),(7,(vI 0)),(10,(vP A8)),(11,(vP A9))]) (F:=[(own H AB 3 1 ((cq l l.ab.length).map iC)),(own g j 155 1 (List.zipWith gr (cL l r.aa r.aa.length) m)),(bS (bk pU (cL l r.aa r.aa.length) m)),(own J K 276 1 (List.zipWith gr B L)),(bS (bk mU B L)),(own d f 276 1 (List.zipWith gr A G)),(bS (bk mU A G)),(cy E 273 (cb.cells (cb.mk (jr l kA kC cA cC bA bC) (im r sgA sgC) (bK.mk H ((cq l l.ab.length).length) AB) (bK.mk g ((cL l r.aa r.aa.length).length) j) (bK.mk J B.length K) (bK.mk d A.length f)))),(cy AC 237 [(vP E)]),(cy AO 3 [(vI (b:Int))])]) (fun k (y:ai)=>(kD k y)∧(∀ q∈k,q∈qd (bW l r) b mf mb)) (fun k y=>[(cy A9 65 (ai.cells y)),(cy A8 65 (ai.cells (ai.mk 1 0))),(cy b5 65 (ai.cells (ai.mk 0 0))),(cy b4 3 [(vI (b:Int))]),(cy b3 61 (de.cells (im r sgA sgC))),(cy b2 28 (cu.cells (jr l kA kC cA cC bA bC))),(rd kA l.aO.length 9 (l.aO.map aq.cells)).ro,(rd cA l.aj.length 2 (List.zipWith av.cells l.aj az)).ro,(dL (bk av.fu l.aj az)).ro,(rd bA l.ab.length 4 (l.ab.map bL.cells)).ro,(rd sgA r.aa.length 2 (r.aa.map aH.cells)).ro]) (fun _ (_:Unit)=>False) (fun _ _=>[]) [2,3,13,14,15,16,17,18,19,20,21] [5,6,7,8,9,10,11,4,0,1] mQ rfl rfl (E2 (jr l kA kC cA cC bA bC) (im r sgA sgC) (cq l l.ab.length) (cL l r.aa r.aa.length) H AB m g j B A L J K G d f E b AC AO mf mb (by rw [Cx]; omega) (by exact Fd) (by rw [C1]; omega) (by exact D) I (by exact C) I (by show r.aa.length≤1000; omega) (by exact Y) (by exact Z)) rfl rfl rfl (by exact ⟨Ae,fun q hq=>by cases hq⟩) (by simp only [List.forall_mem_cons,List.not_mem_nil,false_imp_iff,implies_true,and_true]; exact ⟨⟨_,aP (i:=0) rfl,(jx sm)⟩,⟨_,aP (i:=1) rfl,(jx (by rw [List.length_zipWith]; omega))⟩,⟨_,aP (i:=2) rfl,qL⟩,⟨_,aP (i:=3) rfl,(jx (by rw [List.length_zipWith]; omega))⟩,⟨_,aP (i:=4) rfl,qL⟩,⟨_,aP (i:=5) rfl,(jx (by rw [List.length_zipWith]; omega))⟩,⟨_,aP (i:=6) rfl,qL⟩,⟨_,aP (i:=7) rfl,(bY _)⟩,⟨_,aP (i:=8) rfl,(bY _)⟩,⟨_,aP (i:=9) rfl,(bY _)⟩⟩) (by rintro k x k2 ⟨o,_,rfl,_⟩; rfl) rfl (bu rfl) ?_ ?_ (fun _ _ _ h=>h.elim) (fun _ _ h=>h.elim)
 ·rintro k x k2 h lr ra rb S w1 K41 Qr42 J6 hx A5 Ci X Fn GT
  obtain ⟨q,hq,rfl,rfl⟩:=hx
  obtain ⟨a,c⟩:=A5
  try dsimp only
  refine au<|AL U dV fun H1=>fj U cT U<|aD<|jY (fun _ _ h=>h) (aN [1,0,2,3,4,5,6,7,8,9,10,11,12])<|bj (Ci _ _ ?_)
  refine aC<|ak fun _ s=>WS fun _ Ck=>rP 2 [0,1] (mc 2 U (mc 3 U mn)) ?_
  refine rS (BI U (Pn _ _ h (ai.mk 1 0)))<|RK Ck<|bO U (aV fun M=>?_) (aW fun M=>?_)
  ·refine WK s<|au<|rP 1 [] (mc 1 U mn) ?_
   refine DG U cT U<|aD<|aK ?_
   exact X q.2 _ _ (by refine ⟨yo a (mW hq) ?_,fun z hz=>?_⟩; (first|exact if_neg M|exact if_pos M); (rcases gL.1 hz with hz|hz; exact c z hz; (rw [cv.1 hz]; exact hq))) (aN [0,2,3,4,5,6,7,8,9,10,11,12])
  refine au<|er 4 [0,1] (mc 1 U (mc 2 U mn)) U<|rS (MN U)<|er 4 [0,1] (mc 1 U (mc 2 U mn)) U<|rS (MX U)<|rS (SX (bG (xs:=[(0,.tmp 40),(1,.tmp 45)]) (cs:=(ai.cells (ai.mk (min q.2.Lo h.Lo) (max q.2.Hi h.Hi)))) U U (bH gU U)) U U)<|pZ U cT U<|RK s<|au<|rP 1 [] (mc 1 U mn) ?_
  refine DG U cT U<|aD<|aK ?_
  exact X (ai.mk (min q.2.Lo h.Lo) (max q.2.Hi h.Hi)) _ _ (by refine ⟨yo a (mW hq) ?_,fun z hz=>?_⟩; (first|exact if_neg M|exact if_pos M); (rcases gL.1 hz with hz|hz; exact c z hz; (rw [cv.1 hz]; exact hq))) (aN [0,2,3,4,5,6,7,8,9,10,11,12])
 rintro J9 k h v A6
 obtain ⟨a,c⟩:=A6
 try dsimp only
 refine aK<|KK T<|ak fun _ V=>WS fun _ W=>rP 2 [0,1] (mc 11 U (mc 12 U mn)) ?_
 refine rS (BI U (vl _ _ h (ai.mk 1 0)))<|RK W<|bO U (aS fun A2=>?_) (aT fun A2=>?_)
 ·refine WK V<|WS fun _ u=>er 1 [] (mc 11 U mn) U<|iQ (vs:=(ai.cells h)) (cs':=(ai.cells h)) (C':=[_,_,_,_,_,_,_,_,_,_,_,_,_,(cy b5 65 (ai.cells h)),_,_,_,_,_,_,_,_]) 13 U U U cT U U U U U U U<|rP 1 [] mn ?_
  refine RK u<|ao<|hQ _ _ _ (qH 0 U U<|ke (vs:=[(vA (ai.cells h)),(vI 0)]) ⟨⟨_,U,.inl ⟨_,_,bX,pz (vs:=(ai.cells h)) 13 U U,U,U⟩⟩,U,trivial⟩ fun w hs=>CK ?_ hs)
  show (vT [(vA (ai.cells h)),(vI 0)])=(vT [(vA (ai.cells (dy l r bq_))),(vI (eh l r bq_))])
  clear hs w hQ hN u W V AA T R P O N p A3
  (rw [A4] at he ⊢; have hh:h=nI l r b:=yO (D.min _ _ Y) (C.max _ _ Z) (D.keys _ _ Y) (C.keys _ _ Z) c v a; (have e:=qs he (fun q=>A2 (hh.trans q)); rw [e.1,e.2,hh]<;>rfl))
 refine WS fun _ t=>rS (SX (bG (xs:=[]) (cs:=(ai.cells (ai.mk 0 0))) U U (bH gU U)) U U)<|iQ (vs:=(ai.cells (ai.mk 0 0))) (cs':=(ai.cells (ai.mk 0 0))) (C':=[_,_,_,_,_,_,_,_,_,_,_,_,_,(cy b5 65 (ai.cells (ai.mk 0 0))),_,_,_,_,_,_,_,_]) 13 U U U cT U U U U U U U<|rP 1 [] mn ?_
 refine RK t<|ao<|hQ _ _ _ (qH 0 U U<|ke (vs:=[(vA (ai.cells (ai.mk 0 0))),(vI 6)]) ⟨⟨_,U,.inl ⟨_,_,bX,pz (vs:=(ai.cells (ai.mk 0 0))) 13 U U,U,U⟩⟩,U,trivial⟩ fun w hs=>CK ?_ hs)
 show (vT [(vA (ai.cells (ai.mk 0 0))),(vI 6)])=(vT [(vA (ai.cells (dy l r bq_))),(vI (eh l r bq_))])
 clear hs w hQ hN t W V AA T R P O N p A3
 (rw [A4] at he ⊢; have hh:h=nI l r b:=yO (D.min _ _ Y) (C.max _ _ Z) (D.keys _ _ Y) (C.keys _ _ Z) c v a; (have e:=qG he (hh.symm.trans A2); rw [e.1,e.2]<;>rfl))
theorem Rz (l:bo) (kA:OA) (kC:Nat) (az:List RA) (cA:OA) (cC:Nat) (bA:OA) (bC:Nat) (r:cx) (sgA:OA) (sgC:Nat) (hin:d_ l az) (hsl:r.aa.length≤1000000):
 dF Tryz.prog 254 [(vA (cu.cells (jr l kA kC cA cC bA bC))),(vA (de.cells (im r sgA sgC)))] [(rd kA l.aO.length 9 (l.aO.map aq.cells)),(rd cA l.aj.length 2 (List.zipWith av.cells l.aj az)),(dL (bk av.fu l.aj az)),(rd bA l.ab.length 4 (l.ab.map bL.cells)),(rd sgA r.aa.length 2 (r.aa.map aH.cells))] (vT [(vA (ai.cells (Bt l r))),(vI (eh l r l.b_))]):=by
 have N:=hin.qm
 have J:=hin.qj
 have H:=hin.mq
 have AA:=hin.qi
 have M:=hin.side
 refine bE kr Tryz.func254 U U fun T Q hQ hN=>?_
 try dsimp only
 refine WS fun _ C=>ed U fun O=>ed U fun P=>AL U dV fun R=>bx 1 U<|RK C<|WS fun _ D=>er 4 [0,1] (mc 2 U (mc 1 U mn)) U<|rS (CL (Ah l kA kC az cA cC bA bC r sgA sgC l.b_ hin hsl) (br [3,4,5,6,7]) U)<|bx 3 U<|AL U dV fun S=>fj U cT U<|bx 1 U<|RK D<|ak fun _ E=>WS fun _ F=>rP 2 [] mn ?_
 refine RK F<|cr U (aW fun A=>?_) (aV fun A=>?_)
 ·refine WS fun _ G=>rS (SX (bG (xs:=[]) (cs:=(ai.cells (ai.mk 0 0))) U U (bH gU U)) U U)<|bx 1 U<|pZ U cT U<|rP 1 [] mn ?_
  refine RK G<|ao<|lS hQ [0] (mc 1 U mn) U ?_
  (rw [DH A]<;>rfl)
 refine WK E<|WS fun _ B=>rP 4 [0,1] (mc 0 U (mc 2 U mn)) ?_
 have K:=ub A
 have L:=(qR A).time
 refine er 6 [0,1] (mc 0 U (mc 2 U mn)) U<|rS (SX (bG (xs:=[(0,.tmp 24),(1,.tmp 29)]) (cs:=(ai.cells (ai.mk (((dy l r l.b_).Lo)-r.Start) (((dy l r l.b_).Hi)-r.Start)))) U U (bH gU U)) U U)<|pZ U cT U<|rP 1 [] mn ?_
 refine RK B<|ao<|lS hQ [0] (mc 1 U mn) U ?_
 (rw [Dd A,A]<;>rfl)
end
section
open Go.RowKit
theorem LR (l:bo) (kA:OA) (kC:Nat) (az:List RA) (cA:OA) (cC:Nat) (bA:OA) (bC:Nat) (d:aw) (sgA:OA) (sgC:Nat) (hin:d_ l az):
 dF Tryz.prog 247 [(vA (cu.cells (jr l kA kC cA cC bA bC))),(vA (bf.cells (bf.mk d.Out d.cO d.Time (im d.aZ sgA sgC))))] [(rd kA l.aO.length 9 (l.aO.map aq.cells)),(rd cA l.aj.length 2 (List.zipWith av.cells l.aj az)),(dL (bk av.fu l.aj az)),(rd bA l.ab.length 4 (l.ab.map bL.cells)),(rd sgA d.aZ.aa.length 2 (d.aZ.aa.map aH.cells))] (vT [(vA (ai.cells d.Time)),(vB (decide (d.cO=false∧d.Time=g4∧mV d.aZ)))]):=by
 refine bE kr Tryz.func247 U U fun K Q hQ hN=>?_
 try dsimp only
 refine WS fun _ B=>ed U fun H=>ed U fun AA=>AL U dV fun J=>rP 1 [] mn ?_
 refine RK B<|ak fun _ A=>dx ck [15] [] [] [1,2,3,4,5,6,7] [] U U U U U<|eS U (FA 2 U eV U)<|eS U (LP (ai.cells d.Time) 0 U bX U U U)<|eS U (FA 1 U eV U)<|eS U (L1 (vB d.cO) 0 U bX U U)<|eS U (NT U)<|eS U (MV U)<|rn (t:=11) U (fun G=>?_) (fun G=>?_)
 rotate_left 1
 ·rw [Bool.not_eq_false'] at G
  refine eS U (OX U)<|eS U (OX U)<|eS U (OX U)<|eS U (OX U)<|eS U (PK U)<|eS U (MV U)<|eS U (OX U)<|eS U (OX U)<|eS U (PK U)<|eS U (AG U)<|eo U<|cd U fun T10 C=>fj U cT U<|aD (C _ _ (aN [1,2,3,4,5,6,7]) ?_)
  refine fh U<|KK A<|ao<|lS hQ [0] (mc 0 U mn) U ?_
  clear hQ hN C T10 A B
  refine congrArg (fun z=>Value.tuple #[_,vB z]) ?_
  first|rfl|(simp_all [g4]; done)
 rw [Bool.not_eq_true'] at G
 refine eS U (FA 2 U eV U)<|eS U (LP (ai.cells d.Time) 0 U bX U U U)<|eS U (SX (bG (xs:=[]) (cs:=(ai.cells (ai.mk 0 0))) U U (bH gU U)) U U)<|eS U (BI U (vl _ _ d.Time (ai.mk 0 0)))<|eS U (PK U)<|eS U (MV U)<|rn (t:=17) U (fun D=>?_) (fun D=>?_)
 rotate_left 1
 ·replace D:=DF D
  refine eS U (OX U)<|eS U (OX U)<|eS U (PK U)<|eS U (AG U)<|eo U<|cd U fun T9 F=>fj U cT U<|aD (F _ _ (aN [1,2,3,4,5,6,7]) ?_)
  refine fh U<|KK A<|ao<|lS hQ [0] (mc 0 U mn) U ?_
  clear hQ hN F T9 A B
  refine congrArg (fun z=>Value.tuple #[_,vB z]) ?_
  first|rfl|(simp_all [g4]; done)
 replace D:=DT D
 refine eS U (LW 0 U bX U U)<|eS U (CL (Ja d sgA sgC) (br [6]) U)<|eS U (PK U)<|eS U (AG U)<|eo U<|cd U fun T8 E=>fj U cT U<|aD (E _ _ (aN [1,2,3,4,5,6,7]) ?_)
 refine fh U<|KK A<|ao<|lS hQ [0] (mc 0 U mn) U ?_
 clear hQ hN E T8 A B
 refine congrArg (fun z=>Value.tuple #[_,vB z]) ?_
 first|rfl|(simp_all [g4]; done)
theorem LI (l:bo) (kA:OA) (kC:Nat) (az:List RA) (cA:OA) (cC:Nat) (bA:OA) (bC:Nat) (d:aw) (sgA:OA) (sgC:Nat) (hin:d_ l az):
 dF Tryz.prog 250 [(vA (cu.cells (jr l kA kC cA cC bA bC))),(vA (bf.cells (bf.mk d.Out d.cO d.Time (im d.aZ sgA sgC))))] [(rd kA l.aO.length 9 (l.aO.map aq.cells)),(rd cA l.aj.length 2 (List.zipWith av.cells l.aj az)),(dL (bk av.fu l.aj az)),(rd bA l.ab.length 4 (l.ab.map bL.cells)),(rd sgA d.aZ.aa.length 2 (d.aZ.aa.map aH.cells))] (vT [(vA (ai.cells d.Time)),(vB (decide (mO d.Time∧mV d.aZ)))]):=by
 refine bE kr Tryz.func250 U U fun AA Q hQ hN=>?_
 try dsimp only
 refine WS fun _ B=>ed U fun F=>ed U fun G=>AL U dV fun H=>rP 1 [] mn ?_
 refine RK B<|ak fun _ A=>dx ck [9] [] [] [1,2,3,4,5,6,7] [] U U U U U<|eS U (FA 2 U eV U)<|eS U (LP (ai.cells d.Time) 0 U bX U U U)<|eS U (FA 2 U eV U)<|eS U (LP (ai.cells d.Time) 0 U bX U U U)<|eS U (CL (K6 d.Time) (aR) U)<|eS U (MV U)<|rn (t:=11) U (fun C=>?_) (fun C=>?_)
 rotate_left 1
 ·replace C:=DF C
  refine eS U (OX U)<|eS U (OX U)<|eS U (PK U)<|eS U (AG U)<|eo U<|cd U fun T8 E=>fj U cT U<|aD (E _ _ (aN [1,2,3,4,5,6,7]) ?_)
  refine fh U<|KK A<|ao<|lS hQ [0] (mc 0 U mn) U ?_
  clear hQ hN E T8 A B
  refine congrArg (fun z=>Value.tuple #[_,vB z]) ?_
  first|rfl|(simp_all; done)
 replace C:=DT C
 refine eS U (LW 0 U bX U U)<|eS U (CL (Ja d sgA sgC) (br [6]) U)<|eS U (PK U)<|eS U (AG U)<|eo U<|cd U fun T7 D=>fj U cT U<|aD (D _ _ (aN [1,2,3,4,5,6,7]) ?_)
 refine fh U<|KK A<|ao<|lS hQ [0] (mc 0 U mn) U ?_
 clear hQ hN D T7 A B
 refine congrArg (fun z=>Value.tuple #[_,vB z]) ?_
 first|rfl|(simp_all; done)
theorem JY (l:bo) (kA:OA) (kC:Nat) (az:List RA) (cA:OA) (cC:Nat) (bA:OA) (bC:Nat) (d:aw) (sgA:OA) (sgC:Nat) (hin:d_ l az) (hsl:d.aZ.aa.length≤1000000):
 dF Tryz.prog 253 [(vA (cu.cells (jr l kA kC cA cC bA bC))),(vA (bf.cells (bf.mk d.Out d.cO d.Time (im d.aZ sgA sgC))))] [(rd kA l.aO.length 9 (l.aO.map aq.cells)),(rd cA l.aj.length 2 (List.zipWith av.cells l.aj az)),(dL (bk av.fu l.aj az)),(rd bA l.ab.length 4 (l.ab.map bL.cells)),(rd sgA d.aZ.aa.length 2 (d.aZ.aa.map aH.cells))] (vT [(vA (ai.cells (Bt l d.aZ))),(vB (decide (eh l d.aZ l.b_=0∧d.Time=g4)))]):=by
 have K:=hin.qm
 have AA:=hin.qj
 have G:=hin.mq
 have H:=hin.qi
 have J:=hin.side
 refine bE kr Tryz.func253 U U fun P Q hQ hN=>?_
 try dsimp only
 refine WS fun _ C=>ed U fun L=>ed U fun M=>AL U dV fun N=>bx 1 U<|RK C<|WS fun _ D=>er 2 [] (mc 2 U mn) U<|rS (LP (de.cells (im d.aZ sgA sgC)) 1 U bX U U U)<|rS (CL (Rz l kA kC az cA cC bA bC d.aZ sgA sgC hin hsl) (br [3,4,5,6,7]) U)<|bx 3 U<|AL U dV fun O=>fj U cT U<|rP 1 [] mn ?_
 refine RK D<|ak fun _ A=>dx ck [9] [] [] [0,2,3,4,5,6,7,8] [] U U U U U<|eS U (LW 0 U bX U U)<|eS U (MV U)<|eS U (BI U jW)<|eS U (MV U)<|rn (t:=18) U (fun E=>?_) (fun E=>?_)
 rotate_left 1
 ·replace E:=DF E
  refine eS U (OX U)<|eS U (OX U)<|eS U (OX U)<|eS U (OX U)<|eS U (PK U)<|eS U (AG U)<|eo U<|cd U fun T10 B=>pZ U cT U<|aD (B _ _ (aN [0,2,3,4,5,6,7,8]) ?_)
  refine fh U<|KK A<|ao<|lS hQ [0] (mc 1 U mn) U ?_
  clear hQ hN B T10 A D C
  refine congrArg (fun z=>Value.tuple #[_,vB z]) ?_
  first|rfl|(simp_all [g4]; done)
 replace E:=DT E
 refine eS U (FA 2 U eV U)<|eS U (LP (ai.cells d.Time) 1 U bX U U U)<|eS U (SX (bG (xs:=[]) (cs:=(ai.cells (ai.mk 0 0))) U U (bH gU U)) U U)<|eS U (BI U (vl _ _ d.Time (ai.mk 0 0)))<|eS U (PK U)<|eS U (AG U)<|eo U<|cd U fun T9 F=>pZ U cT U<|aD (F _ _ (aN [0,2,3,4,5,6,7,8]) ?_)
 refine fh U<|KK A<|ao<|lS hQ [0] (mc 1 U mn) U ?_
 clear hQ hN F T9 A D C
 refine congrArg (fun z=>Value.tuple #[_,vB z]) ?_
 first|rfl|(simp_all [g4]; done)
theorem Gw (d:aw) (sgA:OA) (sgC g1:Nat):
 dF Tryz.prog 142 [(vA (mT.cells (mT.mk (Value.func (.func 246) [].toArray [].toArray) (Value.func (.func 247) [].toArray [].toArray)))),(vP g1)] [(rd sgA d.aZ.aa.length 2 (d.aZ.aa.map aH.cells)),(cy g1 67 (bf.cells (bf.mk d.Out d.cO d.Time (im d.aZ sgA sgC))))] (vB d.Out):=by
 refine bE kr Tryz.func142 U U fun D Q hQ hN=>?_
 try dsimp only
 refine WS fun _ A=>ed U fun C=>bx 1 U<|RK A<|WS fun _ B=>er 3 [0,1] (mc 0 U (mr 2 U mn)) U<|rS (CL (Q4 d sgA sgC) (br [1]) U)<|rP 1 [] mn ?_
 refine RK B<|ao<|Q1 hQ U U U ?_
 rfl
theorem FR (d:aw) (sgA:OA) (sgC g1:Nat):
 dF Tryz.prog 142 [(vA (mT.cells (mT.mk (Value.func (.func 249) [].toArray [].toArray) (Value.func (.func 250) [].toArray [].toArray)))),(vP g1)] [(rd sgA d.aZ.aa.length 2 (d.aZ.aa.map aH.cells)),(cy g1 67 (bf.cells (bf.mk d.Out d.cO d.Time (im d.aZ sgA sgC))))] (vB d.cO):=by
 refine bE kr Tryz.func142 U U fun D Q hQ hN=>?_
 try dsimp only
 refine WS fun _ A=>ed U fun C=>bx 1 U<|RK A<|WS fun _ B=>er 3 [0,1] (mc 0 U (mr 2 U mn)) U<|rS (CL (QL d sgA sgC) (br [1]) U)<|rP 1 [] mn ?_
 refine RK B<|ao<|Q1 hQ U U U ?_
 rfl
theorem E3 (d:aw) (sgA:OA) (sgC g1:Nat):
 dF Tryz.prog 142 [(vA (mT.cells (mT.mk (Value.func (.func 252) [].toArray [].toArray) (Value.func (.func 253) [].toArray [].toArray)))),(vP g1)] [(rd sgA d.aZ.aa.length 2 (d.aZ.aa.map aH.cells)),(cy g1 67 (bf.cells (bf.mk d.Out d.cO d.Time (im d.aZ sgA sgC))))] (vB true):=by
 refine bE kr Tryz.func142 U U fun D Q hQ hN=>?_
 try dsimp only
 refine WS fun _ A=>ed U fun C=>bx 1 U<|RK A<|WS fun _ B=>er 3 [0,1] (mc 0 U (mr 2 U mn)) U<|rS (CL (Qk d sgA sgC) (br [1]) U)<|rP 1 [] mn ?_
 refine RK B<|ao<|Q1 hQ U U U ?_
 rfl
end
section
open Go.RowKit
theorem wU (d:aw) (sgA:OA) (sgC g1:Nat):
 dF Tryz.prog 141 [(vS jm 3 3),(Value.func (.func 142) [].toArray [(vP g1)].toArray)] [(rd jm 3 2 g6),(rd sgA d.aZ.aa.length 2 (d.aZ.aa.map aH.cells)),(cy g1 67 (bf.cells (bf.mk d.Out d.cO d.Time (im d.aZ sgA sgC))))] (vI (oF d)):=by
 refine bE kr Tryz.func141 U U fun b Q hQ hN=>?_
 try dsimp only
 refine WS fun _ F=>bx 1 U<|RK F<|ak fun _ AA=>WS fun _ G=>bx 3 U<|RK G<|aC<|qB 4<|kT fun R4 Z=>WS fun _ H=>rS (SX (eK (r:= .bool true) U U U p9) U U)<|RK H<|ak fun _ AB=>aI U<|WK AB<|ak fun _ J=>aC<|WS fun _ K=>bx 2 U<|RK K<|WS fun _ L=>rP 3 [] mn ?_
 refine rS (IA 0 U (ax 0 U) IH dc U I)<|rS (jL 0 0 (mT.cells (mT.mk (Value.func (.func 246) [].toArray [].toArray) (Value.func (.func 247) [].toArray [].toArray))) U bX (ax 0 U) (show g6[0]? =some [(Value.func (.func 246) [].toArray [].toArray),(Value.func (.func 247) [].toArray [].toArray)] from U) U dc U U)<|rS (CL (Gw d sgA sgC g1) (br [1,2]) U)<|RK L<|cr U (fun X=>?_) (fun X=>?_)
 ·refine WS fun _ M=>rP 2 [] mn ?_
  refine RK M<|ao<|Q1 hQ U U U ?_
  clear hQ hN M L K J AB H G AA F
  refine cI ?_
  simp [oF, *]
 refine cp<|aK<|KK J<|au<|rS (SX (eK (r:= .int .i64 1) U U U (n9 ⟨dc,dc⟩)) U U)<|bx 1 U<|RK Z<|kT fun R12 W=>WS fun _ A=>rS (SX (eK (r:= .bool true) U U U p9) U U)<|RK A<|ak fun _ B=>aI U<|WK B<|ak fun _ C=>aC<|WS fun _ D=>bx 2 U<|RK D<|WS fun _ E=>rP 3 [] mn ?_
 refine rS (IA 1 U (ax 0 U) IH dc U I)<|rS (jL 1 0 (mT.cells (mT.mk (Value.func (.func 249) [].toArray [].toArray) (Value.func (.func 250) [].toArray [].toArray))) U bX (ax 0 U) (show g6[1]? =some [(Value.func (.func 249) [].toArray [].toArray),(Value.func (.func 250) [].toArray [].toArray)] from U) U dc U U)<|rS (CL (FR d sgA sgC g1) (br [1,2]) U)<|RK E<|cr U (fun Y=>?_) (fun Y=>?_)
 ·refine WS fun _ N=>rP 2 [] mn ?_
  refine RK N<|ao<|Q1 hQ U U U ?_
  clear hQ hN N E D C B A L K J AB H G AA F
  refine cI ?_
  simp [oF, *]
 refine cp<|aK<|KK C<|au<|rS (SX (eK (r:= .int .i64 2) U U U (n9 ⟨dc,dc⟩)) U U)<|bx 1 U<|RK W<|kT fun R20 a=>WS fun _ O=>rS (SX (eK (r:= .bool true) U U U p9) U U)<|RK O<|ak fun _ P=>aI U<|WK P<|ak fun _ V=>aC<|WS fun _ R=>bx 2 U<|RK R<|WS fun _ S=>bx 3 U<|rS (IA 2 U (ax 0 U) IH dc U I)<|rS (jL 2 0 (mT.cells (mT.mk (Value.func (.func 252) [].toArray [].toArray) (Value.func (.func 253) [].toArray [].toArray))) U bX (ax 0 U) (show g6[2]? =some [(Value.func (.func 252) [].toArray [].toArray),(Value.func (.func 253) [].toArray [].toArray)] from U) U dc U U)<|rS (CL (E3 d sgA sgC g1) (br [1,2]) U)<|RK S<|aI U<|WS fun _ T=>rP 2 [] mn ?_
 refine RK T<|ao<|Q1 hQ U U U ?_
 clear hQ hN T S R V P O E D C B A L K J AB H G AA F
 refine cI ?_
 simp [oF, *]
end
section
open Go.RowKit
theorem O6 (d:aw) (sgA:OA) (sgC g1:Nat) (hk:d.Out=true):
 dF Tryz.prog 141 [(vS jm 3 3),(Value.func (.func 142) [].toArray [(vP g1)].toArray)] [(rd jm 3 2 g6),(rd sgA d.aZ.aa.length 2 (d.aZ.aa.map aH.cells)),(cy g1 67 (bf.cells (bf.mk d.Out d.cO d.Time (im d.aZ sgA sgC))))] (vI 0):=by
 have h:=wU d sgA sgC g1
 have e:oF d=0:=by simp [oF,hk]
 rw [e] at h
 exact h
theorem P_ (d:aw) (sgA:OA) (sgC g1:Nat) (hk:d.Out=false∧d.cO=true):
 dF Tryz.prog 141 [(vS jm 3 3),(Value.func (.func 142) [].toArray [(vP g1)].toArray)] [(rd jm 3 2 g6),(rd sgA d.aZ.aa.length 2 (d.aZ.aa.map aH.cells)),(cy g1 67 (bf.cells (bf.mk d.Out d.cO d.Time (im d.aZ sgA sgC))))] (vI 1):=by
 have h:=wU d sgA sgC g1
 have e:oF d=1:=by simp [oF,hk]
 rw [e] at h
 exact h
theorem Pr (d:aw) (sgA:OA) (sgC g1:Nat) (hk:d.Out=false∧d.cO=false):
 dF Tryz.prog 141 [(vS jm 3 3),(Value.func (.func 142) [].toArray [(vP g1)].toArray)] [(rd jm 3 2 g6),(rd sgA d.aZ.aa.length 2 (d.aZ.aa.map aH.cells)),(cy g1 67 (bf.cells (bf.mk d.Out d.cO d.Time (im d.aZ sgA sgC))))] (vI 2):=by
 have h:=wU d sgA sgC g1
 have e:oF d=2:=by simp [oF,hk]
 rw [e] at h
 exact h
theorem AK (l:bo) (kA:OA) (kC:Nat) (az:List RA) (cA:OA) (cC:Nat) (bA:OA) (bC:Nat) (d:aw) (sgA:OA) (sgC:Nat) (hin:d_ l az) (hsl:d.aZ.aa.length≤1000000) (hk:d.Out=true):
 dF Tryz.prog 114 [(vA (cu.cells (jr l kA kC cA cC bA bC))),(vA (bf.cells (bf.mk d.Out d.cO d.Time (im d.aZ sgA sgC))))] [(rd jm 3 2 g6),(rd kA l.aO.length 9 (l.aO.map aq.cells)),(rd cA l.aj.length 2 (List.zipWith av.cells l.aj az)),(dL (bk av.fu l.aj az)),(rd bA l.ab.length 4 (l.ab.map bL.cells)),(rd sgA d.aZ.aa.length 2 (d.aZ.aa.map aH.cells))] (vT [(vA (ai.cells (gi l d))),(vB (decide (jk l d)))]):=by
 refine bE kr Tryz.func114 U U fun AA Q hQ hN=>?_
 try dsimp only
 refine WS fun _ A=>ed U fun G=>ed U fun D=>AL U dV fun H=>bx 1 U<|RK A<|WS fun _ B=>rS (SX (C9 U U yR) U U)<|rS (FU U)<|rS (CL (O6 d sgA sgC D hk) (OL 3 8 1 U U U U U U) U)<|bx 1 U<|RK B<|ak fun _ C=>cW ck 9 kr<|kx 1 U<|dS (SX (Dr (k:=0) U U U yR U I) U U)<|dS (oL ((0*2)+1) U (ax 3 U) (Nat.mul_pos I dc) eV U)<|dS (h_ 0 1 (Value.func (.func 247) [].toArray [].toArray) U bX (ax 3 U) (show g6[0]? =some [(Value.func (.func 246) [].toArray [].toArray),(Value.func (.func 247) [].toArray [].toArray)] from U) U dc U)<|kv 2 [0,1] (mc 2 U (mc 1 U mn)) U<|dS (CL (LR l kA kC az cA cC bA bC d sgA sgC hin) (br [4,5,6,7,8]) U)<|kx 2 U<|cw<|fj U cT U<|rP 1 [] mn ?_
 refine RK C<|ao<|lS hQ [0] (mc 0 U mn) U ?_
 have E:=Eh (l:=l) hk
 have F:=qE (l:=l) hk
 simp only [E,F]
theorem As (l:bo) (kA:OA) (kC:Nat) (az:List RA) (cA:OA) (cC:Nat) (bA:OA) (bC:Nat) (d:aw) (sgA:OA) (sgC:Nat) (hin:d_ l az) (hsl:d.aZ.aa.length≤1000000) (hk:d.Out=false∧d.cO=true):
 dF Tryz.prog 114 [(vA (cu.cells (jr l kA kC cA cC bA bC))),(vA (bf.cells (bf.mk d.Out d.cO d.Time (im d.aZ sgA sgC))))] [(rd jm 3 2 g6),(rd kA l.aO.length 9 (l.aO.map aq.cells)),(rd cA l.aj.length 2 (List.zipWith av.cells l.aj az)),(dL (bk av.fu l.aj az)),(rd bA l.ab.length 4 (l.ab.map bL.cells)),(rd sgA d.aZ.aa.length 2 (d.aZ.aa.map aH.cells))] (vT [(vA (ai.cells (gi l d))),(vB (decide (jk l d)))]):=by
 refine bE kr Tryz.func114 U U fun AA Q hQ hN=>?_
 try dsimp only
 refine WS fun _ A=>ed U fun G=>ed U fun D=>AL U dV fun H=>bx 1 U<|RK A<|WS fun _ B=>rS (SX (C9 U U yR) U U)<|rS (FU U)<|rS (CL (P_ d sgA sgC D hk) (OL 3 8 1 U U U U U U) U)<|bx 1 U<|RK B<|ak fun _ C=>cW ck 9 kr<|kx 1 U<|dS (SX (Dr (k:=1) U U U yR U I) U U)<|dS (oL ((1*2)+1) U (ax 3 U) (Nat.mul_pos I dc) eV U)<|dS (h_ 1 1 (Value.func (.func 250) [].toArray [].toArray) U bX (ax 3 U) (show g6[1]? =some [(Value.func (.func 249) [].toArray [].toArray),(Value.func (.func 250) [].toArray [].toArray)] from U) U dc U)<|kv 2 [0,1] (mc 2 U (mc 1 U mn)) U<|dS (CL (LI l kA kC az cA cC bA bC d sgA sgC hin) (br [4,5,6,7,8]) U)<|kx 2 U<|cw<|fj U cT U<|rP 1 [] mn ?_
 refine RK C<|ao<|lS hQ [0] (mc 0 U mn) U ?_
 have E:=Ep (l:=l) hk
 have F:=x4 (l:=l) hk
 simp only [E,F]
theorem Au (l:bo) (kA:OA) (kC:Nat) (az:List RA) (cA:OA) (cC:Nat) (bA:OA) (bC:Nat) (d:aw) (sgA:OA) (sgC:Nat) (hin:d_ l az) (hsl:d.aZ.aa.length≤1000000) (hk:d.Out=false∧d.cO=false):
 dF Tryz.prog 114 [(vA (cu.cells (jr l kA kC cA cC bA bC))),(vA (bf.cells (bf.mk d.Out d.cO d.Time (im d.aZ sgA sgC))))] [(rd jm 3 2 g6),(rd kA l.aO.length 9 (l.aO.map aq.cells)),(rd cA l.aj.length 2 (List.zipWith av.cells l.aj az)),(dL (bk av.fu l.aj az)),(rd bA l.ab.length 4 (l.ab.map bL.cells)),(rd sgA d.aZ.aa.length 2 (d.aZ.aa.map aH.cells))] (vT [(vA (ai.cells (gi l d))),(vB (decide (jk l d)))]):=by
 refine bE kr Tryz.func114 U U fun AA Q hQ hN=>?_
 try dsimp only
 refine WS fun _ A=>ed U fun G=>ed U fun D=>AL U dV fun H=>bx 1 U<|RK A<|WS fun _ B=>rS (SX (C9 U U yR) U U)<|rS (FU U)<|rS (CL (Pr d sgA sgC D hk) (OL 3 8 1 U U U U U U) U)<|bx 1 U<|RK B<|ak fun _ C=>cW ck 9 kr<|kx 1 U<|dS (SX (Dr (k:=2) U U U yR U I) U U)<|dS (oL ((2*2)+1) U (ax 3 U) (Nat.mul_pos I dc) eV U)<|dS (h_ 2 1 (Value.func (.func 253) [].toArray [].toArray) U bX (ax 3 U) (show g6[2]? =some [(Value.func (.func 252) [].toArray [].toArray),(Value.func (.func 253) [].toArray [].toArray)] from U) U dc U)<|kv 2 [0,1] (mc 2 U (mc 1 U mn)) U<|dS (CL (JY l kA kC az cA cC bA bC d sgA sgC hin hsl) (br [4,5,6,7,8]) U)<|kx 2 U<|cw<|fj U cT U<|rP 1 [] mn ?_
 refine RK C<|ao<|lS hQ [0] (mc 0 U mn) U ?_
 have E:=Eu (l:=l) hk
 have F:=uo (l:=l) hk
 simp only [E,F]
theorem Cz (l:bo) (kA:OA) (kC:Nat) (az:List RA) (cA:OA) (cC:Nat) (bA:OA) (bC:Nat) (d:aw) (sgA:OA) (sgC:Nat) (hin:d_ l az) (hsl:d.aZ.aa.length≤1000000):
 dF Tryz.prog 114 [(vA (cu.cells (jr l kA kC cA cC bA bC))),(vA (bf.cells (bf.mk d.Out d.cO d.Time (im d.aZ sgA sgC))))] [(rd jm 3 2 g6),(rd kA l.aO.length 9 (l.aO.map aq.cells)),(rd cA l.aj.length 2 (List.zipWith av.cells l.aj az)),(dL (bk av.fu l.aj az)),(rd bA l.ab.length 4 (l.ab.map bL.cells)),(rd sgA d.aZ.aa.length 2 (d.aZ.aa.map aH.cells))] (vT [(vA (ai.cells (gi l d))),(vB (decide (jk l d)))]):=by
 by_cases ho:d.Out=true
 ·exact AK l kA kC az cA cC bA bC d sgA sgC hin hsl ho
 by_cases hf:d.cO=true
 ·exact As l kA kC az cA cC bA bC d sgA sgC hin hsl ⟨by simpa using ho,hf⟩
 ·exact Au l kA kC az cA cC bA bC d sgA sgC hin hsl ⟨by simpa using ho,by simpa using hf⟩
end
section
open Go.RowKit
theorem Jf (lA:OA) (lN lC:Nat):
 qf Tryz.prog 113 [(vS lA lN lC)] [] (fun (x:Nat)=>(Value.func (.func 140) [].toArray [(vP x)].toArray)) (fun (x:Nat)=>True) (fun (x:Nat)=>[(cy x 29 [(vS lA lN lC)])]):=by
 refine fJ kr Tryz.func113 U U fun D Q hQ hN=>?_
 try dsimp only
 refine WS fun _ A=>xJ U U fun C=>bx 1 U<|RK A<|WS fun _ B=>rS (FU U)<|rP 1 [] mn ?_
 refine RK B<|ao<|LX hQ C [0] [] mn U U U U ?_
 trivial
theorem IL (nl:List Int) (nlA:OA) (nlC g1:Nat) (hlen:nl.length≤12):
 LH Tryz.prog 140 [] [(vP g1)] [(rd nlA nl.length 1 (nl.map iC)),(cy g1 29 [(vS nlA nl.length nlC)])] (qF nl):=by
 refine DU kr Tryz.func140 U U fun l J Z A0 T Q hY K AB hQ hN=>?_
 try dsimp only
 refine WS fun _ M=>rP 3 [] (mr 2 U mn) ?_
 refine RK M<|aC ?_
 have F:(0≤nl.length)∧(J 0 A0)∧(Fo A0 T A0):=by exact ⟨Nat.zero_le _,K,AB⟩
 refine bQ (ι:={z:Nat×aA // (z.1≤nl.length)∧(J z.1 z.2)∧(Fo A0 T z.2)}) [0,1,5,6] [1] U U (fun z=>[(7,(vI (z.1.1:Int)))]) (fun z=>[z.1.2]) (fun _=>rfl) (fun _=>rfl) (fun z=>nl.length-z.1.1) ⟨(0,A0),F⟩ (bu U) (aN [1,0]) ?_
 clear F
 rintro ⟨⟨i,A⟩,⟨G,B,C⟩⟩ J2 L
 try dsimp only at G B C
 try dsimp only
 refine WS fun _ N=>rP 1 [] mn ?_
 refine RK N<|ak fun _ O=>bO U (aS fun AA=>?_) (aT fun AA=>?_)
 ·refine bM<|ag<|ag<|aG ?_
  refine hN _ _ _ (ke (vs:=[]) trivial fun w hs=>Rh 1 U (by rw [te]; have e:nl.length=i:=I; rw [e]; exact B) C hs)
 refine WK O<|ak fun _ P=>aC<|WS fun _ R=>?_
 obtain ⟨x,hx⟩:=aF nl i I
 have S:=bJ iC hx
 refine rS (IA i U (ax 0 U) dJ dc I I)<|rS (h_ i 0 (vI x) U bX (ax 0 U) S U dc U)<|bx 1 U<|RK R<|WS fun _ H=>rP 2 [] mn ?_
 refine EK 1 hY B C U U U (Fz hx) U U (fun B9 E D=>?_) (fun B9 E D=>?_)
 rotate_left 1
 ·refine rP 1 [] mn ?_
  refine RK H<|aI U<|ao ?_
  refine hQ _ _ _ (ke (vs:=[]) trivial fun w hs=>Mf 1 U E D hs)
 refine bx 1 U<|RK H<|bT U<|cp<|aK<|KK P<|au<|rP 2 [] mn ?_
 refine aD ?_
 refine bj (L ⟨((i+1),B9),⟨I,E,D⟩⟩ _ _ _ U os (bu U) (aN [0,1]))
end
section
open Go.RowKit
theorem K_ (x:Int):
 dF Tryz.prog 223 [(vI x)] [] (vB false):=by
 refine bE kr Tryz.func223 U U fun C Q hQ hN=>?_
 try dsimp only
 refine WS fun _ A=>bx 1 U<|RK A<|WS fun _ B=>rP 4 [] mn ?_
 refine RK B<|ao<|Q1 hQ U U U ?_
 simp
theorem KH (x y:Int):
 dF Tryz.prog 202 [(vI x),(vI y)] [] (vB (decide (x<y))):=by
 refine bE kr Tryz.func202 U U fun C Q hQ hN=>?_
 try dsimp only
 refine WS fun _ A=>bx 1 U<|RK A<|WS fun _ B=>bx 1 U<|rS (CL (K_ x) (aR) U)<|rP 11 [] mn ?_
 refine RK B<|ao<|Q1 hQ U U U ?_
 exact cB (gR.2 I)
theorem Gr (l:List Int) (lA:OA) (lC:Nat) (hlen:l.length≤1000000):
 JP Tryz.prog 196 [(vS lA l.length lC),(vI 0),(vI (l.length:Int))] [] (own lA lC 3 1 (l.map iC)) (fun (x:(List Int))=>(vT [])) (fun (x:(List Int))=>x.Perm l∧x.Pairwise (· ≤ ·)) (fun (x:(List Int))=>(own lA lC 3 1 (x.map iC))):=by
 refine uK kr Tryz.func196 U U fun g Q hQ hN=>?_
 try dsimp only
 refine WS fun _ X=>bx 1 U<|rS (SX (eK (r:= .int .i64 1) U U U (n9 ⟨dc,dc⟩)) U U)<|rP 1 [] mn ?_
 refine RK X<|aC ?_
 have A:(1≤1∧(1≤l.length∨1=1))∧(l.length=l.length)∧(l.Perm l)∧(M7 l 1):=by exact ⟨I,rfl,List.Perm.refl _,LB⟩
 refine bQ (ι:={z:Nat×(List Int) // (1≤z.1∧(z.1≤l.length∨z.1=1))∧(z.2.length=l.length)∧(z.2.Perm l)∧(M7 z.2 z.1)}) [0,1,2] [] U U (fun z=>[(6,(vI (z.1.1:Int)))]) (fun z=>[(own lA lC 3 1 (z.1.2.map iC))]) (fun _=>rfl) (fun _=>rfl) (fun z=>l.length-z.1.1) ⟨(1,l),A⟩ (bu U) (aN [0]) ?_
 clear A
 rintro ⟨⟨i,m⟩,⟨K,AB,E,F⟩⟩ J2 M
 try dsimp only at K AB E F
 try dsimp only
 refine ak fun _ Y=>WS fun _ Z=>rP 3 [] mn ?_
 refine RK Z<|bO U (aS fun e=>?_) (aT fun e=>?_)
 ·refine bM<|ag<|ag<|aG<|LM hN m 0 [] mn U U U U ?_
  exact ⟨E,LV F I⟩
 refine WK Y<|ak fun _ O=>aC<|WS fun _ b=>rP 2 [] mn ?_
 refine RK b<|aC ?_
 have A:(i≤i)∧(m.length=l.length)∧(m.Perm l)∧(N3 m i i):=by exact ⟨Nat.le_refl _,AB,E,Gd F I⟩
 refine bQ (ι:={z:Nat×(List Int) // (z.1≤i)∧(z.2.length=l.length)∧(z.2.Perm l)∧(N3 z.2 i z.1)}) [0,1,2,6] [] U U (fun z=>[(7,(vI (z.1.1:Int)))]) (fun z=>[(own lA lC 3 1 (z.1.2.map iC))]) (fun _=>rfl) (fun _=>rfl) (fun z=>z.1.1) ⟨(i,m),A⟩ (bu U) (aN [0]) ?_
 clear A
 rintro ⟨⟨j,q⟩,⟨G,B,C,D⟩⟩ J8 W
 try dsimp only at G B C D
 try dsimp only
 refine ak fun _ c=>ak fun _ J=>cW ck 15 kr<|dP 4 [] mn ?_
 refine g0 (t:=19) U (aS fun hj=>?_) (aT fun hj=>?_)
 ·refine kx 11 U<|cw<|RK J<|bT U<|bM<|ag<|ag<|aG<|aK<|KK O<|au<|rP 3 [] mn ?_
  refine aD ?_
  refine bj (M ⟨((i+1),q),⟨I,B,C,by exact H5 I D⟩⟩ _ _ _ U (by simp only []; omega) (bu U) (aN [0]))
 refine dP 2 [] mn ?_
 obtain ⟨x,hx⟩:=aF q j I
 have L:=bJ iC hx
 refine dS (IA j U (aL (n:=l.length) 0 U sq) dJ dc I I) ?_
 refine dS (h_ j 0 (vI x) U bX (aL (n:=q.length) 0 U sm) L U dc U)<|dP 3 [] mn ?_
 obtain ⟨y,hy⟩:=aF q (j-1) I
 have V:=bJ iC hy
 refine dS (IA (j-1) U (aL (n:=l.length) 0 U sq) dJ dc I I) ?_
 refine dS (h_ (j-1) 0 (vI y) U bX (aL (n:=q.length) 0 U sm) V U dc U)<|dS (CL (KH x y) (aR) U)<|dP 1 [] mn ?_
 refine cw<|RK J<|bO U (aS fun H=>?_) (aT fun H=>?_)
 ·refine bM<|ag<|ag<|aG<|aK<|KK O<|au<|rP 3 [] mn ?_
  refine aD ?_
  refine bj (M ⟨((i+1),q),⟨I,B,C,by exact Ht hx hy I G H D⟩⟩ _ _ _ U (by simp only []; omega) (bu U) (aN [0]))
 refine WK c<|ak fun _ N=>aC<|dx ck [15,16,17] [8,9,12,13,14] [] [] [0] U U U U U<|eS U (MV U)<|eS U (MV U)<|eS U (MV U)<|eS U (MV U)<|eS U (BI U (xx ⟨I,I⟩))<|eS U (MV U)<|eS U (MV U)<|eS U (BI U (xx ⟨I,I⟩)) ?_
 refine fS U (IA (j-1) U (aL (n:=l.length) 0 U sq) dJ dc I I) ?_
 refine fS U (h_ (j-1) 0 (vI y) U bX (aL (n:=q.length) 0 U sm) V U dc U)<|eS U (MV U)<|eS U (MV U) ?_
 refine fS U (IA j U (aL (n:=l.length) 0 U sq) dJ dc I I) ?_
 refine fS U (h_ j 0 (vI x) U bX (aL (n:=q.length) 0 U sm) L U dc U) ?_
 refine fS U (IA j U (aL (n:=l.length) 0 U sq) dJ dc I I) ?_
 refine eo U<|cd U fun T12 P=>gp (k:=j) (o:=0) (vs:=[(vI y)]) (es':=(List.map iC (q.set j y))) (C':=[(own lA lC 3 1 (List.map iC (q.set j y)))]) 0 U U U Cl U U U U L U dc (by exact (List.map_set (f:=iC) (l:=q) (i:=j) (a:=y)).symm) U<|aD (P _ _ (aN []) ?_)
 refine cd U fun T13 R=>?_
 obtain ⟨d,AA⟩:=aF (q.set j y) (j-1) os
 have hx15m:(List.map iC (q.set j y))[(j-1)]? =some (iC d):=by rw [fK,AA]; rfl
 refine rS (IA (j-1) U (aL (n:=l.length) 0 U sq) dJ dc I I) ?_
 refine aD (R _ _ (aN []) ?_)
 refine cd U fun T16 S=>gp (k:=(j-1)) (o:=0) (vs:=[(vI x)]) (es':=(List.map iC ((q.set j y).set (j-1) x))) (C':=[(own lA lC 3 1 (List.map iC ((q.set j y).set (j-1) x)))]) 0 U U U Cl U U U U hx15m U dc (by exact (List.map_set (f:=iC) (l:=(q.set j y)) (i:=(j-1)) (a:=x)).symm) U<|aD (S _ _ (aN []) ?_)
 refine fh U<|aK<|KK N<|au<|rP 3 [] mn ?_
 refine aD ?_
 have T:(vI (((j-1):Nat):Int))=(vI ((j:Int)-1)):=by exact cI I
 refine bj (W ⟨((j-1),((q.set j y).set (j-1) x)),⟨I,by simp; exact B,(GF hx hy).trans C,Jh hx hy I G H D⟩⟩ _ _ _ U (by simp only []; omega) (cN 4<|a_ U T<|dh.nil _) (aN [0]))
theorem LF (x:Int) (hx:0≤x∧x≤100):
 qf Tryz.prog 206 [(Value.int .u64 x)] [] (fun (x:Int)=>(vI x)) (fun (x:Int)=>True) (fun (x:Int)=>[]):=by
 refine fJ kr Tryz.func206 U U fun N Q hQ hN=>?_
 try dsimp only
 refine WS fun _ D=>bx 1 U<|RK D<|ak fun _ E=>WS fun _ F=>rP 1 [] mn ?_
 refine rS (BI U Ed)<|RK F<|cr U (aT fun L=>?_) (aS fun L=>?_)
 ·exfalso; omega
 refine WK E<|ak fun _ G=>WS fun _ H=>rP 1 [] mn ?_
 refine rS (BI U Ed)<|RK H<|cr U (aT fun M=>?_) (aS fun M=>?_)
 ·exfalso; omega
 refine WK G<|ak fun _ AA=>WS fun _ J=>rP 1 [] mn ?_
 refine rS (BI U Ed)<|RK J<|cr U (aT fun C=>?_) (aS fun C=>?_)
 ·exfalso; omega
 refine WK AA<|WS fun _ B=>bx 2 U<|rS (SX (rH (m:=x) U U QA MB (Ax (by first|assumption|omega))) U U)<|Ol (k:=(x).toNat) U U U Un I (Nat.lt_of_lt_of_le (m:=200) I (of_decide_eq_true kr)) U fun A K=>rS (SX (rH (m:=A) U U MB nX (oh (by first|assumption|omega))) U U)<|rP 2 [] mn ?_
 refine RK B<|ao<|LX hQ (0+A) [] [] mn U U U U ?_
 trivial
theorem Oj (x:Int) (hx:0≤x∧x≤100):
 qf Tryz.prog 172 [(Value.int .u64 x)] [] (fun (x:Int)=>(vI x)) (fun (x:Int)=>True) (fun (x:Int)=>[]):=by
 refine fJ kr Tryz.func172 U U fun F Q hQ hN=>?_
 try dsimp only
 refine WS fun _ A=>bx 1 U<|RK A<|ak fun _ B=>bT U<|WK B<|WS fun _ C=>rP 1 [] mn ?_
 refine cX (LF x hx) (aR) U fun E D=>?_
 try dsimp only
 refine rP 1 [] mn ?_
 refine RK C<|ao<|LX hQ E [] [] mn U U U U ?_
 trivial
theorem Qx (l:List Int) (lA:OA) (lC:Nat) (u:Int) (hlen:l.length≤12):
 JP Tryz.prog 171 [(vS lA l.length lC),(vI 0),(vI (l.length:Int)),(vI u)] [] (own lA lC 3 1 (l.map iC)) (fun (x:(List Int))=>(vT [])) (fun (x:(List Int))=>x.Perm l∧x.Pairwise (· ≤ ·)) (fun (x:(List Int))=>(own lA lC 3 1 (x.map iC))):=by
 refine uK kr Tryz.func171 U U fun K Q hQ hN=>?_
 try dsimp only
 refine WS fun _ A=>bx 1 U<|RK A<|WS fun _ B=>bx 1 U<|RK B<|aC<|qB 1<|kT fun R3 AA=>aC<|WS fun _ C=>bx 4 U<|RK C<|ak fun _ H=>WS fun _ D=>rP 2 [] mn ?_
 refine RK D<|bO U (aS fun G=>?_) (aT fun G=>?_)
 ·exfalso; omega
 refine WS fun _ E=>rP 3 [] mn ?_
 refine ob 0 U U U U (Gr l lA lC I) U qZ U (fun J F=>?_)
 try dsimp only
 refine RK E<|ao<|LM hQ J 0 [] mn U U U U ?_
 assumption
theorem Nl (l:List Int) (lA:OA) (lC:Nat) (hlen:l.length≤12):
 JP Tryz.prog 139 [(vS lA l.length lC)] [] (own lA lC 3 1 (l.map iC)) (fun (x:(List Int))=>(vT [])) (fun (x:(List Int))=>x.Perm l∧x.Pairwise (· ≤ ·)) (fun (x:(List Int))=>(own lA lC 3 1 (x.map iC))):=by
 refine uK kr Tryz.func139 U U fun F Q hQ hN=>?_
 try dsimp only
 refine WS fun _ A=>bx 3 U<|RK A<|au<|rP 3 [] mn ?_
 refine rS (SX (rH (m:=(l.length:Int)) U U nX QN (z5 (by first|assumption|omega))) U U)<|cX (Oj (l.length:Int) I) (aR) U fun E B=>?_
 try dsimp only
 refine ob 0 U U U U (Qx l lA lC E hlen) U qZ U (fun D C=>?_)
 try dsimp only
 refine aD<|LM hN D 0 [] mn U U U U ?_
 assumption
end
section
open Go.RowKit
theorem JC (nl:List Int) (nlA:OA) (nlC g1:Nat) (hlen:nl.length≤12):
 qf Tryz.prog 170 [(vS none 0 0),(Value.func (.func 140) [].toArray [(vP g1)].toArray)] [(rd nlA nl.length 1 (nl.map iC)),(cy g1 29 [(vS nlA nl.length nlC)])] (fun (x:(OA)×Nat)=>(vS x.1 nl.length x.2)) (fun (x:(OA)×Nat)=>True) (fun (x:(OA)×Nat)=>[(own x.1 x.2 3 1 (nl.map iC))]):=by
 refine fJ kr Tryz.func170 U U fun R Q hQ hN=>?_
 try dsimp only
 refine WS fun _ D=>xJ U U fun J=>bx 1 U<|RK D<|ak fun _ E=>WS fun _ G=>rP 1 [] mn ?_
 refine RK G<|aC<|jq 1 U (by exact fun _ h=>h)<|jq 3 U (by exact fun _ h=>h)<|fR 3 1 ?_
 refine EO (L0:=[(2,(vP J))]) (F:=[(rd nlA nl.length 1 (nl.map iC)).ro,(cy g1 29 [(vS nlA nl.length nlC)]).ro]) (xs:=(qF nl)) (fun k (y:(OA)×Nat)=>True) (fun k y=>[(own y.1 y.2 3 1 ((nl.take k).map iC)),(cy J 29 [(vS y.1 ((nl.take k).length) y.2)]),(rd nlA nl.length 1 (nl.map iC)).ro]) (fun _ (_:Unit)=>False) (fun _ _=>[]) [0,3,4] [2,1] (none,0) U U (IL nl nlA nlC g1 (by first|assumption|omega|(simp; done))) U U U (by trivial) (by simp only [List.forall_mem_cons,List.not_mem_nil,false_imp_iff,implies_true,and_true]; exact ⟨⟨_,sm,(dI (bY _))⟩,⟨_,sm,(dI (bY _))⟩⟩) (by exact Du) U (bu U) ?_ ?_ (fun _ _ _ h=>h.elim) (fun _ _ h=>h.elim)
 rotate_left 1
 ·rintro O ⟨a,c⟩ AA
  try dsimp only
  rw [yj]
  refine aK<|KK E<|WS fun _ A=>rP 2 [] (mc 4 U mn) ?_
  refine RK A<|ao<|hQ _ _ _ (qH 0 U U<|ke (vs:=[(vS a nl.length c)]) ⟨U,trivial⟩ fun w hs=>NY (a,c) [3] ?_ ?_ U U U hs)
  ·rfl
  ·trivial
 rintro k x ⟨a,c⟩ l ra rb S T K5 Qr6 hx K H B L M
 obtain ⟨y,hy,rfl⟩:=Gf hx
 try dsimp only
 refine au<|rP 1 [] mn ?_
 refine aD<|bj (H _ _ ?_)
 refine aC<|au<|rP 2 [] (mc 2 U mn) ?_
 refine eP (xs:=[.tmp 9]) (cs:=[(vI y)]) U dJ kJ U U U U (by simp [Value.cells]) U U fun P=>?_
 refine dA (es2:=(List.map iC (nl.take (k+1)))) (m':=(nl.take (k+1)).length) 2 U U U qz U U sm (bq (es:=List.map iC [y]) 0 U U (by simp [bU]) U) (kG _) (by simp; omega) (by simp [maxLen]; omega) (by rw [DA hy]; simp) sm U fun N C=>?_
 try dsimp only
 refine Ul U F3 U U<|aD<|aK ?_
 exact B (N,C) _ _ (by trivial) (aN [1,2,3,4])
theorem Gz (nl:List Int) (nlA:OA) (nlC g1:Nat) (hlen:nl.length≤12):
 qf Tryz.prog 138 [(Value.func (.func 140) [].toArray [(vP g1)].toArray)] [(rd nlA nl.length 1 (nl.map iC)),(cy g1 29 [(vS nlA nl.length nlC)])] (fun (x:(OA)×Nat)=>(vS x.1 nl.length x.2)) (fun (x:(OA)×Nat)=>True) (fun (x:(OA)×Nat)=>[(own x.1 x.2 3 1 (nl.map iC))]):=by
 refine fJ kr Tryz.func138 U U fun G Q hQ hN=>?_
 try dsimp only
 refine WS fun _ A=>bx 1 U<|RK A<|WS fun _ B=>rP 1 [] mn ?_
 refine cX (JC nl nlA nlC g1 hlen) (br [0,1]) U fun F E=>?_
 obtain ⟨C,D⟩:=F
 try dsimp only
 refine rP 1 [] mn ?_
 refine RK B<|ao<|LX hQ (C,D) [0] [] mn U U U U ?_
 trivial
theorem HF (nl:List Int) (nlA:OA) (nlC g1:Nat) (hlen:nl.length≤12):
 qf Tryz.prog 112 [(Value.func (.func 140) [].toArray [(vP g1)].toArray)] [(rd nlA nl.length 1 (nl.map iC)),(cy g1 29 [(vS nlA nl.length nlC)])] (fun (x:(OA)×Nat)=>(vS x.1 nl.length x.2)) (fun (x:(OA)×Nat)=>True) (fun (x:(OA)×Nat)=>[(own x.1 x.2 3 1 ((nM nl).map iC))]):=by
 refine fJ kr Tryz.func112 U U fun J Q hQ hN=>?_
 try dsimp only
 refine WS fun _ B=>bx 1 U<|RK B<|WS fun _ C=>rP 1 [] mn ?_
 refine cX (Gz nl nlA nlC g1 hlen) (br [0,1]) U fun AA H=>?_
 obtain ⟨F,G⟩:=AA
 try dsimp only
 refine bx 1 U<|RK C<|WS fun _ D=>rP 1 [] mn ?_
 refine ob 0 U U U U (Nl nl F G hlen) U qZ U (fun m A=>?_)
 try dsimp only
 refine RK D<|WS fun _ E=>?_
 obtain rfl:=BO A.1 A.2
 skip
 refine rP 2 [] mn ?_
 refine RK E<|ao<|LX hQ (F,G) [0] [] mn U U U U ?_
 trivial
end
section
open Go.RowKit
theorem G8 (r:eM) (kA:OA) (kC:Nat) (az:List RA) (cA:OA) (cC:Nat) (bA:OA) (bC:Nat) (slA:OA) (slC:Nat) (drA:OA) (drC:Nat) (ha:List cU) (heA:OA) (heC:Nat) (tz:List RA) (tA:OA) (tC:Nat) (ms:Value) (gw h:Nat) (gm g1 g2:Nat) (hin:lf r az ha) (htz:tz.length=r.aB.length) (hh:h<r.aB.length) (hok:ko r (h+1)):
 JP Tryz.prog 143 [(vI (h:Int)),(vP g1),(vP g2)] [(rd kA r.ar.aO.length 9 (r.ar.aO.map aq.cells)),(rd cA r.ar.aj.length 2 (List.zipWith av.cells r.ar.aj az)),(dL (bk av.fu r.ar.aj az)),(rd bA r.ar.ab.length 4 (r.ar.ab.map bL.cells)),(rd slA r.bg.length 1 (r.bg.map iC)),(rd drA r.cm.length 1 (r.cm.map iC)),(rd heA r.aB.length 1 (List.zipWith cz r.aB ha)),(dL (bk eO r.aB ha)),(rd tA ((fT r).length) 1 (List.zipWith LD (fT r) tz)),(dL (bk O0 (fT r) tz)),(cy gw 157 (ky.cells (ky.mk (xH r kA kC cA cC bA bC slA slC drA drC heA heC) (bK.mk tA ((fT r).length) tC) ms))),(cy g1 149 [(vP gw)]),(cy g2 155 [(Value.map (some gm))])] (ks iV gm (cR jZ (eA r.ar r.aB r.bg.length h 0))) (fun (x:Unit)=>(vT [])) (fun (x:Unit)=>True) (fun (x:Unit)=>(ks iV gm (cR jZ (eA r.ar r.aB r.bg.length (h+1) 0)))):=by
 have v:=hin.line
 have A6:=hin.gQ
 have A7:=hin.has
 have A0:=hin.gX
 have AC:=hin.draw
 have A1:=jE (r:=r)
 refine uK kr Tryz.func143 U U fun w0 Q hQ hN=>?_
 try dsimp only
 refine WS fun _ g=>er 1 [] (mr 12 U mn) U<|rS (SX (cP U U) U U)<|rP 3 [] (mr 11 U mn) ?_
 obtain ⟨ht,B⟩:=aF r.aB h I
 obtain ⟨A,C⟩:=aF ha h I
 have Z:(List.zipWith cz r.aB ha)[h]? =some (cz ht A):=cZ B C
 have s:=hin.fX _ _ _ B C
 have AO:=s.mq
 have N:=hok h ht I B
 obtain ⟨tr,G⟩:=aF (fT r) h I
 obtain ⟨tra,F⟩:=aF tz h I
 have c:(List.zipWith LD (fT r) tz)[h]? =some (LD tr tra):=cZ G F
 refine rS (IA h U (ax 9 U) GG dc I I)<|rS (h_ h 0 (vS tra.1 tr.length tra.2) U bX (ax 9 U) c U dc U) ?_
 have AB:=F9 B G
 have A3:tr.length=r.bg.length:=by rw [AB,List.length_map]; exact N.1
 have A2:=N.1
 refine rP 2 [] mn ?_
 refine RK g<|aC ?_
 have E:(0≤r.bg.length):=by exact Nat.zero_le _
 refine bQ (ι:={z:Nat // (z≤r.bg.length)}) [0,1,2,14,15] [1,2,3,4,5,6,7,8,9,10,11,12,13] U U (fun z=>[(16,(vI (z.1:Int)))]) (fun z=>[(ks iV gm (cR jZ (eA r.ar r.aB r.bg.length h z.1)))]) (fun _=>rfl) (fun _=>rfl) (fun z=>r.bg.length-z.1) ⟨0,E⟩ (bu U) (aN [1,2,3,4,5,6,7,8,9,10,11,12,13,0]) ?_
 clear E
 rintro ⟨i,u⟩ J2 K
 try dsimp only
 have a:i<r.bg.length→(eA r.ar r.aB r.bg.length h i).lookup (i:Int)=j2 r.ar r.aB i h:=Ii
 refine WS fun _ k=>rP 1 [] mn ?_
 refine RK k<|ak fun _ m=>bO U (aS fun h5=>?_) (aT fun h5=>?_)
 ·refine bM<|ag<|ag<|aG ?_
  rw [show (eA r.ar r.aB r.bg.length h i)=(eA r.ar r.aB r.bg.length (h+1) 0) from by rw [show i=r.bg.length by omega]; exact Ku]
  refine LM hN () 13 [] mn U U U U ?_
  trivial
 refine WK m<|ak fun _ L=>aC<|WS fun _ n=>rP 1 [] mn ?_
 obtain ⟨x,hx⟩:=aF tr i I
 have y:=bJ ai.cells hx
 refine rS (IA i U (show hH _ (rd tra.1 tr.length 2 (tr.map ai.cells)).holds from (cj 9 U (bD G F (by simp [O0])))) lq dc I I)<|rS (jL i 0 (ai.cells x) U bX (show hH _ (rd tra.1 tr.length 2 (tr.map ai.cells)).holds from (cj 9 U (bD G F (by simp [O0])))) y U dc U U)<|AL U dV fun b8=>bx 1 U<|fj U cT U<|RK n<|WS fun _ o=>er 2 [] (mr 13 U mn) U<|rS (SX (sL (kV:=iV) (x:=(i:Int)) (l:=(eA r.ar r.aB r.bg.length h i)) (f:=jZ) (z:=(ai.mk 0 0)) U U U rX (iL nX) TC (by exact ax 14 U)) U U)<|bx 3 U<|AL U dV fun A4=>fj U cT U<|bx 1 U<|RK o<|ak fun _ P=>WS fun _ H=>er 1 [] (mr 13 U mn) U<|rS (SX (cP U U) U U)<|er 4 [] (mr 12 U mn) U<|rS (IA h U (ax 8 U) lZ dc I I)<|rS (h_ h 0 (vS A.1.1 ht.length A.1.2) U bX (ax 8 U) Z U dc U)<|rP 1 [] mn ?_
 obtain ⟨d,hd⟩:=aF ht i I
 obtain ⟨da,p⟩:=aF A.2 i I
 have q:(List.zipWith aw.cells ht A.2)[i]? =some (aw.cells d da):=cZ hd p
 refine rS (IA i U (show hH _ (rd A.1.1 ht.length 7 (List.zipWith aw.cells ht A.2)).holds from (cj 9 U (bD B C ct))) qk dc I I)<|rS (oL (i*7) U (show hH _ (rd A.1.1 ht.length 7 (List.zipWith aw.cells ht A.2)).holds from (cj 9 U (bD B C ct))) (Nat.mul_pos I dc) eV U)<|rS (h_ i 0 (vB d.Out) U bX (show hH _ (rd A.1.1 ht.length 7 (List.zipWith aw.cells ht A.2)).holds from (cj 9 U (bD B C ct))) q U dc U)<|rP 1 [] mn ?_
 refine bP (t:=39) U (fun J=>?_) (fun J=>?_)
 ·refine bx 3 U<|RK H<|aI U<|WS fun _ R=>rP 2 [] (mr 14 U mn) ?_
  have T:(fg (eA r.ar r.aB r.bg.length h i) (i:Int))=(eA r.ar r.aB r.bg.length h (i+1)):=by exact EV (by exact FB B hd J)
  refine sr (kV:=iV) (x:=(i:Int)) (C':=[_,_,_,_,_,_,_,_,_,_,_,_,_,_,_,(ks iV gm (cR jZ (eA r.ar r.aB r.bg.length h (i+1))))]) 15 U U U U rX (iL nX) U ((nK _ _ _).symm.trans (congrArg _ T)) U<|RK R<|bM<|ag<|aG<|KK L<|au<|rP 2 [] mn ?_
  refine aD ?_
  have AA:(vI (((i+1):Nat):Int))=(vI ((i:Int)+1)):=by exact cI I
  refine bj (K ⟨(i+1),(by first|omega|(simp only []; omega))⟩ _ _ _ U os (cN 5<|a_ U AA<|dh.nil _) (aN [2,3,4,5,6,7,8,9,10,11,12,13,14,15]))
 refine rP 3 [] mn ?_
 refine RK H<|cr U (fun D=>?_) (fun D=>?_)
 ·rw [Bool.not_eq_true'] at D
  refine WS fun _ S=>rP 2 [] (mr 14 U mn) ?_
  have V:(fg (eA r.ar r.aB r.bg.length h i) (i:Int))=(eA r.ar r.aB r.bg.length h (i+1)):=by exact EV (by exact Ct ((a I).symm.trans (Option.not_isSome_iff_eq_none.1 (by rw [D]; decide))))
  refine sr (kV:=iV) (x:=(i:Int)) (C':=[_,_,_,_,_,_,_,_,_,_,_,_,_,_,_,(ks iV gm (cR jZ (eA r.ar r.aB r.bg.length h (i+1))))]) 15 U U U U rX (iL nX) U ((nK _ _ _).symm.trans (congrArg _ V)) U<|RK S<|bM<|ag<|aG<|KK L<|au<|rP 2 [] mn ?_
  refine aD ?_
  have W:(vI (((i+1):Nat):Int))=(vI ((i:Int)+1)):=by exact cI I
  refine bj (K ⟨(i+1),(by first|omega|(simp only []; omega))⟩ _ _ _ U os (cN 5<|a_ U W<|dh.nil _) (aN [2,3,4,5,6,7,8,9,10,11,12,13,14,15]))
 rw [Bool.not_eq_false'] at D
 refine WK P<|au ?_
 obtain ⟨O,b⟩:=Option.isSome_iff_exists.1 D
 have M:j2 r.ar r.aB i h=some O:=(a I).symm.trans b
 have e:=Ot AB hx hd
 have A8:=D4 (fun j x hj hx=>hok j x I hx) I M
 have w:=ER (N.2 d (aP hd))
 rw [← e] at w
 rw [show ((List.lookup (i:Int) (eA r.ar r.aB r.bg.length h i)).getD (ai.mk 0 0))=O from by rw [b]; rfl]
 refine er 6 [0,1,2] (mr 14 U (mc 0 U (mc 1 U mn))) U<|rS (BI U (tU I I I))<|er 5 [0,1] (mc 0 U (mc 1 U mn)) U<|rS (BI U (tU I I I))<|rP 1 [] mn ?_
 refine rS (SX (bG (xs:=[(0,.tmp 52),(1,.tmp 58)]) (cs:=(ai.cells (ai.mk (O.Lo+(x.Lo/10)) (O.Hi+(x.Hi/10))))) U U (bH gU U)) U U) ?_
 have X:(eD (eA r.ar r.aB r.bg.length h i) (i:Int) (ai.mk (O.Lo+(x.Lo/10)) (O.Hi+(x.Hi/10))))=(eA r.ar r.aB r.bg.length h (i+1)):=by exact L5 I (by rw [M]; rfl) (by rw [e]; exact C7 B hd (by rw [J]; decide) M)
 refine jt (kV:=iV) (x:=(i:Int)) (C':=[_,_,_,_,_,_,_,_,_,_,_,_,_,_,_,(ks iV gm (cR jZ (eA r.ar r.aB r.bg.length h (i+1))))]) 15 U U U U rX (iL nX) U ((gN _ _ _ _).symm.trans (congrArg _ X)) U<|aD<|aK<|KK L<|au<|rP 2 [] mn ?_
 refine aD ?_
 have Y:(vI (((i+1):Nat):Int))=(vI ((i:Int)+1)):=by exact cI I
 refine bj (K ⟨(i+1),(by first|omega|(simp only []; omega))⟩ _ _ _ U os (cN 5<|a_ U Y<|dh.nil _) (aN [2,3,4,5,6,7,8,9,10,11,12,13,14,15]))
theorem Rs (r:eM) (kA:OA) (kC:Nat) (az:List RA) (cA:OA) (cC:Nat) (bA:OA) (bC:Nat) (slA:OA) (slC:Nat) (drA:OA) (drC:Nat) (ha:List cU) (heA:OA) (heC:Nat) (tz:List RA) (tA:OA) (tC:Nat) (ms:Value) (gw n:Nat) (hin:lf r az ha) (htz:tz.length=r.aB.length) (hn:n≤r.aB.length) (hok:ko r n):
 qf Tryz.prog 115 [(vP gw),(vI (n:Int))] [(rd kA r.ar.aO.length 9 (r.ar.aO.map aq.cells)),(rd cA r.ar.aj.length 2 (List.zipWith av.cells r.ar.aj az)),(dL (bk av.fu r.ar.aj az)),(rd bA r.ar.ab.length 4 (r.ar.ab.map bL.cells)),(rd slA r.bg.length 1 (r.bg.map iC)),(rd drA r.cm.length 1 (r.cm.map iC)),(rd heA r.aB.length 1 (List.zipWith cz r.aB ha)),(dL (bk eO r.aB ha)),(rd tA ((fT r).length) 1 (List.zipWith LD (fT r) tz)),(dL (bk O0 (fT r) tz)),(cy gw 157 (ky.cells (ky.mk (xH r kA kC cA cC bA bC slA slC drA drC heA heC) (bK.mk tA ((fT r).length) tC) ms)))] (fun (x:Nat)=>(Value.map (some x))) (fun (x:Nat)=>True) (fun (x:Nat)=>[(ks iV x (cR jZ (Ap r n)))]):=by
 have c:=hin.line
 have m:=hin.gQ
 have o:=hin.has
 have e:=hin.gX
 have d:=hin.draw
 have f:=jE (r:=r)
 refine fJ kr Tryz.func115 U U fun q Q hQ hN=>?_
 try dsimp only
 refine WS fun _ V=>xJ U U fun k=>rP 1 [] mn ?_
 refine RK V<|WS fun _ W=>mH (kV:=iV) U U fun B=>?_
 try dsimp only
 refine AL U Qp fun l=>LY U EY U U<|RK W<|ak fun _ X=>WS fun _ Y=>er 1 [] (mc 2 U mn) U<|rS (SX (cP U U) U U)<|rP 5 [] (mr 13 U mn) ?_
 refine RK Y<|aC ?_
 skip
 have A:(0≤r.bg.length):=by exact Nat.zero_le _
 refine bQ (ι:={z:Nat // (z≤r.bg.length)}) [1,2,5,15] [0,2,3,4,5,6,7,8,9,10,11,12,13] U U (fun z=>[(16,(vI (z.1:Int)))]) (fun z=>[(ks iV B (cR jZ (eA r.ar r.aB z.1 0 0)))]) (fun _=>rfl) (fun _=>rfl) (fun z=>r.bg.length-z.1) ⟨0,A⟩ (bu U) (aN [0,2,3,4,5,6,7,8,9,10,11,12,13,1]) ?_
 clear A
 rintro ⟨i,a⟩ J8 AA
 try dsimp only
 refine WS fun _ Z=>rP 1 [] mn ?_
 refine RK Z<|ak fun _ D=>cr U (aT fun S=>?_) (aS fun S=>?_)
 ·refine WK D<|ak fun _ E=>aC<|WS fun _ F=>bx 2 U<|RK F<|au<|rP 2 [] (mc 0 U mn) ?_
  refine rS (SX (bG (xs:=[]) (cs:=(ai.cells (ai.mk 0 0))) U U (bH gU U)) U U) ?_
  have O:(eD (eA r.ar r.aB i 0 0) (i:Int) (ai.mk 0 0))=(eA r.ar r.aB (i+1) 0 0):=by exact LQ
  refine jt (kV:=iV) (x:=(i:Int)) (C':=[_,_,_,_,_,_,_,_,_,_,_,_,_,(ks iV B (cR jZ (eA r.ar r.aB (i+1) 0 0)))]) 13 U U U U rX (iL nX) U ((gN _ _ _ _).symm.trans (congrArg _ O)) U<|aD<|aK<|KK E<|au<|rP 2 [] mn ?_
  refine aD ?_
  have P:(vI (((i+1):Nat):Int))=(vI ((i:Int)+1)):=by exact cI I
  refine bj (AA ⟨(i+1),(by first|omega|(simp only []; omega))⟩ _ _ _ U os (cN 4<|a_ U P<|dh.nil _) (aN [0,1,2,3,4,5,6,7,8,9,10,11,12,13]))
 refine bM<|ag<|ag<|aG<|KK X<|WS fun _ G=>rS (FU U)<|bx 1 U<|RK G<|ak fun _ H=>WS fun _ AB=>rP 2 [] mn ?_
 refine RK AB<|aC ?_
 rw [show (eA r.ar r.aB i 0 0)=(eA r.ar r.aB r.bg.length 0 0) from by rw [show i=r.bg.length by omega]]
 have A:(0≤n):=by exact Nat.zero_le _
 refine bQ (ι:={z:Nat // (z≤n)}) [2,5,7,24] [0,1,2,3,4,5,6,7,8,9,10,11,12] U U (fun z=>[(25,(vI (z.1:Int)))]) (fun z=>[(ks iV B (cR jZ (eA r.ar r.aB r.bg.length z.1 0)))]) (fun _=>rfl) (fun _=>rfl) (fun z=>n-z.1) ⟨0,A⟩ (bu U) (aN [0,1,2,3,4,5,6,7,8,9,10,11,12,13]) ?_
 clear A
 rintro ⟨h,b⟩ J19 C
 try dsimp only
 refine WS fun _ J=>rP 1 [] mn ?_
 refine RK J<|ak fun _ K=>bO U (aS fun T=>?_) (aT fun T=>?_)
 ·refine bM<|ag<|ag<|aG<|KK H<|ak fun _ N=>?_
  rw [show (eA r.ar r.aB r.bg.length h 0)=(Ap r n) from by rw [show h=n by omega]; exact Ls]
  refine au<|rP 2 [] (mc 0 U mn) ?_
  refine RK N<|ao<|LX hQ B [13] [] mn U U U U ?_
  trivial
 refine WK K<|ak fun _ L=>aC<|WS fun _ M=>bx 2 U<|RK M<|au<|rP 2 [] mn ?_
 refine ob 13 U U U U (G8 r kA kC az cA cC bA bC slA slC drA drC ha heA heC tz tA tC ms gw h B k l hin htz I (by exact fun j x hj hx=>hok j x I hx)) U (ep 2 U U (dI (bY _)) (ep 3 U U (dI (bY _)) (ep 4 U U (dI (bY _)) (ep 5 U U (dI (bY _)) (ep 6 U U (dI (bY _)) (ep 7 U U (dI (bY _)) (ep 8 U U (dI (bY _)) (ep 9 U U (dI (bY _)) (ep 10 U U (dI (bY _)) (ep 11 U U (dI (bY _)) (ep 12 U U (dI (bY _)) (ep 1 U U (bY _) (ep 0 U U (bY _) qZ))))))))))))) U (fun p g=>?_)
 try dsimp only
 refine aD<|aK<|KK L<|au<|rP 2 [] mn ?_
 refine aD ?_
 have R:(vI (((h+1):Nat):Int))=(vI ((h:Int)+1)):=by exact cI I
 refine bj (C ⟨(h+1),(by first|omega|(simp only []; omega))⟩ _ _ _ U os (cN 4<|a_ U R<|dh.nil _) (aN [0,1,2,3,4,5,6,7,8,9,10,11,12,13]))
end
section
open Go.RowKit
theorem Kl (r:eM) (kA:OA) (kC:Nat) (az:List RA) (cA:OA) (cC:Nat) (bA:OA) (bC:Nat) (slA:OA) (slC:Nat) (drA:OA) (drC:Nat) (ha:List cU) (heA:OA) (heC:Nat) (hin:lf r az ha):
 qf Tryz.prog 80 [(vA (fF.cells (xH r kA kC cA cC bA bC slA slC drA drC heA heC)))] [(rd jm 3 2 g6),(rd kA r.ar.aO.length 9 (r.ar.aO.map aq.cells)),(rd cA r.ar.aj.length 2 (List.zipWith av.cells r.ar.aj az)),(dL (bk av.fu r.ar.aj az)),(rd bA r.ar.ab.length 4 (r.ar.ab.map bL.cells)),(rd slA r.bg.length 1 (r.bg.map iC)),(rd drA r.cm.length 1 (r.cm.map iC)),(rd heA r.aB.length 1 (List.zipWith cz r.aB ha)),(dL (bk eO r.aB ha))] (fun (x:Bool×Int×Nat×Nat×(OA)×Nat×(List RA))=>bif x.1 then (vT [(Value.pointer (some ⟨x.2.2.1,0,none⟩)),(vI 0)]) else (vT [(Value.pointer none),(vI x.2.1)])) (fun (x:Bool×Int×Nat×Nat×(OA)×Nat×(List RA))=>(x.1=true→(j9 r=0∧x.2.2.2.2.2.2.length=r.aB.length))∧(x.1=false→(x.2.1=j9 r∧ ¬ j9 r=0))) (fun (x:Bool×Int×Nat×Nat×(OA)×Nat×(List RA))=>bif x.1 then [(cy x.2.2.1 157 (ky.cells (ky.mk (xH r kA kC cA cC bA bC slA slC drA drC heA heC) (bK.mk x.2.2.2.2.1 ((fT r).length) x.2.2.2.2.2.1) (Value.map (some x.2.2.2.1))))),(own x.2.2.2.2.1 x.2.2.2.2.2.1 153 1 (List.zipWith LD (fT r) x.2.2.2.2.2.2)),(bS (bk D9 (fT r) x.2.2.2.2.2.2)),(ks iV x.2.2.2.1 (cR jZ (MH r)))] else []):=by
 have LA:=hin.line
 have OG:=hin.gQ
 have OQ:=hin.has
 have L3:=hin.gX
 have L0:=hin.draw
 have GE:=jE (r:=r)
 refine fJ kr Tryz.func80 U U fun w0 Q hQ hN=>?_
 try dsimp only
 refine WS fun _ J4=>ed U fun b2=>bx 2 U<|RK J4<|ak fun _ J5=>WS fun _ J6=>bx 1 U<|rS (LP (cu.cells (jr r.ar kA kC cA cC bA bC)) 0 U bX U U U)<|rS (CL (xr r.ar kA kC az cA cC bA bC asm) (br [2,3,4,5]) U)<|bx 1 U<|RK J6<|WS fun _ J7=>rP 2 [] mn ?_
 refine RK J7<|cr U (aW fun B=>?_) (aV fun B=>?_)
 ·refine WS fun _ J8=>rP 3 [] mn ?_
  refine RK J8<|ao<|LX hQ (false,(dM r.ar),0,0,none,0,[]) [] [] mn U (by rfl) U U ?_
  exact vO<|EC (yu B) B
 refine WK J5<|WS fun _ J9=>er 4 [] (mc 0 U mn) U<|RK J9<|WS fun _ K0=>rP 2 [] (mc 0 U mn) ?_
 refine cX (Jf drA r.cm.length drC) (aR) U fun HY Ms=>?_
 try dsimp only
 refine cX (HF r.cm drA drC HY asm) (br [8,0]) U fun Lw M0=>?_
 obtain ⟨M3,OF⟩:=Lw
 try dsimp only
 refine bx 1 U<|RK K0<|ak fun _ e=>WS fun _ H=>rP 1 [] mn ?_
 refine eP (xs:=[.tmp 29]) (cs:=[(vI (r.bg.length:Int))]) U dJ kJ U U U U (by simp [Value.cells]) U U fun Hi=>?_
 refine rS (CL (dF.eq (tQ 1 5 ([(r.bg.length:Int)]) (some ⟨Hi,0,none⟩) 1 (by (simp; done))) cD) (aQ (bq 0 U U (by simp [bU]) U)<|aR) U) ?_
 refine rP 2 [] mn ?_
 refine bP (t:=33) U (aW fun IR=>?_) (aV fun IR=>?_)
 ·refine bx 26 U<|RK H<|aI U<|WS fun _ f=>rP 2 [] mn ?_
  refine RK f<|ao<|LX hQ (false,60,0,0,none,0,[]) [] [] mn U (by rfl) U U ?_
  exact vO<|nv (kO B (fun q:fM r=>by have q1:=q.num; have q2:=q.zM; have q3:=q.nh; have q4:=q.zz; omega))
 refine rP 6 [] mn ?_
 refine bP (t:=39) U (aW fun Id=>?_) (aV fun Id=>?_)
 ·refine bx 20 U<|RK H<|aI U<|WS fun _ g=>rP 2 [] mn ?_
  refine RK g<|ao<|LX hQ (false,60,0,0,none,0,[]) [] [] mn U (by rfl) U U ?_
  exact vO<|nv (kO B (fun q:fM r=>by have q1:=q.num; have q2:=q.zM; have q3:=q.nh; have q4:=q.zz; omega))
 refine rP 2 [] (mc 3 U mn) ?_
 refine eP (xs:=[.tmp 41]) (cs:=[(vI r.kY)]) U dJ kJ U U U U (by simp [Value.cells]) U U fun Ho=>?_
 refine rS (CL (dF.eq (tQ 0 5 ([r.kY]) (some ⟨Ho,0,none⟩) 1 (by (simp; done))) cD) (aQ (bq 0 U U (by simp [bU]) U)<|aR) U) ?_
 refine rP 3 [] mn ?_
 refine bP (t:=46) U (aW fun If=>?_) (aV fun If=>?_)
 ·refine bx 13 U<|RK H<|aI U<|WS fun _ k=>rP 2 [] mn ?_
  refine RK k<|ao<|LX hQ (false,60,0,0,none,0,[]) [] [] mn U (by rfl) U U ?_
  exact vO<|nv (kO B (fun q:fM r=>by have q1:=q.num; have q2:=q.zM; have q3:=q.nh; have q4:=q.zz; omega))
 refine rP 3 [] (mc 4 U mn) ?_
 refine eP (xs:=[.tmp 49]) (cs:=[(vI (r.aB.length:Int))]) U dJ kJ U U U U (by simp [Value.cells]) U U fun H1=>?_
 refine rS (CL (dF.eq (tQ 1 3 ([(r.aB.length:Int)]) (some ⟨H1,0,none⟩) 1 (by (simp; done))) cD) (aQ (bq 0 U U (by simp [bU]) U)<|aR) U) ?_
 refine rP 3 [] mn ?_
 refine bP (t:=54) U (aW fun In=>?_) (aV fun In=>?_)
 ·refine bx 5 U<|RK H<|aI U<|WS fun _ l=>rP 2 [] mn ?_
  refine RK l<|ao<|LX hQ (false,60,0,0,none,0,[]) [] [] mn U (by rfl) U U ?_
  exact vO<|nv (kO B (fun q:fM r=>by have q1:=q.num; have q2:=q.zM; have q3:=q.nh; have q4:=q.zz; omega))
 refine er 2 [] (mc 5 U mn) U<|rS (CL (tQ 0 9999 r.bg slA slC asm) (br [11]) U)<|rP 2 [] mn ?_
 refine RK H<|cr U (fun N=>?_) (fun N=>?_)
 ·rw [Bool.not_eq_true'] at N
  refine WS fun _ m=>rP 2 [] mn ?_
  refine RK m<|ao<|LX hQ (false,60,0,0,none,0,[]) [] [] mn U (by rfl) U U ?_
  exact vO<|nv (kO B (fun q:fM r=>by exact absurd (q.ins.symm.trans N) dc))
 rw [Bool.not_eq_false'] at N
 refine WK e<|ak fun _ o=>WS fun _ p=>?_
 have OT:(nM r.cm).length=r.bg.length:=by rw [sT]; omega
 refine rP 2 [] mn ?_
 refine RK p<|aC ?_
 have A:(0≤r.bg.length)∧(rh r 0):=by exact ⟨Nat.zero_le _,CI⟩
 refine bQ (ι:={z:Nat // (z≤r.bg.length)∧(rh r z)}) [1,5,6,60] [3,5,6,7,8,9,10,11,12,13,14] U U (fun z=>[(61,(vI (z.1:Int)))]) (fun z=>[]) (fun _=>rfl) (fun _=>rfl) (fun z=>r.bg.length-z.1) ⟨0,A⟩ (bu U) (aN [3,5,6,7,8,9,10,11,12,13,14]) ?_
 clear A
 rintro ⟨i,⟨K8,J⟩⟩ J28 V
 try dsimp only
 refine WS fun _ s=>rP 1 [] mn ?_
 refine RK s<|ak fun _ w=>cr U (aT fun Ji=>?_) (aS fun Ji=>?_)
 ·refine WK w<|ak fun _ W=>aC<|WS fun _ AC=>bx 2 U<|RK AC<|ak fun _ O=>cW ck 24 kr<|dP 2 [] mn ?_
  obtain ⟨x,hx⟩:=aF (nM r.cm) i I
  have LE:=bJ iC hx
  refine dS (IA i U (aL (n:=r.cm.length) 0 U sq) dJ dc I I) ?_
  refine dS (h_ i 0 (vI x) U bX (aL (n:=(nM r.cm).length) 0 U sm) LE U dc U)<|dP 3 [] mn ?_
  refine g9 (t:=70) U (aW fun S=>?_) (aV fun S=>?_)
  ·refine kx 17 U<|cw<|RK O<|aI U<|WS fun _ AO=>rP 2 [] mn ?_
   refine RK AO<|ao<|LX hQ (false,60,0,0,none,0,[]) [] [] mn U (by rfl) U U ?_
   exact vO<|nv (kO B (fun q:fM r=>by exact absurd (q.drawn hx) S))
  refine dP 3 [] mn ?_
  refine g0 (t:=73) U (aS fun Jr=>?_) (aT fun Jr=>?_)
  ·refine kx 14 U<|cw<|RK O<|bT U<|cp<|aK<|KK W<|au<|rP 2 [] mn ?_
   refine aD ?_
   have EQ:(vI (((i+1):Nat):Int))=(vI ((i:Int)+1)):=by exact cI I
   refine bj (V ⟨(i+1),⟨I,wx J hx S (fun u v hu hv hw=>by omega)⟩⟩ _ _ _ U os (cN 4<|a_ U EQ<|dh.nil _) (aN [0,1,2,3,4,5,6,7,8,9,10]))
  refine dP 3 [] (mc 1 U mn) ?_
  obtain ⟨y,hy⟩:=aF r.bg i I
  have LT:=bJ iC hy
  refine dS (IA i U (ax 7 U) dJ dc I I)<|dS (h_ i 0 (vI y) U bX (ax 7 U) LT U dc U)<|dP 4 [] (mc 1 U mn) ?_
  obtain ⟨z,hz⟩:=aF r.bg (i-1) I
  have La:=bJ iC hz
  refine dS (IA (i-1) U (ax 7 U) dJ dc I I)<|dS (h_ (i-1) 0 (vI z) U bX (ax 7 U) La U dc U)<|dP 3 [] mn ?_
  refine cw<|RK O<|bO U (aS fun J2=>?_) (aT fun J2=>?_)
  ·refine cp<|aK<|KK W<|au<|rP 2 [] mn ?_
   refine aD ?_
   have Do:(vI (((i+1):Nat):Int))=(vI ((i:Int)+1)):=by exact cI I
   refine bj (V ⟨(i+1),⟨I,wx J hx S (fun u v hu hv hw=>by (rw [hy] at hu; cases hu; rw [hz] at hw; cases hw; omega))⟩⟩ _ _ _ rfl os (cN 4<|a_ rfl Do<|dh.nil _) (aN [0,1,2,3,4,5,6,7,8,9,10]))
  refine WS fun _ A0=>rP 2 [] mn ?_
  refine RK A0<|ao<|LX hQ (false,60,0,0,none,0,[]) [] [] mn U (by rfl) U U ?_
  exact vO<|nv (kO B (fun q:fM r=>by have q1:=(q.ids i y hy).2 z I hz; omega))
 refine bM<|ag<|ag<|aG<|KK o<|WS fun _ A1=>er 1 [] (mc 1 U mn) U<|rS (SX (bG (xs:=[(0,.tmp 89)]) (cs:=(ky.cells (ky.mk (xH r kA kC cA cC bA bC slA slC drA drC heA heC) (bK.mk none 0 0) (Value.map none)))) U U (bH QH U)) U U)<|ed U fun L=>bx 1 U<|RK A1<|ak fun _ A2=>WS fun _ A3=>rP 4 [] (mc 2 U mn) ?_
 refine RK A3<|aC<|fR 153 1<|mP ?_
 have A:(0≤r.aB.length)∧(([]:List RA).length=0)∧(ko r 0):=by exact ⟨Nat.zero_le _,rfl,wv⟩
 refine bQ (ι:={z:Nat×(List RA)×(OA)×Nat // (z.1≤r.aB.length)∧(z.2.1.length=z.1)∧(ko r z.1)}) [1,5,8,93,94] [3,4,5,6,7,8,9,10,11,12,13] U U (fun z=>[(95,(vI (z.1.1:Int)))]) (fun z=>[(bS (bk D9 (gY r z.1.1) z.1.2.1)),(own z.1.2.2.1 z.1.2.2.2 153 1 (List.map sC (List.zipWith Ag (gY r z.1.1) z.1.2.1))),(cy L 157 (ky.cells (ky.mk (xH r kA kC cA cC bA bC slA slC drA drC heA heC) (bK.mk z.1.2.2.1 ((List.zipWith Ag (gY r z.1.1) z.1.2.1).length) z.1.2.2.2) (Value.map none))))]) (fun _=>rfl) (fun _=>rfl) (fun z=>r.aB.length-z.1.1) ⟨(0,([]:List RA),none,0),A⟩ (bu U) (aN [3,4,5,6,7,8,9,10,11,12,13,0,1,2]) ?_
 clear A
 rintro ⟨⟨h,tz,a,c⟩,⟨T,C,E⟩⟩ J42 Z
 try dsimp only at T C E
 try dsimp only
 refine WS fun _ A4=>rP 1 [] mn ?_
 refine RK A4<|ak fun _ A5=>bO U (aS fun J3=>?_) (aT fun J3=>?_)
 ·refine bM<|ag<|ag<|aG<|KK A2<|ak fun _ DW=>?_
  have K5:gY r h=fT r:=by unfold fT; rw [show h=r.aB.length by omega]
  have GT:tz.length=r.aB.length:=by omega
  rw [K5,yB,show (List.zipWith Ag (fT r) tz).length=(fT r).length from by rw [List.length_zipWith]; omega]
  have X:fM r:=HB (n:=i) I I I I I N J E I
  refine au<|rP 5 [] (mc 1 U mn) ?_
  refine cX (Rs r kA kC az cA cC bA bC slA slC drA drC ha heA heC tz a c (Value.map none) L r.aB.length hin asm I (by exact X.KV)) (lW [3,4,5,6,7,8,9,10]<|aQ (aL (n:=(fT r).length) 12 U (Kb (by rw [GE]; exact GT)))<|aQ (gM 11 U Rk)<|gu 13 U U<|aR) U fun K M2=>?_
  try dsimp only
  refine rS (SX (cP U U) U U)<|rP 1 [] mn ?_
  refine iQ (vs:=[(Value.map (some K))]) (cs':=(ky.cells (ky.mk (xH r kA kC cA cC bA bC slA slC drA drC heA heC) (bK.mk a ((fT r).length) c) (Value.map (some K))))) (C':=[_,_,_,_,_,_,_,_,_,_,_,_,_,_,(cy L 157 (ky.cells (ky.mk (xH r kA kC cA cC bA bC slA slC drA drC heA heC) (bK.mk a ((fT r).length) c) (Value.map (some K)))))]) 14 U U U EY U U U U U U U<|RK DW<|ak fun _ Di=>?_
  rw [show Ap r r.aB.length=MH r from rfl]
  refine au<|rP 3 [] mn ?_
  refine RK Di<|ao ?_
  refine LX hQ (true,0,L,K,a,c,tz) [14,13,12,0] [] mn U (by (show List.all _ _=true; simp only [cond_true,eH,List.all_nil,CS,Bool.and_true]; rfl)) U U ?_
  exact ⟨fun _=>⟨BU B X,GT⟩,OZ⟩
 refine WK A5<|ak fun _ A6=>aC<|WS fun _ A7=>?_
 obtain ⟨ht,D⟩:=aF r.aB h I
 obtain ⟨G,AB⟩:=aF ha h I
 have Fn:(List.zipWith cz r.aB ha)[h]? =some (cz ht G):=cZ D AB
 refine rS (IA h U (ax 9 U) lZ dc I I)<|rS (h_ h 0 (vS G.1.1 ht.length G.1.2) U bX (ax 9 U) Fn U dc U)<|rP 1 [] mn ?_
 refine RK A7<|ak fun _ A8=>WS fun _ A9=>?_
 have Fd:=hin.fX _ _ _ D AB
 have L2:=Fd.mq
 refine rP 4 [] mn ?_
 refine RK A9<|cr U (aW fun Y=>?_) (aV fun Y=>?_)
 ·refine WS fun _ Bv=>rP 2 [] mn ?_
  refine RK Bv<|ao<|LX hQ (false,60,0,0,none,0,[]) [] [] mn U (by rfl) U U ?_
  exact vO<|nv (kO B (fun q:fM r=>by have q1:=(q.fX ht (aP D)).1; omega))
 refine WK A8<|WS fun _ B3=>bx 1 U<|RK B3<|ak fun _ B9=>WS fun _ Ci=>rP 3 [] mn ?_
 refine RK Ci<|aC<|fR 65 2 ?_
 have A:(0≤ht.length)∧(oo r.ar ht 0):=by exact ⟨Nat.zero_le _,vJ⟩
 refine bQ (ι:={z:Nat×(OA)×Nat // (z.1≤ht.length)∧(oo r.ar ht z.1)}) [1,5,8,10,93,94,95,103,104] [1,2,3,4,5,6,7,8,9,10,11,12,13,14] U U (fun z=>[(11,(vS z.1.2.1 (((ht.take z.1.1).map (gi r.ar)).length) z.1.2.2)),(105,(vI (z.1.1:Int)))]) (fun z=>[(own z.1.2.1 z.1.2.2 65 2 (((ht.take z.1.1).map (gi r.ar)).map ai.cells))]) (fun _=>rfl) (fun _=>rfl) (fun z=>ht.length-z.1.1) ⟨(0,none,0),A⟩ (bu U) (aN [1,2,3,4,5,6,7,8,9,10,11,12,13,14,0]) ?_
 clear A
 rintro ⟨⟨j,la,lc⟩,⟨AA,F⟩⟩ J53 b
 try dsimp only at AA F
 try dsimp only
 refine WS fun _ Ck=>rP 1 [] mn ?_
 refine RK Ck<|ak fun _ Cp=>bO U (aS fun Jb=>?_) (aT fun Jb=>?_)
 ·refine bM<|ag<|ag<|aG<|KK B9<|au<|bx 2 U<|rS (SX (cP U U) U U)<|rP 2 [] (mc 13 U mn) ?_
  rw [show ((ht.take j).map (gi r.ar))=ht.map (gi r.ar) from by rw [List.take_of_length_le I]]
  refine rP 1 [] mn ?_
  refine eP (xs:=[.tmp 128]) (cs:=[(vS la ((ht.map (gi r.ar)).length) lc)]) U GG Mn U U U U (by simp [Value.cells]) U U fun OB=>?_
  refine dA (es2:=(List.map sC (List.zipWith Ag (gY r (h+1)) (tz++[(la,lc)])))) (m':=(List.zipWith Ag (gY r (h+1)) (tz++[(la,lc)])).length) 13 U U U Ma U U sm (bq (es:=List.map sC [(bK.mk la ((ht.map (gi r.ar)).length) lc)]) 0 U U (by simp [zc]) U) (IT _) (by rw [List.length_zipWith,kW I]; omega) (by rw [List.length_zipWith,kW I]; simp only [maxLen]; omega) (by rw [tO D C,List.map_append]; rfl) (by rw [tO D C]; simp) U fun P R=>?_
  try dsimp only
  refine rS (SX (cP U U) U U)<|bx 1 U<|iQ (vs:=[(vS P ((List.zipWith Ag (gY r (h+1)) (tz++[(la,lc)])).length) R)]) (cs':=(ky.cells (ky.mk (xH r kA kC cA cC bA bC slA slC drA drC heA heC) (bK.mk P ((List.zipWith Ag (gY r (h+1)) (tz++[(la,lc)])).length) R) (Value.map none)))) (C':=[_,_,_,_,_,_,_,_,_,_,_,_,_,_,(cy L 157 (ky.cells (ky.mk (xH r kA kC cA cC bA bC slA slC drA drC heA heC) (bK.mk P ((List.zipWith Ag (gY r (h+1)) (tz++[(la,lc)])).length) R) (Value.map none)))),_]) 14 U U U Qz U U U U U U U<|aD<|aK<|KK A6<|au<|rP 2 [] mn ?_
  refine aD<|wV (X':=bk D9 (gY r (h+1)) (tz++[(la,lc)])) 12 15 U U (Bu (a:=(la,lc)) D C) ?_
  have FP:(vI (((h+1):Nat):Int))=(vI ((h:Int)+1)):=by exact cI I
  refine bj (Z ⟨((h+1),(tz++[(la,lc)]),P,R),⟨I,by simp; omega,wO E D (Ei I F I)⟩⟩ _ _ _ U os (cN 5<|a_ U FP<|dh.nil _) (aN [2,3,4,5,6,7,8,9,10,11,12,0,13,14]))
 refine WK Cp<|ak fun _ Cx=>aC<|WS fun _ C0=>?_
 obtain ⟨d,hd⟩:=aF ht j I
 obtain ⟨da,FS⟩:=aF G.2 j I
 have K4:(List.zipWith aw.cells ht G.2)[j]? =some (aw.cells d da):=cZ hd FS
 refine rS (IA j U (show hH _ (rd G.1.1 ht.length 7 (List.zipWith aw.cells ht G.2)).holds from (cj 10 U (bD D AB ct))) qk dc I I)<|rS (jL j 0 (bf.cells (bf.mk d.Out d.cO d.Time (de.mk d.aZ.Start d.aZ.fP (bK.mk da.1 d.aZ.aa.length da.2)))) U bX (show hH _ (rd G.1.1 ht.length 7 (List.zipWith aw.cells ht G.2)).holds from (cj 10 U (bD D AB ct))) K4 U dc U U)<|AL U I3 fun NE=>fj U IN U<|RK C0<|WS fun _ C1=>bx 1 U<|rS (LP (cu.cells (jr r.ar kA kC cA cC bA bC)) 2 U bX U U U)<|rP 1 [] (mc 0 U mn) ?_
 have Oa:=Fd.sig d (aP hd)
 refine rS (CL (Cz r.ar kA kC az cA cC bA bC d da.1 da.2 asm asm) (lW [3,4,5,6,7]<|aQ (show hH _ (rd da.1 d.aZ.aa.length 2 (d.aZ.aa.map aH.cells)).holds from (cj 11 U (bD D AB (dH _ (bD hd FS (by simp [aw.fu]))))))<|aR) U)<|bx 3 U<|AL U dV fun Ne=>fj U cT U<|bx 1 U<|RK C1<|ak fun _ C2=>WS fun _ C3=>rP 2 [] mn ?_
 refine RK C3<|bO U (aV fun M=>?_) (aW fun M=>?_)
 ·refine WK C2<|au<|rP 2 [] (mc 0 U mn) ?_
  refine eP (xs:=[.tmp 119]) (cs:=(ai.cells (gi r.ar d))) U lq dV U U U U (by simp [Value.cells,ai.bB]) U U fun N7=>?_
  refine dA (es2:=(List.map ai.cells ((ht.take (j+1)).map (gi r.ar)))) (m':=((ht.take (j+1)).map (gi r.ar)).length) 17 U U U EA U U sm (bq (es:=List.map ai.cells [(gi r.ar d)]) 0 U U (by simp [ai.bB]) U) (kU _) (by simp only [List.length_map,List.length_take]; omega) (by simp only [maxLen,List.length_map,List.length_take]; omega) (by rw [List.take_add_one,hd]; simp) sq U fun Go IO=>?_
  try dsimp only
  refine bx 1 U<|aD<|aK<|KK Cx<|au<|rP 2 [] mn ?_
  refine aD ?_
  have Eq:(vI (((j+1):Nat):Int))=(vI ((j:Int)+1)):=by exact cI I
  refine bj (b ⟨((j+1),Go,IO),⟨I,vn F hd M⟩⟩ _ _ _ U os (cN 10<|a_ U Eq<|dh.nil _) (aN [3,4,5,6,7,8,9,10,11,12,13,14,15,16,17]))
 refine WS fun _ DE=>rP 2 [] mn ?_
 refine RK DE<|ao<|LX hQ (false,60,0,0,none,0,[]) [] [] mn U (by rfl) U U ?_
 exact vO<|nv (kO B (fun q:fM r=>by exact M ((q.fX ht (aP D)).2 d (aP hd))))
end
section
open Go.RowKit
theorem I6 (r:eM) (kA:OA) (kC:Nat) (az:List RA) (cA:OA) (cC:Nat) (bA:OA) (bC:Nat) (slA:OA) (slC:Nat) (drA:OA) (drC:Nat) (ha:List cU) (heA:OA) (heC:Nat) (hin:lf r az ha):
 dF Tryz.prog 36 [(vA (fF.cells (xH r kA kC cA cC bA bC slA slC drA drC heA heC)))] [(rd jm 3 2 g6),(rd kA r.ar.aO.length 9 (r.ar.aO.map aq.cells)),(rd cA r.ar.aj.length 2 (List.zipWith av.cells r.ar.aj az)),(dL (bk av.fu r.ar.aj az)),(rd bA r.ar.ab.length 4 (r.ar.ab.map bL.cells)),(rd slA r.bg.length 1 (r.bg.map iC)),(rd drA r.cm.length 1 (r.cm.map iC)),(rd heA r.aB.length 1 (List.zipWith cz r.aB ha)),(dL (bk eO r.aB ha))] (vI (j9 r)):=by
 have H:=hin.line
 have R:=hin.gQ
 have S:=hin.has
 have J:=hin.gX
 have AB:=hin.draw
 have K:=jE (r:=r)
 refine bE kr Tryz.func36 U U fun X Q hQ hN=>?_
 try dsimp only
 refine WS fun _ G=>ed U fun W=>bx 1 U<|RK G<|WS fun _ C=>rP 1 [] (mc 0 U mn) ?_
 refine cX (Kl r kA kC az cA cC bA bC slA slC drA drC ha heA heC hin) (br [1,2,3,4,5,6,7,8,9]) U fun V E=>?_
 obtain ⟨F,N,P,O,AA,L,M⟩:=V
 cases F
 rotate_left 1
 ·obtain ⟨he,T⟩:=E.1 rfl
  try dsimp only [cond_true,cond_false,List.cons_append,List.nil_append]
  refine bx 5 U<|RK C<|WS fun _ B=>rP 2 [] mn ?_
  refine RK B<|ao<|Q1 hQ U U U ?_
  first|rfl|(rw [he])
 obtain ⟨D,he⟩:=E.2 rfl
 try dsimp only at D he
 subst D
 try dsimp only [cond_true,cond_false,List.cons_append,List.nil_append]
 refine bx 5 U<|RK C<|WS fun _ A=>rP 2 [] mn ?_
 refine RK A<|ao<|Q1 hQ U U U ?_
 first|rfl|(rw [he])
end
section
open Go.RowKit
theorem GX (n lo hi:Int) (g1 g2:Nat):
 dF Tryz.prog 87 [(vI n),(vP g1),(vP g2)] [(cy g1 3 [(vI lo)]),(cy g2 3 [(vI hi)])] (vB (decide (n<lo∨hi<n))):=by
 refine bE kr Tryz.func87 U U fun D Q hQ hN=>?_
 try dsimp only
 refine WS fun _ B=>bx 1 U<|RK B<|WS fun _ A=>rP 4 [] (mr 0 U mn) ?_
 refine bP (t:=8) U (aT fun C=>?_) (aS fun C=>?_)
 ·refine rP 5 [] mn ?_
  refine RK A<|ao<|Q1 hQ U U U ?_
  exact cB (cJ I).symm
 refine rP 5 [] (mr 1 U mn) ?_
 refine RK A<|ao<|Q1 hQ U U U ?_
 exact cB (gR.2 I)
theorem iP (lo hi:Int) (l:List Int) (lA:OA) (lC:Nat) (hlen:l.length≤1000000):
 dF Tryz.prog 48 [(vI lo),(vI hi),(vS lA l.length lC)] [(rd lA l.length 1 (l.map iC))] (vB (qb lo hi l)):=by
 refine bE kr Tryz.func48 U U fun F Q hQ hN=>?_
 try dsimp only
 refine WS fun _ D=>xJ U U fun A=>xJ U U fun B=>bx 1 U<|RK D<|WS fun _ E=>rP 1 [] mn ?_
 refine rS (FU U) ?_
 refine rS (CL (pY l lA lC (Value.func (.func 87) [].toArray [(vP A),(vP B)].toArray) (fun C=>(decide (C<lo∨hi<C))) (dL [(cy A 3 [(vI lo)]),(cy B 3 [(vI hi)])]) (by intro C _; exact mN (fi:=[]) (ca:=[(vP A),(vP B)]) (lD (GX C lo hi A B) (br [0,1]))) hlen) (gu 2 U U<|aQ (lH (br [1,0]))<|aR) U) ?_
 refine rP 2 [] mn ?_
 refine RK E<|ao ?_
 exact Q1 hQ U U U U
theorem tg (o fx:Bool) (tm:ai) (rv:de):
 dF Tryz.prog 60 [(vA (bf.cells (bf.mk o fx tm rv)))] [] (vB (decide (o=false∧fx=false))):=by
 refine bE kr Tryz.func60 U U fun E Q hQ hN=>?_
 try dsimp only
 refine WS fun _ B=>ed U fun D=>bx 1 U<|RK B<|WS fun _ A=>rP 4 [] (mc 0 U mn) ?_
 refine db (t:=6) U (fun C=>?_) (fun C=>?_)
 ·rw [Bool.not_eq_false'] at C
  refine rP 5 [] mn ?_
  refine RK A<|ao<|Q1 hQ U U U ?_
  clear hQ hN A B
  refine cB ?_
  (simp_all; done)
 rw [Bool.not_eq_true'] at C
 refine rP 5 [] (mc 0 U mn) ?_
 refine RK A<|ao<|Q1 hQ U U U ?_
 clear hQ hN A B
 refine cB ?_
 (simp_all; done)
theorem Lx (l:List aX) (lA:OA) (lC:Nat) (f:Value) (p:Int→aX→Bool) (X:aA) (hf: ∀ x0 x1,(∃ i_:Nat,x0=(i_:Int)∧l[i_]? =some x1)→Ef Tryz.prog f [.int .i64 x0,.agg (aX.cells x1).toArray] [X] (.bool (p x0 x1))) (hlen:l.length≤1000000):
 qf Tryz.prog 58 [(vS lA l.length lC),f] [(rd lA l.length 4 (l.map aX.cells)),X] (fun (x:(OA)×Nat)=>(vS x.1 ((nW (mS l p) l.length).length) x.2)) (fun (x:(OA)×Nat)=>True) (fun (x:(OA)×Nat)=>[(own x.1 x.2 3 1 ((nW (mS l p) l.length).map iC))]):=by
 refine fJ kr Tryz.func58 U U fun Z Q hQ hN=>?_
 try dsimp only
 refine WS fun _ M=>bx 1 U<|RK M<|WS fun _ N=>bx 1 U<|RK N<|ak fun _ O=>WS fun _ R=>rP 3 [] mn ?_
 refine RK R<|aC<|fR 3 1 ?_
 have A:(0≤l.length):=by exact Nat.zero_le _
 refine bQ (ι:={z:Nat×(OA)×Nat // (z.1≤l.length)}) [1,8,9] [1,2] U U (fun z=>[(5,(vS z.1.2.1 ((nW (mS l p) z.1.1).length) z.1.2.2)),(10,(vI (z.1.1:Int)))]) (fun z=>[(own z.1.2.1 z.1.2.2 3 1 ((nW (mS l p) z.1.1).map iC))]) (fun _=>rfl) (fun _=>rfl) (fun z=>l.length-z.1.1) ⟨(0,none,0),A⟩ (bu U) (aN [1,2,0]) ?_
 clear A
 rintro ⟨⟨i,a,c⟩,C⟩ J5 D
 try dsimp only at C
 try dsimp only
 refine WS fun _ S=>rP 1 [] mn ?_
 refine RK S<|ak fun _ T=>bO U (aS fun Y=>?_) (aT fun Y=>?_)
 ·refine bM<|ag<|ag<|aG<|KK O<|WS fun _ G=>?_
  rw [show (nW (mS l p) i)=(nW (mS l p) l.length) from by rw [show i=l.length by omega]]
  refine rP 2 [] mn ?_
  refine RK G<|ao<|LX hQ (a,c) [2] [] mn U U U U ?_
  trivial
 refine WK T<|ak fun _ H=>aC<|WS fun _ E=>rP 1 [] mn ?_
 obtain ⟨x,hx⟩:=aF l i I
 have AA:=bJ aX.cells hx
 refine rS (IA i U (ax 0 U) xB dc I I)<|rS (jL i 0 (aX.cells x) U bX (ax 0 U) AA U dc U U)<|AL U RB fun V=>bx 1 U<|fj U Qn U<|RK E<|WS fun _ F=>rP 3 [] (mc 0 U mn) ?_
 refine rS (SX (qO U U U (hf (i:Int) x ⟨_,U,hx⟩) (br [2])) U U)<|RK F<|bO U (fun B=>?_) (fun B=>?_)
 ·refine cp<|aK<|KK H<|au<|rP 2 [] mn ?_
  refine aD ?_
  rw [show nW (mS l p) i=nW (mS l p) (i+1) from (HV (by rw [wi hx]; simpa using B)).symm]
  have J:(vI (((i+1):Nat):Int))=(vI ((i:Int)+1)):=by exact cI I
  refine bj (D ⟨((i+1),a,c),(by first|omega|(simp only []; omega))⟩ _ _ _ U os (cN 4<|a_ U J<|dh.nil _) (aN [1,2,3]))
 refine au<|rP 2 [] mn ?_
 refine eP (xs:=[.tmp 20]) (cs:=[(vI (i:Int))]) U dJ kJ U U U U (by simp [Value.cells]) U U fun W=>?_
 refine dA (es2:=(List.map iC (nW (mS l p) (i+1)))) (m':=(nW (mS l p) (i+1)).length) 4 U U U qz U U sm (bq (es:=List.map iC [(i:Int)]) 0 U U (by simp [bU]) U) (kG _) (by have:=sM (P:=mS l p) (n:=i); omega) (by have:=sM (P:=mS l p) (n:=i); simp only [maxLen]; omega) (by rw [CW (by rw [wi hx]; exact B)]; simp) sm U fun K L=>?_
 try dsimp only
 refine bx 1 U<|aD<|aK<|KK H<|au<|rP 2 [] mn ?_
 refine aD ?_
 have AB:(vI (((i+1):Nat):Int))=(vI ((i:Int)+1)):=by exact cI I
 refine bj (D ⟨((i+1),K,L),(by first|omega|(simp only []; omega))⟩ _ _ _ U os (cN 4<|a_ U AB<|dh.nil _) (aN [2,3,4]))
end
section
open Go.RowKit
theorem GO (i:Int) (f:aX) (j:dk) (kA:OA) (kC:Nat) (cA:OA) (cC:Nat) (bA:OA) (bC:Nat) (slA:OA) (slC:Nat) (drA:OA) (drC:Nat) (heA:OA) (heC:Nat) (faA:OA) (faC:Nat) (prA:OA) (prC g1:Nat) (hk:0≤f.Kind∧f.Kind≤255):
 dF Tryz.prog 59 [(vI i),(vA (aX.cells f)),(vP g1)] [(cy g1 36 (fW.cells (n7 j kA kC cA cC bA bC slA slC drA drC heA heC faA faC prA prC)))] (vB (decide (¬ oJ j.Race.ar.b_ f))):=by
 refine bE kr Tryz.func59 U U fun V Q hQ hN=>?_
 try dsimp only
 refine WS fun _ N=>ed U fun AA=>bx 1 U<|RK N<|WS fun _ O=>er 5 [] (mr 1 U mn) U<|RK O<|ak fun _ D=>WS fun _ P=>rP 2 [] (mc 0 U mn) ?_
 refine rS (BI U jW)<|RK P<|bO U (aS fun A=>?_) (aT fun A=>?_)
 ·refine WK D<|WS fun _ B=>rP 2 [] (mc 0 U mn) ?_
  refine rS (SX (rH (m:=f.Kind) U U MB nX (oh (by first|assumption|omega))) U U)<|eP (xs:=[.tmp 16]) (cs:=[(vI f.Kind)]) U dJ kJ U U U U (by simp [Value.cells]) U U fun F=>?_
  refine rS (CL (dF.eq (iP 1 3 ([f.Kind]) (some ⟨F,0,none⟩) 1 (by (simp; done))) cD) (aQ (bq 0 U U (by simp [bU]) U)<|aR) U) ?_
  refine rP 2 [] mn ?_
  refine bP (t:=20) U (aW fun K=>?_) (aV fun K=>?_)
  ·refine rP 24 [] mn ?_
   refine RK B<|ao<|Q1 hQ U U U ?_
   (refine cB (cJ ?_).symm; (rw [tS A]; omega))
  refine rP 4 [] (mc 1 U mn) ?_
  refine eP (xs:=[.tmp 22,.tmp 24]) (cs:=[(vI f.lX),(vI f.To)]) U dJ kJ U U U U (by simp [Value.cells]) U U fun G=>?_
  refine rS (CL (dF.eq (iP 0 86400000 ([f.lX,f.To]) (some ⟨G,0,none⟩) 2 (by (simp; done))) o3) (aQ (bq 0 U U (by simp [bU]) U)<|aR) U) ?_
  refine rP 3 [] mn ?_
  refine bP (t:=29) U (aW fun L=>?_) (aV fun L=>?_)
  ·refine rP 15 [] mn ?_
   refine RK B<|ao<|Q1 hQ U U U ?_
   (refine cB (cJ ?_).symm; (rw [tS A]; omega))
  refine rP 7 [] (mc 2 U mn) ?_
  refine bP (t:=36) U (aT fun M=>?_) (aS fun M=>?_)
  ·refine rP 8 [] mn ?_
   refine RK B<|ao<|Q1 hQ U U U ?_
   (refine cB (cJ ?_).symm; (rw [tS A]; omega))
  refine rP 3 [] (mc 2 U mn) ?_
  refine eP (xs:=[.tmp 39]) (cs:=[(vI f.gW)]) U dJ kJ U U U U (by simp [Value.cells]) U U fun H=>?_
  refine rS (CL (dF.eq (iP 0 j.Race.ar.b_ ([f.gW]) (some ⟨H,0,none⟩) 1 (by (simp; done))) cD) (aQ (bq 0 U U (by simp [bU]) U)<|aR) U) ?_
  refine rP 3 [] mn ?_
  refine RK B<|ao<|Q1 hQ U U U ?_
  (refine cB (decide_not.symm.trans (gR.2 ?_)); (rw [tS A]; omega))
 refine au<|bx 1 U<|RK D<|WS fun _ C=>rP 2 [] (mc 0 U mn) ?_
 refine rS (SX (rH (m:=f.Kind) U U MB nX (oh (by first|assumption|omega))) U U)<|eP (xs:=[.tmp 16]) (cs:=[(vI f.Kind)]) U dJ kJ U U U U (by simp [Value.cells]) U U fun R=>?_
 refine rS (CL (dF.eq (iP 1 3 ([f.Kind]) (some ⟨R,0,none⟩) 1 (by (simp; done))) cD) (aQ (bq 0 U U (by simp [bU]) U)<|aR) U) ?_
 refine rP 2 [] mn ?_
 refine bP (t:=20) U (aW fun T=>?_) (aV fun T=>?_)
 ·refine rP 24 [] mn ?_
  refine RK C<|ao<|Q1 hQ U U U ?_
  (refine cB (cJ ?_).symm; (rw [s9 A]; omega))
 refine rP 4 [] (mc 1 U mn) ?_
 refine eP (xs:=[.tmp 22,.tmp 24]) (cs:=[(vI f.lX),(vI f.To)]) U dJ kJ U U U U (by simp [Value.cells]) U U fun S=>?_
 refine rS (CL (dF.eq (iP 0 86400000 ([f.lX,f.To]) (some ⟨S,0,none⟩) 2 (by (simp; done))) o3) (aQ (bq 0 U U (by simp [bU]) U)<|aR) U) ?_
 refine rP 3 [] mn ?_
 refine bP (t:=29) U (aW fun AB=>?_) (aV fun AB=>?_)
 ·refine rP 15 [] mn ?_
  refine RK C<|ao<|Q1 hQ U U U ?_
  (refine cB (cJ ?_).symm; (rw [s9 A]; omega))
 refine rP 7 [] (mc 2 U mn) ?_
 refine bP (t:=36) U (aT fun J=>?_) (aS fun J=>?_)
 ·refine rP 8 [] mn ?_
  refine RK C<|ao<|Q1 hQ U U U ?_
  (refine cB (cJ ?_).symm; (rw [s9 A]; omega))
 refine rP 3 [] (mc 2 U mn) ?_
 refine eP (xs:=[.tmp 39]) (cs:=[(vI f.gW)]) U dJ kJ U U U U (by simp [Value.cells]) U U fun E=>?_
 refine rS (CL (dF.eq (iP 0 0 ([f.gW]) (some ⟨E,0,none⟩) 1 (by (simp; done))) cD) (aQ (bq 0 U U (by simp [bU]) U)<|aR) U) ?_
 refine rP 3 [] mn ?_
 refine RK C<|ao<|Q1 hQ U U U ?_
 (refine cB (decide_not.symm.trans (gR.2 ?_)); (rw [s9 A]; omega))
theorem sW (fk fw:Int) (ff ft:Int) (al ah:Int) (ae an:Bool) (bl bh:Int) (be bn:Bool):
 dF Tryz.prog 120 [(vA (aX.cells (aX.mk fk fw ff ft))),(vA (kz.cells (kz.mk (ai.mk al ah) ae an))),(vA (kz.cells (kz.mk (ai.mk bl bh) be bn)))] [] (vB (decide (ah≤ft∧ff≤bl))):=by
 refine bE kr Tryz.func120 U U fun G Q hQ hN=>?_
 try dsimp only
 refine WS fun _ B=>ed U fun D=>ed U fun E=>ed U fun F=>bx 1 U<|RK B<|WS fun _ A=>rP 7 [0,1] (mc 1 U (mc 2 U mn)) ?_
 refine db (t:=13) U (aS fun C=>?_) (aT fun C=>?_)
 ·refine rP 8 [] mn ?_
  refine RK A<|ao<|Q1 hQ U U U ?_
  exact cB (aY I).symm
 refine rP 8 [0,1] (mc 0 U (mc 2 U mn)) ?_
 refine RK A<|ao<|Q1 hQ U U U ?_
 exact cB (gR.2 I)
theorem Em (fk fw:Int) (ff ft:Int) (al ah:Int) (ae an:Bool) (bl bh:Int) (be bn:Bool):
 dF Tryz.prog 124 [(vA (aX.cells (aX.mk fk fw ff ft))),(vA (kz.cells (kz.mk (ai.mk al ah) ae an))),(vA (kz.cells (kz.mk (ai.mk bl bh) be bn)))] [] (vB (decide (ai.mk (max al ff) (min ah ft)=ai.mk al ah))):=by
 refine bE kr Tryz.func124 U U fun F Q hQ hN=>?_
 try dsimp only
 refine WS fun _ A=>ed U fun C=>ed U fun D=>ed U fun E=>bx 1 U<|RK A<|WS fun _ B=>er 5 [0,1] (mc 1 U (mc 2 U mn)) U<|rS (MX U)<|er 5 [0,1] (mc 1 U (mc 2 U mn)) U<|rS (MN U)<|rS (SX (bG (xs:=[(0,.tmp 12),(1,.tmp 18)]) (cs:=(ai.cells (ai.mk (max al ff) (min ah ft)))) U U (bH gU U)) U U)<|bx 1 U<|rS (LP (ai.cells (ai.mk al ah)) 1 U bX U U U)<|rS (BI U (vl _ _ (ai.mk (max al ff) (min ah ft)) (ai.mk al ah)))<|rP 1 [] mn ?_
 refine RK B<|ao ?_
 exact Q1 hQ U U U U
theorem Ry (j:dk) (kA:OA) (kC:Nat) (cA:OA) (cC:Nat) (bA:OA) (bC:Nat) (slA:OA) (slC:Nat) (drA:OA) (drC:Nat) (heA:OA) (heC:Nat) (faA:OA) (faC:Nat) (prA:OA) (prC:Nat) (fk fw:Int) (ff ft:Int):
 dF Tryz.prog 121 [(vA (dT.cells (dT.mk (n7 j kA kC cA cC bA bC slA slC drA drC heA heC faA faC prA prC)))),(vA (aX.cells (aX.mk fk fw ff ft)))] [] (vT [(vI (-1)),(vI j.Race.ar.b_)]):=by
 refine bE kr Tryz.func121 U U fun E Q hQ hN=>?_
 try dsimp only
 refine WS fun _ A=>ed U fun C=>ed U fun D=>bx 2 U<|RK A<|ak fun _ B=>cW ck 7 kr<|dP 7 [] (mc 1 U mn) ?_
 refine cw<|RK B<|ao<|Q2 hQ U U U U ?_
 rfl
theorem P7 (j:dk) (kA:OA) (kC:Nat) (cA:OA) (cC:Nat) (bA:OA) (bC:Nat) (slA:OA) (slC:Nat) (drA:OA) (drC:Nat) (heA:OA) (heC:Nat) (faA:OA) (faC:Nat) (prA:OA) (prC:Nat) (fk fw:Int) (ff ft:Int) (hw:0≤fw∧fw≤1000000):
 dF Tryz.prog 122 [(vA (dT.cells (dT.mk (n7 j kA kC cA cC bA bC slA slC drA drC heA heC faA faC prA prC)))),(vA (aX.cells (aX.mk fk fw ff ft)))] [] (vT [(vI (fw-1)),(vI fw)]):=by
 refine bE kr Tryz.func122 U U fun E Q hQ hN=>?_
 try dsimp only
 refine WS fun _ A=>ed U fun C=>ed U fun D=>rP 2 [] mn ?_
 refine RK A<|ak fun _ B=>cW ck 7 kr ?_
 try dsimp only
 refine dP 7 [] (mc 0 U mn) ?_
 refine cw<|RK B<|ao<|Q2 hQ U U U U ?_
 rfl
theorem Rg (j:dk) (kA:OA) (kC:Nat) (cA:OA) (cC:Nat) (bA:OA) (bC:Nat) (slA:OA) (slC:Nat) (drA:OA) (drC:Nat) (heA:OA) (heC:Nat) (faA:OA) (faC:Nat) (prA:OA) (prC:Nat) (fk fw:Int) (ff ft:Int):
 dF Tryz.prog 123 [(vA (dT.cells (dT.mk (n7 j kA kC cA cC bA bC slA slC drA drC heA heC faA faC prA prC)))),(vA (aX.cells (aX.mk fk fw ff ft)))] [] (vT [(vI fw),(vI fw)]):=by
 refine bE kr Tryz.func123 U U fun E Q hQ hN=>?_
 try dsimp only
 refine WS fun _ A=>ed U fun C=>ed U fun D=>bx 2 U<|RK A<|ak fun _ B=>cW ck 6 kr<|dP 6 [] (mc 0 U mn) ?_
 refine cw<|RK B<|ao<|Q2 hQ U U U U ?_
 rfl
theorem xG:
 dF Tryz.prog 88 [] [] (vA ((e8.cells (e8.mk Value.nilFunc Value.nilFunc))++(e8.cells (e8.mk (Value.func (.func 121) [].toArray [].toArray) (Value.func (.func 120) [].toArray [].toArray)))++(e8.cells (e8.mk (Value.func (.func 122) [].toArray [].toArray) (Value.func (.func 120) [].toArray [].toArray)))++(e8.cells (e8.mk (Value.func (.func 123) [].toArray [].toArray) (Value.func (.func 124) [].toArray [].toArray))))):=by
 refine bE kr Tryz.func88 U U fun E Q hQ hN=>?_
 try dsimp only
 refine WS fun _ A=>AL U PM fun D=>RK A<|WS fun _ B=>bx 1 U<|RK B<|WS fun _ C=>bx 1 U<|rS (SX (bG (xs:=[(0,.func 121),(1,.tmp 2)]) (cs:=(e8.cells (e8.mk (Value.func (.func 121) [].toArray [].toArray) (Value.func (.func 120) [].toArray [].toArray)))) U U (bH HI U)) U U)<|rP 1 [] mn ?_
 refine rS (SX (bG (xs:=[(0,.func 122),(1,.tmp 4)]) (cs:=(e8.cells (e8.mk (Value.func (.func 122) [].toArray [].toArray) (Value.func (.func 120) [].toArray [].toArray)))) U U (bH HI U)) U U)<|rS (SX (bG (xs:=[(0,.func 123),(1,.func 124)]) (cs:=(e8.cells (e8.mk (Value.func (.func 123) [].toArray [].toArray) (Value.func (.func 124) [].toArray [].toArray)))) U U (bH HI U)) U U)<|rS (SX (bG (xs:=[(1,.tmp 3),(2,.tmp 5),(3,.tmp 6)]) (cs:=((e8.cells (e8.mk Value.nilFunc Value.nilFunc))++(e8.cells (e8.mk (Value.func (.func 121) [].toArray [].toArray) (Value.func (.func 120) [].toArray [].toArray)))++(e8.cells (e8.mk (Value.func (.func 122) [].toArray [].toArray) (Value.func (.func 120) [].toArray [].toArray)))++(e8.cells (e8.mk (Value.func (.func 123) [].toArray [].toArray) (Value.func (.func 124) [].toArray [].toArray))))) U U (bH Rt U)) U U)<|fj U P2 U<|RK C<|ao<|z9 hQ [0] (mc 0 U mn) U ?_
 rfl
theorem B5 (l:List aX) (lA:OA) (lC:Nat) (f:aX) (hlen:l.length≤1000000):
 dF Tryz.prog 54 [(vS lA l.length lC),(vA (aX.cells f))] [(rd lA l.length 4 (l.map aX.cells))] (vI (l5 l f)):=by
 refine bE kr Tryz.func54 U U fun AA Q hQ hN=>?_
 try dsimp only
 refine WS fun _ J=>ed U fun T=>bx 1 U<|RK J<|ak fun _ K=>WS fun _ L=>rP 3 [] mn ?_
 refine RK L<|aC ?_
 have B:(0≤l.length)∧(∀ (q:Nat) y,q<0→l[q]? =some y→y≠f):=by exact ⟨Nat.zero_le _,fun q y hq=>absurd hq (Nat.not_lt_zero _)⟩
 refine bQ (ι:={z:Nat // (z≤l.length)∧(∀ (q:Nat) y,q<z→l[q]? =some y→y≠f)}) [0,3,7] [0,1] U U (fun z=>[(8,(vI (z.1:Int)))]) (fun z=>[]) (fun _=>rfl) (fun _=>rfl) (fun z=>l.length-z.1) ⟨0,B⟩ (bu U) (aN [0,1]) ?_
 clear B
 rintro ⟨i,⟨P,A⟩⟩ J5 AB
 try dsimp only
 refine WS fun _ M=>rP 1 [] mn ?_
 refine RK M<|ak fun _ N=>bO U (aS fun S=>?_) (aT fun S=>?_)
 ·refine bM<|ag<|ag<|aG<|KK K<|WS fun _ G=>rP 1 [] mn ?_
  refine RK G<|ao<|Q1 hQ U U U ?_
  exact cI (KE A I).symm
 refine WK N<|ak fun _ O=>aC<|WS fun _ D=>bx 2 U<|RK D<|ak fun _ E=>cW ck 6 kr<|dP 3 [] (mc 0 U mn) ?_
 obtain ⟨x,hx⟩:=aF l i I
 have R:=bJ aX.cells hx
 refine dS (IA i U (ax 1 U) xB dc I I)<|dS (jL i 0 (aX.cells x) U bX (ax 1 U) R U dc U U)<|dS (BI U (PB _ _ f x))<|cw<|RK E<|cr U (aT fun C=>?_) (aS fun C=>?_)
 ·refine WS fun _ F=>rP 2 [] mn ?_
  refine RK F<|ao<|Q1 hQ U U U ?_
  exact cI (Kc hx C.symm A).symm
 refine cp<|aK<|KK O<|au<|rP 2 [] mn ?_
 refine aD ?_
 have H:(vI (((i+1):Nat):Int))=(vI ((i:Int)+1)):=by exact cI I
 refine bj (AB ⟨(i+1),⟨I,fun q y hq hy=>by rcases Nat.lt_or_ge q i with c|c; exact A q y c hy; (obtain rfl:q=i:=by omega); rw [hx] at hy; cases hy; exact fun e=>C e.symm⟩⟩ _ _ _ rfl os (cN 3<|a_ rfl H<|dh.nil _) (aN [0,1]))
end
section
open Go.RowKit
theorem Aq (j:dk) (kA:OA) (kC:Nat) (az:List RA) (cA:OA) (cC:Nat) (bA:OA) (bC:Nat) (slA:OA) (slC:Nat) (drA:OA) (drC:Nat) (ha:List cU) (heA:OA) (heC:Nat) (faA:OA) (faC:Nat) (prA:OA) (prC:Nat) (hin:fY j az ha):
 dF Tryz.prog 16 [(vA (fW.cells (n7 j kA kC cA cC bA bC slA slC drA drC heA heC faA faC prA prC)))] [(rd jm 3 2 g6),(rd kA j.Race.ar.aO.length 9 (j.Race.ar.aO.map aq.cells)),(rd cA j.Race.ar.aj.length 2 (List.zipWith av.cells j.Race.ar.aj az)),(dL (bk av.fu j.Race.ar.aj az)),(rd bA j.Race.ar.ab.length 4 (j.Race.ar.ab.map bL.cells)),(rd slA j.Race.bg.length 1 (j.Race.bg.map iC)),(rd drA j.Race.cm.length 1 (j.Race.cm.map iC)),(rd heA j.Race.aB.length 1 (List.zipWith cz j.Race.aB ha)),(dL (bk eO j.Race.aB ha)),(rd faA j.ay.length 4 (j.ay.map aX.cells)),(rd prA j.aM.length 5 (j.aM.map bI.cells))] (vI (gF j)):=by
 have GE:=hin.race
 have K0:=hin.race.line
 have OG:=hin.race.gQ
 have OQ:=hin.race.has
 have M0:=hin.race.gX
 have L0:=hin.nf
 have Ms:=hin.np
 refine bE kr Tryz.func16 U U fun w0 Q hQ hN=>?_
 try dsimp only
 refine WS fun _ Jr=>ed U fun b2=>bx 1 U<|RK Jr<|zj U<|ak fun _ J2=>WS fun _ J3=>bx 1 U<|rS (LP (fF.cells (xH j.Race kA kC cA cC bA bC slA slC drA drC heA heC)) 0 U bX U U U)<|rS (CL (I6 j.Race kA kC az cA cC bA bC slA slC drA drC ha heA heC asm) (br [1,2,3,4,5,6,7,8,9]) U)<|bx 1 U<|RK J3<|WS fun _ J4=>rP 2 [] mn ?_
 refine RK J4<|cr U (aW fun A=>?_) (aV fun A=>?_)
 ·refine WS fun _ J5=>rP 2 [] mn ?_
  refine RK J5<|ao<|Q1 hQ U U U ?_
  exact cI (yU A).symm
 refine WK J2<|WS fun _ J6=>rP 2 [] (mc 0 U mn) ?_
 refine rS (FU U) ?_
 refine cX (Lx j.ay faA faC (Value.func (.func 59) [].toArray [(vP b2)].toArray) (fun u8 u9=>(decide (¬ oJ j.Race.ar.b_ u9))) (dL [(cy b2 36 (fW.cells (n7 j kA kC cA cC bA bC slA slC drA drC heA heC faA faC prA prC)))]) (by intro u8 u9 K4; exact mN (fi:=[]) (ca:=[(vP b2)]) (lD (GO u8 u9 j kA kC cA cC bA bC slA slC drA drC heA heC faA faC prA prC b2 (by (obtain ⟨i_,_,J9⟩:=K4; exact hin.kind _ (aP J9)))) (br [0]))) asm) (gu 10 rfl rfl<|aQ (lH (br [0]))<|aR) rfl fun La M2=>?_
 obtain ⟨NE,OB⟩:=La
 try dsimp only
 refine bx 1 U<|RK J6<|ak fun _ b=>WS fun _ G=>rP 5 [] (mc 1 U mn) ?_
 refine bP (t:=25) U (aT fun IR=>?_) (aS fun IR=>?_)
 ·refine bx 24 U<|RK G<|aI U<|WS fun _ c=>rP 1 [] mn ?_
  refine RK c<|ao<|Q1 hQ U U U ?_
  exact cI (jN A (fun q=>by have AA:=q.nf; have O:=q.min_; have V:=q.ux; have W:=q.np; omega)).symm
 refine rP 5 [] mn ?_
 refine bP (t:=30) U (aT fun S=>?_) (aS fun S=>?_)
 ·refine bx 19 U<|RK G<|aI U<|WS fun _ e=>rP 1 [] mn ?_
  refine RK e<|ao<|Q1 hQ U U U ?_
  exact cI (jN A (CY S)).symm
 refine rP 2 [] (mc 1 U mn) ?_
 refine eP (xs:=[.tmp 32]) (cs:=[(vI j.fQ)]) U dJ kJ U U U U (by simp [Value.cells]) U U fun GY=>?_
 refine rS (CL (dF.eq (iP 0 60 ([j.fQ]) (some ⟨GY,0,none⟩) 1 (by (simp; done))) cD) (aQ (bq 0 U U (by simp [bU]) U)<|aR) U) ?_
 refine rP 3 [] mn ?_
 refine bP (t:=37) U (aW fun In=>?_) (aV fun In=>?_)
 ·refine bx 12 U<|RK G<|aI U<|WS fun _ f=>rP 1 [] mn ?_
  refine RK f<|ao<|Q1 hQ U U U ?_
  exact cI (jN A (fun q=>by have AA:=q.nf; have O:=q.min_; have V:=q.ux; have W:=q.np; omega)).symm
 refine rP 2 [] (mc 2 U mn) ?_
 refine eP (xs:=[.tmp 39]) (cs:=[(vI j.z8)]) U dJ kJ U U U U (by simp [Value.cells]) U U fun Go=>?_
 refine rS (CL (dF.eq (iP 0 100000 ([j.z8]) (some ⟨Go,0,none⟩) 1 (by (simp; done))) cD) (aQ (bq 0 U U (by simp [bU]) U)<|aR) U) ?_
 refine rP 3 [] mn ?_
 refine bP (t:=44) U (aW fun Jb=>?_) (aV fun Jb=>?_)
 ·refine bx 5 U<|RK G<|aI U<|WS fun _ g=>rP 1 [] mn ?_
  refine RK g<|ao<|Q1 hQ U U U ?_
  exact cI (jN A (fun q=>by have AA:=q.nf; have O:=q.min_; have V:=q.ux; have W:=q.np; omega)).symm
 refine rP 5 [] (mc 3 U mn) ?_
 refine RK G<|cr U (aT fun Ji=>?_) (aS fun Ji=>?_)
 ·refine WS fun _ h=>rP 1 [] mn ?_
  refine RK h<|ao<|Q1 hQ U U U ?_
  exact cI (jN A (fun q=>by have AA:=q.nf; have O:=q.min_; have V:=q.ux; have W:=q.np; omega)).symm
 refine WK b<|WS fun _ l=>bx 1 U<|RK l<|WS fun _ m=>bx 1 U<|RK m<|ak fun _ n=>zW<|KK n<|ak fun _ C=>WS fun _ o=>rP 4 [] (mc 3 U mn) ?_
 refine RK o<|aC ?_
 have N:(0≤j.aM.length)∧(n_ j 0):=by exact ⟨Nat.zero_le _,xO⟩
 refine bQ (ι:={z:Nat // (z≤j.aM.length)∧(n_ j z)}) [1,5,51,52] [2,3,4,5,6,7,8,9,10,11,12,13,14] U U (fun z=>[(6,(vI (po j z.1))),(53,(vI (z.1:Int)))]) (fun z=>[]) (fun _=>rfl) (fun _=>rfl) (fun z=>j.aM.length-z.1) ⟨0,N⟩ (bu U) (aN [2,3,4,5,6,7,8,9,10,11,12,13,14]) ?_
 clear N
 rintro ⟨k,⟨B,D⟩⟩ J28 P
 try dsimp only
 refine WS fun _ r=>rP 1 [] mn ?_
 refine RK r<|ak fun _ s=>bO U (aS fun If=>?_) (aT fun If=>?_)
 ·refine bM<|ag<|ag<|aG<|KK C<|WS fun _ DW=>rP 2 [] mn ?_
  refine RK DW<|ao<|Q1 hQ U U U ?_
  exact cI (BN A ⟨I,Ab S,I,I,I,fun i p hi=>D i p (by have:=(aU.1 hi).1; omega) hi⟩).symm
 refine WK s<|ak fun _ R=>aC<|WS fun _ u=>?_
 obtain ⟨p,hp⟩:=aF j.aM k I
 have K5:=bJ bI.cells hp
 refine rS (IA k U (ax 12 U) BJ dc I I)<|rS (jL k 0 (bI.cells p) U bX (ax 12 U) K5 U dc U U)<|AL U Np fun Ne=>fj U Nf U<|RK u<|WS fun _ AB=>rP 1 [] mn ?_
 have KV:=Lb D B
 refine rP 3 [] (mc 0 U mn) ?_
 refine eP (xs:=[.tmp 60]) (cs:=[(vI p.Id)]) U dJ kJ U U U U (by simp [Value.cells]) U U fun HY=>?_
 refine rS (CL (dF.eq (iP ((po j k)+1) 9999 ([p.Id]) (some ⟨HY,0,none⟩) 1 (by (simp; done))) cD) (aQ (bq 0 U U (by simp [bU]) U)<|aR) U) ?_
 refine rP 1 [] mn ?_
 refine db (t:=63) U (aS fun Y=>?_) (aT fun Y=>?_)
 ·refine bx 32 U<|RK AB<|ak fun _ C0=>WS fun _ C1=>bx 1 U<|RK C1<|bT U<|WK C0<|ak fun _ Lw=>WS fun _ C2=>bx 2 U<|RK C2<|aI U<|WS fun _ C3=>bx 1 U<|RK C3<|bM<|ag<|fB U<|ag<|ag<|aG<|KK C<|WS fun _ DE=>rP 2 [] mn ?_
  refine RK DE<|ao<|Q1 hQ U U U ?_
  exact cI (jN A (ry hp (fun q=>by have q0:=wj q B; have AA:=q.id; have O:=q.lu; have V:=q.fX; have W:=q.fault; simp only [qI] at O; omega))).symm
 refine rP 7 [0,1] (mc 3 U (mc 1 U mn)) ?_
 refine eP (xs:=[.tmp 70]) (cs:=[(vI p.iR)]) U dJ kJ U U U U (by simp [Value.cells]) U U fun Hi=>?_
 refine rS (CL (dF.eq (iP 0 ((j.Race.bg.length:Int)-1) ([p.iR]) (some ⟨Hi,0,none⟩) 1 (by (simp; done))) cD) (aQ (bq 0 U U (by simp [bU]) U)<|aR) U) ?_
 refine rP 2 [] mn ?_
 refine db (t:=74) U (aS fun Z=>?_) (aT fun Z=>?_)
 ·refine bx 21 U<|RK AB<|ak fun _ B9=>WS fun _ Ci=>bx 1 U<|RK Ci<|bT U<|WK B9<|ak fun _ Lo=>WS fun _ Ck=>bx 2 U<|RK Ck<|aI U<|WS fun _ Cp=>bx 1 U<|RK Cp<|bM<|ag<|fB U<|ag<|ag<|aG<|KK C<|WS fun _ Cx=>rP 2 [] mn ?_
  refine RK Cx<|ao<|Q1 hQ U U U ?_
  exact cI (jN A (ry hp (fun q=>by have q0:=wj q B; have AA:=q.id; have O:=q.lu; have V:=q.fX; have W:=q.fault; simp only [qI] at O; omega))).symm
 refine rP 7 [0,1] (mc 4 U (mc 2 U mn)) ?_
 refine eP (xs:=[.tmp 81]) (cs:=[(vI p.iY)]) U dJ kJ U U U U (by simp [Value.cells]) U U fun Ho=>?_
 refine rS (CL (dF.eq (iP 0 ((j.Race.aB.length:Int)-1) ([p.iY]) (some ⟨Ho,0,none⟩) 1 (by (simp; done))) cD) (aQ (bq 0 U U (by simp [bU]) U)<|aR) U) ?_
 refine rP 2 [] mn ?_
 refine db (t:=85) U (aS fun a=>?_) (aT fun a=>?_)
 ·refine bx 10 U<|RK AB<|ak fun _ A7=>WS fun _ A8=>bx 1 U<|RK A8<|bT U<|WK A7<|ak fun _ Lk=>WS fun _ A9=>bx 2 U<|RK A9<|aI U<|WS fun _ Bv=>bx 1 U<|RK Bv<|bM<|ag<|fB U<|ag<|ag<|aG<|KK C<|WS fun _ B3=>rP 2 [] mn ?_
  refine RK B3<|ao<|Q1 hQ U U U ?_
  exact cI (jN A (ry hp (fun q=>by have q0:=wj q B; have AA:=q.id; have O:=q.lu; have V:=q.fX; have W:=q.fault; simp only [qI] at O; omega))).symm
 refine rP 6 [0,1] (mc 5 U (mc 3 U mn)) ?_
 refine eP (xs:=[.tmp 91]) (cs:=[(vI p.pd)]) U dJ kJ U U U U (by simp [Value.cells]) U U fun H1=>?_
 refine rS (CL (dF.eq (iP 0 ((j.ay.length:Int)-1) ([p.pd]) (some ⟨H1,0,none⟩) 1 (by (simp; done))) cD) (aQ (bq 0 U U (by simp [bU]) U)<|aR) U) ?_
 refine bx 2 U<|RK AB<|ak fun _ L=>WS fun _ v=>rP 1 [] mn ?_
 refine RK v<|bO U (aS fun T=>?_) (aT fun T=>?_)
 ·refine WK L<|ak fun _ A3=>WS fun _ A4=>rP 2 [] mn ?_
  refine RK A4<|bO U (aV fun F=>?_) (aW fun F=>?_)
  ·refine WK A3<|au<|er 3 [] (mc 4 U mn) U<|aD<|aK<|KK R<|au<|rP 2 [] mn ?_
   refine aD ?_
   have FP:(vI (po j (k+1)))=(vI p.Id):=by exact cI (nQ hp)
   have FS:(vI (((k+1):Nat):Int))=(vI ((k:Int)+1)):=by exact cI I
   refine bj (P ⟨(k+1),(by exact absurd F T)⟩ _ _ _ U os (cN 4<|a_ U FP<|a_ U FS<|dh.nil _) (aN [5,6,7,8,9,10,11,12,13,14,15,16,17]))
  refine WS fun _ A5=>bx 1 U<|RK A5<|bM<|ag<|fB U<|ag<|ag<|aG<|KK C<|WS fun _ A6=>rP 2 [] mn ?_
  refine RK A6<|ao<|Q1 hQ U U U ?_
  exact cI (jN A (ry hp (fun q=>by have q0:=wj q B; have AA:=q.id; have O:=q.lu; have V:=q.fX; have W:=q.fault; simp only [qI] at O; omega))).symm
 refine ak fun _ w=>dx ck [11,12] [] [] [0,1,2,3,4,5,6,7,8,9,10,11,12,13,14,15,16,17] [] U U U U U<|eS U (FA 0 U eV U)<|eS U (FA 10 U eV U)<|eS U (L1 (vS heA j.Race.aB.length heC) 6 U bX U U)<|eS U (FA 2 U eV U)<|eS U (L1 (vI p.iY) 4 U bX U U) ?_
 have K8:=(fr A).2
 obtain ⟨ht,K⟩:=aF j.Race.aB ((p.iY).toNat) I
 obtain ⟨E,J⟩:=aF ha ((p.iY).toNat) I
 have Fn:(List.zipWith cz j.Race.aB ha)[(p.iY).toNat]? =some (cz ht E):=cZ K J
 refine eS U (IA ((p.iY).toNat) U (ax 14 U) lZ dc I I)<|eS U (h_ ((p.iY).toNat) 0 (vS E.1.1 ht.length E.1.2) U bX (ax 14 U) Fn U dc U)<|eS U (FA 1 U eV U) ?_
 have Fd:=GE.fX _ _ _ K J
 have L2:=Fd.mq
 have L3:=(K8.fX ht (aP K)).1
 refine eS U (L1 (vI p.iR) 4 U bX U U) ?_
 obtain ⟨d,hd⟩:=aF ht ((p.iR).toNat) I
 obtain ⟨da,J7⟩:=aF E.2 ((p.iR).toNat) I
 have J8:(List.zipWith aw.cells ht E.2)[(p.iR).toNat]? =some (aw.cells d da):=cZ hd J7
 refine eS U (IA ((p.iR).toNat) U (show hH _ (rd E.1.1 ht.length 7 (List.zipWith aw.cells ht E.2)).holds from (cj 15 U (bD K J ct))) qk dc I I) ?_
 have M:=o9 (j:=j) (p:=p) K hd
 have OT:=Fd.sig d (aP hd)
 refine eS U (jL ((p.iR).toNat) 0 (bf.cells (bf.mk d.Out d.cO d.Time (de.mk d.aZ.Start d.aZ.fP (bK.mk da.1 d.aZ.aa.length da.2)))) U bX (show hH _ (rd E.1.1 ht.length 7 (List.zipWith aw.cells ht E.2)).holds from (cj 15 U (bD K J ct))) J8 U dc U U)<|eo U<|cd U fun T43 Di=>AL U I3 fun N7=>aD (Di _ _ (aN [1,2,3,4,5,6,7,8,9,10,11,12,13,14,15,16,17,18]) ?_)
 refine cd U fun T45 Do=>fj U IN U<|aD (Do _ _ (aN [1,2,3,4,5,6,7,8,9,10,11,12,13,14,15,16,17,18]) ?_)
 refine fh U<|KK w<|au<|er 1 [] (mc 0 U mn) U<|rS (CL (tg d.Out d.cO d.Time (de.mk d.aZ.Start d.aZ.fP (bK.mk da.1 d.aZ.aa.length da.2))) (aR) U)<|rP 1 [] mn ?_
 refine db (t:=109) U (aS fun H=>?_) (aT fun H=>?_)
 ·refine bx 9 U<|RK L<|ak fun _ Li=>WS fun _ A0=>bx 2 U<|RK A0<|aI U<|WS fun _ A1=>bx 1 U<|RK A1<|bM<|ag<|fB U<|ag<|ag<|aG<|KK C<|WS fun _ A2=>rP 2 [] mn ?_
  refine RK A2<|ao<|Q1 hQ U U U ?_
  exact cI (jN A (ry hp (fun q=>by obtain ⟨d2,X,r1,r2⟩:=q.jH; rw [M] at X; cases X; first|exact H r1|omega))).symm
 refine rP 5 [0,1] (mc 0 U (mc 5 U mn)) ?_
 refine eP (xs:=[.tmp 114]) (cs:=[(vI p.At)]) U dJ kJ U U U U (by simp [Value.cells]) U U fun IO=>?_
 refine rS (CL (dF.eq (iP d.aZ.Start 86400000 ([p.At]) (some ⟨IO,0,none⟩) 1 (by (simp; done))) cD) (aQ (bq 0 U U (by simp [bU]) U)<|aR) U) ?_
 refine bx 2 U<|RK L<|ak fun _ x=>WS fun _ y=>rP 2 [] mn ?_
 refine RK y<|bO U (aV fun F=>?_) (aW fun F=>?_)
 ·refine WK x<|au<|er 3 [] (mc 6 U mn) U<|aD<|aK<|KK R<|au<|rP 2 [] mn ?_
  refine aD ?_
  have EQ:(vI (po j (k+1)))=(vI p.Id):=by exact cI (nQ hp)
  have Eq:(vI (((k+1):Nat):Int))=(vI ((k:Int)+1)):=by exact cI I
  refine bj (P ⟨(k+1),(by exact ⟨I,si D hp (JX hp Y KV.1 Z a T M H F)⟩)⟩ _ _ _ U os (cN 4<|a_ U EQ<|a_ U Eq<|dh.nil _) (aN [7,8,9,10,11,12,13,14,15,16,17,18,19]))
 refine WS fun _ AC=>bx 1 U<|RK AC<|bM<|ag<|fB U<|ag<|ag<|aG<|KK C<|WS fun _ AO=>rP 2 [] mn ?_
 refine RK AO<|ao<|Q1 hQ U U U ?_
 exact cI (jN A (ry hp (fun q=>by obtain ⟨d2,X,r1,r2⟩:=q.jH; rw [M] at X; cases X; first|exact H r1|omega))).symm
theorem zI (j:dk) (kA:OA) (kC:Nat) (az:List RA) (cA:OA) (cC:Nat) (bA:OA) (bC:Nat) (slA:OA) (slC:Nat) (drA:OA) (drC:Nat) (ha:List cU) (heA:OA) (heC:Nat) (faA:OA) (faC:Nat) (prA:OA) (prC:Nat) (hin:fY j az ha):
 dF Tryz.prog 47 [(vA (fW.cells (n7 j kA kC cA cC bA bC slA slC drA drC heA heC faA faC prA prC)))] [(rd jm 3 2 g6),(rd kA j.Race.ar.aO.length 9 (j.Race.ar.aO.map aq.cells)),(rd cA j.Race.ar.aj.length 2 (List.zipWith av.cells j.Race.ar.aj az)),(dL (bk av.fu j.Race.ar.aj az)),(rd bA j.Race.ar.ab.length 4 (j.Race.ar.ab.map bL.cells)),(rd slA j.Race.bg.length 1 (j.Race.bg.map iC)),(rd drA j.Race.cm.length 1 (j.Race.cm.map iC)),(rd heA j.Race.aB.length 1 (List.zipWith cz j.Race.aB ha)),(dL (bk eO j.Race.aB ha)),(rd faA j.ay.length 4 (j.ay.map aX.cells)),(rd prA j.aM.length 5 (j.aM.map bI.cells))] (vT [(vA (dT.cells (dT.mk (n7 j kA kC cA cC bA bC slA slC drA drC heA heC faA faC prA prC)))),(vI (gF j))]):=by
 refine bE kr Tryz.func47 U U fun E Q hQ hN=>?_
 try dsimp only
 refine WS fun _ A=>ed U fun C=>AL U D_ fun D=>bx 1 U<|RK A<|ak fun _ B=>cW ck 4 kr<|kv 1 [] (mc 1 U mn) U<|dS (SX (bG (xs:=[(0,.tmp 4)]) (cs:=(dT.cells (dT.mk (n7 j kA kC cA cC bA bC slA slC drA drC heA heC faA faC prA prC)))) U U (bH P5 U)) U U)<|kv 1 [] (mc 1 U mn) U<|dS (CL (Aq j kA kC az cA cC bA bC slA slC drA drC ha heA heC faA faC prA prC hin) (br [2,3,4,5,6,7,8,9,10,11,12]) U)<|cw<|fj U DZ U<|rP 1 [] mn ?_
 refine RK B<|ao<|lS hQ [0] (mc 0 U mn) U ?_
 rfl
end
section
open Go.RowKit
variable {E:fI} {ops:Array Oper} {D:List Deferred} {L:List (Nat×Value)} {C:List aA}
variable {dst:Option Tmp} {ty:TypeId} {ps:String} {af:Array Edge} {g:Option (Nat×Bool)}
theorem uM {x ix:Operand} {t e len sz:Nat} {cs vs:List Value} {j:Int} {kd:IntKind} (m:Nat) (hg:ki ops L g=true) (hx:ev L x=some (.agg cs.toArray)) (hi:ev L ix=some (.int kd j)) (ht:tX E.P t=some (len,e)) (hk:tK E.P e=some (true,sz)) (hj:j=(m:Int)) (hm:m<len) (hv:(cs.drop (m*sz)).take sz=vs):
 SD E ops ⟨dst,.index t x ix,ty,ps,af,g⟩ D L C (.agg vs.toArray):=
 eU hg sm fun a w A _=>by
  have B:(0:Int)≤(m:Int)∧(m:Int)<(len:Int):=by omega
  subst hj
  simp [execOp,A.ev hx,A.ev hi,Instr.index,asIntOf,run_underlying (GI ht),B,hm,(oK hk w).2,jd hk hv w]
end
section
open Go.RowKit
theorem Pu (l:List Int) (lA:OA) (lC:Nat) (hne:1≤l.length) (hlen:l.length≤1000000):
 dF Tryz.prog 127 [(vS lA l.length lC)] [(rd lA l.length 1 (l.map iC))] (vI (nG l)):=by
 refine bE kr Tryz.func127 U U fun V Q hQ hN=>?_
 try dsimp only
 refine WS fun _ L=>bx 1 U<|RK L<|ak fun _ M=>WS fun _ N=>rP 3 [] mn ?_
 refine RK N<|cr U (aT fun AA=>?_) (aS fun AA=>?_)
 ·exfalso; omega
 refine WK M<|WS fun _ O=>rP 1 [] mn ?_
 obtain ⟨AB,B⟩:=aF l 0 I
 have hx0m:=bJ iC B
 refine rS (IA 0 U (ax 0 U) dJ dc U I)<|rS (h_ 0 0 (vI AB) U bX (ax 0 U) hx0m U dc U)<|bx 1 U<|RK O<|ak fun _ P=>WS fun _ R=>rP 1 [] mn ?_
 refine RK R<|aC ?_
 have A:(1≤1∧1≤l.length):=by omega
 have S:(vI (nG (l.take 1)))=(vI AB):=by rw [FW B]
 refine bQ (ι:={z:Nat // (1≤z∧z≤l.length)}) [0] [0] U U (fun z=>[(3,(vI (nG (l.take z.1)))),(4,(vI (z.1:Int)))]) (fun z=>[]) (fun _=>rfl) (fun _=>rfl) (fun z=>l.length-z.1) ⟨1,A⟩ (a_ U S<|bu U) (aN [0]) ?_
 clear A
 rintro ⟨i,T⟩ J9 K
 try dsimp only
 refine ak fun _ C=>WS fun _ D=>rP 4 [] mn ?_
 refine RK D<|bO U (aS fun J=>?_) (aT fun J=>?_)
 ·refine bM<|ag<|ag<|aG<|KK P<|WS fun _ F=>rP 2 [] mn ?_
  refine RK F<|ao<|Q1 hQ U U U ?_
  rw [List.take_of_length_le I]
 refine WK C<|ak fun _ E=>aC<|au<|rP 3 [] mn ?_
 obtain ⟨AB,B⟩:=aF l i I
 have hx0m:=bJ iC B
 refine rS (IA i U (ax 0 U) dJ dc I I)<|rS (h_ i 0 (vI AB) U bX (ax 0 U) hx0m U dc U)<|rS (MN U)<|bx 1 U<|aD<|aK<|KK E<|au<|rP 3 [] mn ?_
 refine aD ?_
 have G:(vI (nG (l.take (i+1))))=(vI (min (nG (l.take i)) AB)):=by rw [Hr B I]
 have H:(vI (((i+1):Nat):Int))=(vI ((i:Int)+1)):=by exact cI I
 refine bj (K ⟨(i+1),(by first|omega|(simp only []; omega))⟩ _ _ _ U os (dh.cons U<|a_ U G<|a_ U H<|dh.nil _) (aN [0]))
end
section
open Go.RowKit
theorem KR (l:bo) (kA:OA) (kC:Nat) (az:List RA) (cA:OA) (cC:Nat) (bA:OA) (bC:Nat) (r:cx) (sgA:OA) (sgC:Nat) (hin:d_ l az) (hsl:r.aa.length≤1000000):
 qf Tryz.prog 126 [(vA (cu.cells (jr l kA kC cA cC bA bC))),(vA (de.cells (im r sgA sgC)))] [(rd kA l.aO.length 9 (l.aO.map aq.cells)),(rd cA l.aj.length 2 (List.zipWith av.cells l.aj az)),(dL (bk av.fu l.aj az)),(rd bA l.ab.length 4 (l.ab.map bL.cells)),(rd sgA r.aa.length 2 (r.aa.map aH.cells))] (fun (x:(OA)×Nat)=>(vT [(vS x.1 ((fp l r).length) x.2),(vI (dN l r 0))])) (fun (x:(OA)×Nat)=>True) (fun (x:(OA)×Nat)=>[(own x.1 x.2 3 1 ((fp l r).map iC))]):=by
 have A5:=hin.qm
 have AC:=hin.qj
 have w:=hin.mq
 have y:=hin.qi
 have A4:=hin.side
 refine fJ kr Tryz.func126 U U fun w0 Q hQ hN=>?_
 try dsimp only
 refine WS fun _ g=>ed U fun b2=>ed U fun b3=>bx 2 U<|RK g<|WS fun _ P=>rP 2 [0,1] (mc 1 U (mc 0 U mn)) ?_
 refine cX (Kf l kA kC az cA cC bA bC r sgA sgC hin hsl) (br [2,3,4,5,6]) U fun y5 AA=>?_
 obtain ⟨V,v,e,d,F,Y,Z,a,B,AB,G,H,A,E,W,X⟩:=y5
 cases V
 ·obtain ⟨S,he⟩:=AA.2 rfl
  try dsimp only at S he
  subst S
  try dsimp only [cond_true,cond_false,List.cons_append,List.nil_append]
  refine bx 5 U<|RK P<|ak fun _ q=>WS fun _ K=>rP 2 [] mn ?_
  refine RK K<|bO U (aV fun J=>?_) (aW fun J=>?_)
  ·exact absurd J he
  refine WS fun _ L=>jQ 3 1 ?_
  rw [show (own none 0 3 1 ([]:List (List Value)))=own none 0 3 1 ((fp l r).map iC) from by rw [kj he]; rfl]
  refine bx 1 U<|rP 2 [] mn ?_
  refine RK L<|ao ?_
  refine LX hQ (none,0) [0] [] mn U U U ?_ ?_
  ·first|rfl|(rw [he]; rfl)|(rw [kj he]; rfl)
  ·trivial
 obtain ⟨he,C,R,i,h,k⟩:=AA.1 rfl
 try dsimp only [cond_true,cond_false,List.cons_append,List.nil_append]
 dsimp only at C R i h k
 obtain ⟨f,D,A0,A1⟩:=g5 he
 obtain ⟨m,T⟩:=dK f
 have j:=T.head
 unfold eT at j
 have o:=lL m T D
 have A3:=D.time
 have A2:=D.len
 have s:(cq l l.ab.length).length=l.ab.length:=cS
 have t:(cL l r.aa r.aa.length).length=l.ab.length:=gT
 have AO:B.length=l.ab.length+1:=by have:=C.len; rw [show (bW l r).n=l.ab.length from cS] at this; exact this
 have z:A.length=l.ab.length+1:=by have:=R.len; rw [show (bW l r).n=l.ab.length from cS] at this; exact this
 refine bx 5 U<|RK P<|ak fun _ M=>WS fun _ N=>bx 1 U<|rS (SX (eK (r:= .bool false) U U U xR) U U)<|RK N<|bT U<|WK M<|WS fun _ O=>rP 1 [] mn ?_
 refine cX (uP (jr l kA kC cA cC bA bC) (im r sgA sgC) (cq l l.ab.length) (cL l r.aa r.aa.length) d F a Y Z B A AB G H E W X e (by exact o) sd (by exact cS.symm) (by exact C) sd) (aQ (aL (n:=(cq l l.ab.length).length) 1 U sm)<|aQ (aL (n:=(cL l r.aa r.aa.length).length) 2 U (by rw [List.length_zipWith]; omega))<|aQ (gM 3 U lB)<|aQ (aL (n:=B.length) 4 U (by rw [List.length_zipWith]; omega))<|aQ (gM 5 U lB)<|aQ (aL (n:=A.length) 6 U (by rw [List.length_zipWith]; omega))<|aQ (gM 7 U lB)<|gu 0 U U<|aR) U fun p u=>?_
 obtain ⟨b,c⟩:=p
 try dsimp only
 rw [show (hG (cQ (jr l kA kC cA cC bA bC) (im r sgA sgC) (cq l l.ab.length) (cL l r.aa r.aa.length)))=fp l r from (jR he).symm]
 refine rP 2 [] mn ?_
 refine RK O<|ao ?_
 refine LX hQ (b,c) [0] [] mn U U U ?_ ?_
 ·first|rfl|(rw [he]; rfl)|(rw [kj he]; rfl)
 ·trivial
end
section
open Go.RowKit
theorem ml (j:dk) (kA:OA) (kC:Nat) (az:List RA) (cA:OA) (cC:Nat) (bA:OA) (bC:Nat) (slA:OA) (slC:Nat) (drA:OA) (drC:Nat) (ha:List cU) (heA:OA) (heC:Nat) (faA:OA) (faC:Nat) (prA:OA) (prC:Nat) (r:cx) (sgA:OA) (sgC:Nat) (b:Int) (hin:fY j az ha) (hsl:r.aa.length≤1000000):
 dF Tryz.prog 89 [(vA (dT.cells (dT.mk (n7 j kA kC cA cC bA bC slA slC drA drC heA heC faA faC prA prC)))),(vA (de.cells (im r sgA sgC))),(vI b)] [(rd kA j.Race.ar.aO.length 9 (j.Race.ar.aO.map aq.cells)),(rd cA j.Race.ar.aj.length 2 (List.zipWith av.cells j.Race.ar.aj az)),(dL (bk av.fu j.Race.ar.aj az)),(rd bA j.Race.ar.ab.length 4 (j.Race.ar.ab.map bL.cells)),(rd slA j.Race.bg.length 1 (j.Race.bg.map iC)),(rd drA j.Race.cm.length 1 (j.Race.cm.map iC)),(rd heA j.Race.aB.length 1 (List.zipWith cz j.Race.aB ha)),(dL (bk eO j.Race.aB ha)),(rd faA j.ay.length 4 (j.ay.map aX.cells)),(rd prA j.aM.length 5 (j.aM.map bI.cells)),(rd sgA r.aa.length 2 (r.aa.map aH.cells))] (vA (kz.cells (kz.mk (ai.mk ((df j.Race.ar r b).Lo) ((df j.Race.ar r b).Hi)) ((df j.Race.ar r b).each) ((df j.Race.ar r b).never)))):=by
 have Y:=hin.race
 have AA:=hin.race.line
 have c:=hin.race.gQ
 have d:=hin.race.has
 have Z:=hin.race.gX
 have W:=hin.nf
 have X:=hin.np
 refine bE kr Tryz.func89 U U fun i Q hQ hN=>?_
 try dsimp only
 refine WS fun _ O=>ed U fun e=>ed U fun f=>AL U og fun g=>RK O<|ak fun _ P=>WS fun _ R=>rP 2 [] mn ?_
 refine RK R<|cr U (aT fun B=>?_) (aS fun B=>?_)
 ·refine WS fun _ S=>rP 4 [] (mc 1 U mn) ?_
  refine rS (SX (bG (xs:=[(0,.tmp 15),(1,.tmp 17)]) (cs:=(ai.cells (ai.mk r.Start r.Start))) U U (bH gU U)) U U)<|rS (SX (bG (xs:=[(0,.tmp 18),(1,.const (vB true)),(2,.const (vB false))]) (cs:=(kz.cells (kz.mk (ai.mk r.Start r.Start) true false))) U U (bH ES U)) U U)<|fj U mE U<|RK S<|ao<|z9 hQ [0] (mc 0 U mn) U ?_
  (rw [zf B])
 refine WK P<|WS fun _ T=>bx 3 U<|rS (LP (cu.cells (jr j.Race.ar kA kC cA cC bA bC)) 2 U bX U U U)<|er 2 [] (mc 1 U mn) U<|rS (CL (Ah j.Race.ar kA kC az cA cC bA bC r sgA sgC b asm hsl) (br [3,4,5,6,13]) U)<|bx 3 U<|AL U dV fun h=>fj U cT U<|bx 1 U<|RK T<|ak fun _ E=>WS fun _ F=>rP 2 [] mn ?_
 refine RK F<|cr U (aW fun A=>?_) (aV fun A=>?_)
 ·refine WS fun _ G=>rS (SX (bG (xs:=[(0,.const (vI 86400000)),(1,.const (vI 86400000))]) (cs:=(ai.cells (ai.mk 86400000 86400000))) U U (bH gU U)) U U)<|rS (SX (bG (xs:=[(0,.tmp 32),(1,.const (vB false)),(2,.const (vB true))]) (cs:=(kz.cells (kz.mk (ai.mk 86400000 86400000) false true))) U U (bH ES U)) U U)<|pZ U mE U<|RK G<|ao<|z9 hQ [0] (mc 1 U mn) U ?_
  (rw [xe B A])
 refine WK E<|WS fun _ H=>bx 3 U<|rS (LP (cu.cells (jr j.Race.ar kA kC cA cC bA bC)) 3 U bX U U U)<|rP 1 [] (mc 2 U mn) ?_
 refine cX (KR j.Race.ar kA kC az cA cC bA bC r sgA sgC asm hsl) (br [4,5,6,7,14]) U fun V a=>?_
 obtain ⟨M,N⟩:=V
 try dsimp only
 refine bx 5 U<|RK H<|WS fun _ AB=>rP 1 [] mn ?_
 refine rS (CL (Pu (fp j.Race.ar r) M N (by exact xz (rG A I)) (by have:=CU (l:=j.Race.ar) (r:=r); omega)) (aQ (aL (n:=(fp j.Race.ar r).length) 0 U sm)<|aR) U) ?_
 refine bx 3 U<|RK AB<|ak fun _ D=>WS fun _ J=>rP 2 [] mn ?_
 refine RK J<|bO U (aV fun C=>?_) (aW fun C=>?_)
 ·refine WK D<|WS fun _ L=>rP 2 [] (mc 1 U mn) ?_
  refine rS (SX (bG (xs:=[(0,.tmp 50),(1,.tmp 51),(2,.const (vB false))]) (cs:=(kz.cells (kz.mk (dy j.Race.ar r b) (decide (b<(nG (fp j.Race.ar r)))) false))) U U (bH ES U)) U U)<|DG U mE U<|RK L<|ao<|z9 hQ [0] (mc 2 U mn) U ?_
  (rw [u6 B A (by rw [BH (rG A I)]; exact cJ C),cJ C])
 refine au<|bx 1 U<|Uj (ai.cells (ai.mk ((dy j.Race.ar r b).Lo) 86400000)) U Cl U U<|RK D<|WS fun _ K=>rP 2 [] (mc 1 U mn) ?_
 refine rS (SX (bG (xs:=[(0,.tmp 50),(1,.tmp 51),(2,.const (vB false))]) (cs:=(kz.cells (kz.mk (ai.mk ((dy j.Race.ar r b).Lo) 86400000) (decide (b<(nG (fp j.Race.ar r)))) false))) U U (bH ES U)) U U)<|DG U mE U<|RK K<|ao<|z9 hQ [0] (mc 2 U mn) U ?_
 (rw [sH B A (by rw [BH (rG A I)]; exact aY C),aY C])
end
section
open Go.RowKit
theorem Jj (j:dk) (kA:OA) (kC:Nat) (az:List RA) (cA:OA) (cC:Nat) (bA:OA) (bC:Nat) (slA:OA) (slC:Nat) (drA:OA) (drC:Nat) (ha:List cU) (heA:OA) (heC:Nat) (faA:OA) (faC:Nat) (prA:OA) (prC:Nat) (fw ff ft:Int) (d:aw) (sgA:OA) (sgC:Nat) (hin:fY j az ha) (hw:0≤fw∧fw≤1000000) (hsl:d.aZ.aa.length≤1000000):
 dF Tryz.prog 49 [(vA (dT.cells (dT.mk (n7 j kA kC cA cC bA bC slA slC drA drC heA heC faA faC prA prC)))),(vA (aX.cells (aX.mk 1 fw ff ft))),(vA (bf.cells (bf.mk d.Out d.cO d.Time (im d.aZ sgA sgC))))] [(rd kA j.Race.ar.aO.length 9 (j.Race.ar.aO.map aq.cells)),(rd cA j.Race.ar.aj.length 2 (List.zipWith av.cells j.Race.ar.aj az)),(dL (bk av.fu j.Race.ar.aj az)),(rd bA j.Race.ar.ab.length 4 (j.Race.ar.ab.map bL.cells)),(rd slA j.Race.bg.length 1 (j.Race.bg.map iC)),(rd drA j.Race.cm.length 1 (j.Race.cm.map iC)),(rd heA j.Race.aB.length 1 (List.zipWith cz j.Race.aB ha)),(dL (bk eO j.Race.aB ha)),(rd faA j.ay.length 4 (j.ay.map aX.cells)),(rd prA j.aM.length 5 (j.aM.map bI.cells)),(rd sgA d.aZ.aa.length 2 (d.aZ.aa.map aH.cells))] (Value.int .u8 (gO j.Race.ar (aX.mk 1 fw ff ft) d)):=by
 have l:=hin.race
 have h:=hin.race.line
 have r:=hin.race.gQ
 have s:=hin.race.has
 have m:=hin.race.gX
 have i:=hin.nf
 have k:=hin.np
 refine bE kr Tryz.func49 U U fun u Q hQ hN=>?_
 try dsimp only
 refine WS fun _ a=>ed U fun n=>ed U fun o=>ed U fun p=>bx 1 U<|RK a<|ak fun _ b=>WS fun _ c=>er 1 [] (mc 0 U mn) U<|rS (CL (tg d.Out d.cO d.Time (im d.aZ sgA sgC)) (aR) U)<|rP 1 [] mn ?_
 refine RK c<|cr U (aW fun A=>?_) (aV fun A=>?_)
 ·refine WS fun _ e=>rP 1 [] mn ?_
  refine RK e<|ao<|Q1 hQ U U U ?_
  (rw [nj (fun q=>A q)]; done)
 refine WK b<|ak fun _ f=>dx ck [4,5] [] [] [0,1,2,3,4,5,6,7,8,9,10,11,12,13] [] U U U U U<|eS U (CL xG (aR) U)<|eS U (FA 0 U eV U)<|eS U (L1 (Value.int .u8 1) 1 U bX U U)<|eS U (SX (uM (vs:=(e8.cells (e8.mk (Value.func (.func 121) [].toArray [].toArray) (Value.func (.func 120) [].toArray [].toArray)))) 1 U U U Ha bX U dc U) U U)<|eo U<|cd U fun T9 g=>AL U GK fun X=>aD (g _ _ (aN [1,2,3,4,5,6,7,8,9,10,11,12,13,14]) ?_)
 refine cd U fun T11 W=>fj U HS U<|aD (W _ _ (aN [1,2,3,4,5,6,7,8,9,10,11,12,13,14]) ?_)
 refine fh U<|KK f<|WS fun _ V=>er 4 [0,1,2] (mc 0 U (mc 3 U (mc 2 U mn))) U<|rS (CL (Ry j kA kC cA cC bA bC slA slC drA drC heA heC faA faC prA prC 1 fw ff ft) (aR) U)<|rP 5 [] mn ?_
 refine RK V<|ak fun _ AA=>mx ck [0,1,2,3,4,5,6,7,8,9] [10,11,12,13] [false,false,false,false,false,false,false,false,false,false] [] [(cy X 173 (e8.cells (e8.mk (Value.func (.func 121) [].toArray [].toArray) (Value.func (.func 120) [].toArray [].toArray)))),(cy p 67 (bf.cells (bf.mk d.Out d.cO d.Time (im d.aZ sgA sgC)))),(cy o 71 (aX.cells (aX.mk 1 fw ff ft))),(cy n 111 (dT.cells (dT.mk (n7 j kA kC cA cC bA bC slA slC drA drC heA heC faA faC prA prC)))),(rd kA j.Race.ar.aO.length 9 (j.Race.ar.aO.map aq.cells)).ro,(rd cA j.Race.ar.aj.length 2 (List.zipWith av.cells j.Race.ar.aj az)).ro,(dL (bk av.fu j.Race.ar.aj az)).ro,(rd bA j.Race.ar.ab.length 4 (j.Race.ar.ab.map bL.cells)).ro,(rd slA j.Race.bg.length 1 (j.Race.bg.map iC)).ro,(rd drA j.Race.cm.length 1 (j.Race.cm.map iC)).ro,(rd heA j.Race.aB.length 1 (List.zipWith cz j.Race.aB ha)).ro,(dL (bk eO j.Race.aB ha)).ro,(rd faA j.ay.length 4 (j.ay.map aX.cells)).ro,(rd prA j.aM.length 5 (j.aM.map bI.cells)).ro,(rd sgA d.aZ.aa.length 2 (d.aZ.aa.map aH.cells)).ro] [] kr (aN [0,1,2,3,4,5,6,7,8,9,10,11,12,13,14]) (aN [])<|eS U (LW 3 U bX U U)<|eS U (FA 4 U eV U)<|eS U (LP (de.cells (im d.aZ sgA sgC)) 1 U bX U U U)<|eS U (MV U)<|eS U (CL (ml j kA kC az cA cC bA bC slA slC drA drC ha heA heC faA faC prA prC d.aZ sgA sgC (-1) hin hsl) (br [4,5,6,7,8,9,10,11,12,13,14]) U)<|eS U (LW 3 U bX U U)<|eS U (FA 4 U eV U)<|eS U (LP (de.cells (im d.aZ sgA sgC)) 1 U bX U U U)<|eS U (MV U)<|eS U (CL (ml j kA kC az cA cC bA bC slA slC drA drC ha heA heC faA faC prA prC d.aZ sgA sgC j.Race.ar.b_ hin hsl) (br [4,5,6,7,8,9,10,11,12,13,14]) U)<|eo U<|mj [10,11] kr (ik ?_<|ik ?_<|pg)
 rotate_left 1
 ·refine NO U U [10,12,13] fun T14 P=>AL U og fun Y=>RD P 1 U<|N1 10<|NO U U [12,13] fun T16 R=>AL U og fun Z=>RD R 2 U<|N1 12<|NO U U [13] fun T18 S=>fj U mE U<|RD S 2 U<|N1 13<|NO U U [] fun T19 T=>pZ U mE U<|RD T 2 U<|lp<|KK AA<|ak fun _ F=>aC<|WS fun _ E=>rP 3 [] (mc 0 U mn) ?_
  refine bP (t:=40) U (fun C=>?_) (fun C=>?_)
  ·refine bx 16 U<|RK E<|aI U<|WS fun _ J=>rP 1 [] mn ?_
   refine RK J<|ao<|Q1 hQ U U U ?_
   (rw [gJ rfl A]; (rw [eJ (.inl C)]; done))
  refine rP 8 [0,1] (mc 0 U (mc 4 U mn)) ?_
  refine bP (t:=48) U (aT fun D=>?_) (aS fun D=>?_)
  ·refine bx 8 U<|RK E<|aI U<|WS fun _ K=>rP 1 [] mn ?_
   refine RK K<|ao<|Q1 hQ U U U ?_
   (rw [gJ rfl A]; (rw [eJ (.inr (.inl D))]; done))
  refine rP 8 [0,1] (mc 1 U (mc 4 U mn)) ?_
  refine RK E<|cr U (aT fun B=>?_) (aS fun B=>?_)
  ·refine WS fun _ L=>rP 1 [] mn ?_
   refine RK L<|ao<|Q1 hQ U U U ?_
   (rw [gJ rfl A]; (rw [eJ (.inr (.inr B))]; done))
  refine WS fun _ G=>rP 3 [] (mc 0 U mn) ?_
  refine db (t:=59) U (fun AB=>?_) (fun AB=>?_)
  ·refine bx 8 U<|RK G<|bT U<|cp<|aK<|KK F<|WS fun _ O=>rP 1 [] mn ?_
   refine RK O<|ao<|Q1 hQ U U U ?_
   (rw [gJ rfl A]; (rw [gd (sS (by simpa using C) (by first|exact D|(simp only []; omega)) (by first|exact B|(simp only []; omega))) (fun q=>by rw [AB] at q; exact Bool.noConfusion q.1)]; done))
  refine er 5 [0,1,2,3] (mc 2 U (mc 4 U (mc 0 U (mc 1 U mn)))) U<|rS (CL (sW 1 fw ff ft ((df j.Race.ar d.aZ (-1)).Lo) ((df j.Race.ar d.aZ (-1)).Hi) ((df j.Race.ar d.aZ (-1)).each) ((df j.Race.ar d.aZ (-1)).never) ((df j.Race.ar d.aZ j.Race.ar.b_).Lo) ((df j.Race.ar d.aZ j.Race.ar.b_).Hi) ((df j.Race.ar d.aZ j.Race.ar.b_).each) ((df j.Race.ar d.aZ j.Race.ar.b_).never)) (aR) U)<|rP 2 [] mn ?_
  refine RK G<|cr U (aT fun H=>?_) (aS fun H=>?_)
  ·refine WS fun _ M=>rP 1 [] mn ?_
   refine RK M<|ao<|Q1 hQ U U U ?_
   (rw [gJ rfl A]; (rw [ly (sS (by simpa using C) (by first|exact D|(simp only []; omega)) (by first|exact B|(simp only []; omega))) AB ((j0 (show ¬ (1:Int)=3 by decide)).2 H)]; done))
  refine cp<|aK<|KK F<|WS fun _ N=>rP 1 [] mn ?_
  refine RK N<|ao<|Q1 hQ U U U ?_
  (rw [gJ rfl A]; (rw [gd (sS (by simpa using C) (by first|exact D|(simp only []; omega)) (by first|exact B|(simp only []; omega))) (fun q=>H ((j0 (show ¬ (1:Int)=3 by decide)).1 q.2))]; done))
 refine NO U U [11,12,13] fun T14 P=>AL U og fun Y=>RD P 1 U<|N1 11<|NO U U [12,13] fun T16 R=>AL U og fun Z=>RD R 2 U<|N1 12<|NO U U [13] fun T18 S=>pZ U mE U<|RD S 2 U<|N1 13<|NO U U [] fun T19 T=>fj U mE U<|RD T 2 U<|lp<|KK AA<|ak fun _ F=>aC<|WS fun _ E=>rP 3 [] (mc 1 U mn) ?_
 refine bP (t:=40) U (fun C=>?_) (fun C=>?_)
 ·refine bx 16 U<|RK E<|aI U<|WS fun _ J=>rP 1 [] mn ?_
  refine RK J<|ao<|Q1 hQ U U U ?_
  (rw [gJ rfl A]; (rw [eJ (.inl C)]; done))
 refine rP 8 [0,1] (mc 1 U (mc 4 U mn)) ?_
 refine bP (t:=48) U (aT fun D=>?_) (aS fun D=>?_)
 ·refine bx 8 U<|RK E<|aI U<|WS fun _ K=>rP 1 [] mn ?_
  refine RK K<|ao<|Q1 hQ U U U ?_
  (rw [gJ rfl A]; (rw [eJ (.inr (.inl D))]; done))
 refine rP 8 [0,1] (mc 0 U (mc 4 U mn)) ?_
 refine RK E<|cr U (aT fun B=>?_) (aS fun B=>?_)
 ·refine WS fun _ L=>rP 1 [] mn ?_
  refine RK L<|ao<|Q1 hQ U U U ?_
  (rw [gJ rfl A]; (rw [eJ (.inr (.inr B))]; done))
 refine WS fun _ G=>rP 3 [] (mc 1 U mn) ?_
 refine db (t:=59) U (fun AB=>?_) (fun AB=>?_)
 ·refine bx 8 U<|RK G<|bT U<|cp<|aK<|KK F<|WS fun _ O=>rP 1 [] mn ?_
  refine RK O<|ao<|Q1 hQ U U U ?_
  (rw [gJ rfl A]; (rw [gd (sS (by simpa using C) (by first|exact D|(simp only []; omega)) (by first|exact B|(simp only []; omega))) (fun q=>by rw [AB] at q; exact Bool.noConfusion q.1)]; done))
 refine er 5 [0,1,2,3] (mc 2 U (mc 4 U (mc 1 U (mc 0 U mn)))) U<|rS (CL (sW 1 fw ff ft ((df j.Race.ar d.aZ (-1)).Lo) ((df j.Race.ar d.aZ (-1)).Hi) ((df j.Race.ar d.aZ (-1)).each) ((df j.Race.ar d.aZ (-1)).never) ((df j.Race.ar d.aZ j.Race.ar.b_).Lo) ((df j.Race.ar d.aZ j.Race.ar.b_).Hi) ((df j.Race.ar d.aZ j.Race.ar.b_).each) ((df j.Race.ar d.aZ j.Race.ar.b_).never)) (aR) U)<|rP 2 [] mn ?_
 refine RK G<|cr U (aT fun H=>?_) (aS fun H=>?_)
 ·refine WS fun _ M=>rP 1 [] mn ?_
  refine RK M<|ao<|Q1 hQ U U U ?_
  (rw [gJ rfl A]; (rw [ly (sS (by simpa using C) (by first|exact D|(simp only []; omega)) (by first|exact B|(simp only []; omega))) AB ((j0 (show ¬ (1:Int)=3 by decide)).2 H)]; done))
 refine cp<|aK<|KK F<|WS fun _ N=>rP 1 [] mn ?_
 refine RK N<|ao<|Q1 hQ U U U ?_
 (rw [gJ rfl A]; (rw [gd (sS (by simpa using C) (by first|exact D|(simp only []; omega)) (by first|exact B|(simp only []; omega))) (fun q=>H ((j0 (show ¬ (1:Int)=3 by decide)).1 q.2))]; done))
theorem Ic (j:dk) (kA:OA) (kC:Nat) (az:List RA) (cA:OA) (cC:Nat) (bA:OA) (bC:Nat) (slA:OA) (slC:Nat) (drA:OA) (drC:Nat) (ha:List cU) (heA:OA) (heC:Nat) (faA:OA) (faC:Nat) (prA:OA) (prC:Nat) (fw ff ft:Int) (d:aw) (sgA:OA) (sgC:Nat) (hin:fY j az ha) (hw:0≤fw∧fw≤1000000) (hsl:d.aZ.aa.length≤1000000):
 dF Tryz.prog 49 [(vA (dT.cells (dT.mk (n7 j kA kC cA cC bA bC slA slC drA drC heA heC faA faC prA prC)))),(vA (aX.cells (aX.mk 2 fw ff ft))),(vA (bf.cells (bf.mk d.Out d.cO d.Time (im d.aZ sgA sgC))))] [(rd kA j.Race.ar.aO.length 9 (j.Race.ar.aO.map aq.cells)),(rd cA j.Race.ar.aj.length 2 (List.zipWith av.cells j.Race.ar.aj az)),(dL (bk av.fu j.Race.ar.aj az)),(rd bA j.Race.ar.ab.length 4 (j.Race.ar.ab.map bL.cells)),(rd slA j.Race.bg.length 1 (j.Race.bg.map iC)),(rd drA j.Race.cm.length 1 (j.Race.cm.map iC)),(rd heA j.Race.aB.length 1 (List.zipWith cz j.Race.aB ha)),(dL (bk eO j.Race.aB ha)),(rd faA j.ay.length 4 (j.ay.map aX.cells)),(rd prA j.aM.length 5 (j.aM.map bI.cells)),(rd sgA d.aZ.aa.length 2 (d.aZ.aa.map aH.cells))] (Value.int .u8 (gO j.Race.ar (aX.mk 2 fw ff ft) d)):=by
 have l:=hin.race
 have h:=hin.race.line
 have r:=hin.race.gQ
 have s:=hin.race.has
 have m:=hin.race.gX
 have i:=hin.nf
 have k:=hin.np
 refine bE kr Tryz.func49 U U fun u Q hQ hN=>?_
 try dsimp only
 refine WS fun _ a=>ed U fun n=>ed U fun o=>ed U fun p=>bx 1 U<|RK a<|ak fun _ b=>WS fun _ c=>er 1 [] (mc 0 U mn) U<|rS (CL (tg d.Out d.cO d.Time (im d.aZ sgA sgC)) (aR) U)<|rP 1 [] mn ?_
 refine RK c<|cr U (aW fun A=>?_) (aV fun A=>?_)
 ·refine WS fun _ e=>rP 1 [] mn ?_
  refine RK e<|ao<|Q1 hQ U U U ?_
  (rw [nj (fun q=>A q)]; done)
 refine WK b<|ak fun _ f=>dx ck [4,5] [] [] [0,1,2,3,4,5,6,7,8,9,10,11,12,13] [] U U U U U<|eS U (CL xG (aR) U)<|eS U (FA 0 U eV U)<|eS U (L1 (Value.int .u8 2) 1 U bX U U)<|eS U (SX (uM (vs:=(e8.cells (e8.mk (Value.func (.func 122) [].toArray [].toArray) (Value.func (.func 120) [].toArray [].toArray)))) 2 U U U Ha bX U dc U) U U)<|eo U<|cd U fun T9 g=>AL U GK fun X=>aD (g _ _ (aN [1,2,3,4,5,6,7,8,9,10,11,12,13,14]) ?_)
 refine cd U fun T11 W=>fj U HS U<|aD (W _ _ (aN [1,2,3,4,5,6,7,8,9,10,11,12,13,14]) ?_)
 refine fh U<|KK f<|WS fun _ V=>er 4 [0,1,2] (mc 0 U (mc 3 U (mc 2 U mn))) U<|rS (CL (P7 j kA kC cA cC bA bC slA slC drA drC heA heC faA faC prA prC 2 fw ff ft hw) (aR) U)<|rP 5 [] mn ?_
 refine RK V<|ak fun _ AA=>mx ck [0,1,2,3,4,5,6,7,8,9] [10,11,12,13] [false,false,false,false,false,false,false,false,false,false] [] [(cy X 173 (e8.cells (e8.mk (Value.func (.func 122) [].toArray [].toArray) (Value.func (.func 120) [].toArray [].toArray)))),(cy p 67 (bf.cells (bf.mk d.Out d.cO d.Time (im d.aZ sgA sgC)))),(cy o 71 (aX.cells (aX.mk 2 fw ff ft))),(cy n 111 (dT.cells (dT.mk (n7 j kA kC cA cC bA bC slA slC drA drC heA heC faA faC prA prC)))),(rd kA j.Race.ar.aO.length 9 (j.Race.ar.aO.map aq.cells)).ro,(rd cA j.Race.ar.aj.length 2 (List.zipWith av.cells j.Race.ar.aj az)).ro,(dL (bk av.fu j.Race.ar.aj az)).ro,(rd bA j.Race.ar.ab.length 4 (j.Race.ar.ab.map bL.cells)).ro,(rd slA j.Race.bg.length 1 (j.Race.bg.map iC)).ro,(rd drA j.Race.cm.length 1 (j.Race.cm.map iC)).ro,(rd heA j.Race.aB.length 1 (List.zipWith cz j.Race.aB ha)).ro,(dL (bk eO j.Race.aB ha)).ro,(rd faA j.ay.length 4 (j.ay.map aX.cells)).ro,(rd prA j.aM.length 5 (j.aM.map bI.cells)).ro,(rd sgA d.aZ.aa.length 2 (d.aZ.aa.map aH.cells)).ro] [] kr (aN [0,1,2,3,4,5,6,7,8,9,10,11,12,13,14]) (aN [])<|eS U (LW 3 U bX U U)<|eS U (FA 4 U eV U)<|eS U (LP (de.cells (im d.aZ sgA sgC)) 1 U bX U U U)<|eS U (MV U)<|eS U (CL (ml j kA kC az cA cC bA bC slA slC drA drC ha heA heC faA faC prA prC d.aZ sgA sgC (fw-1) hin hsl) (br [4,5,6,7,8,9,10,11,12,13,14]) U)<|eS U (LW 3 U bX U U)<|eS U (FA 4 U eV U)<|eS U (LP (de.cells (im d.aZ sgA sgC)) 1 U bX U U U)<|eS U (MV U)<|eS U (CL (ml j kA kC az cA cC bA bC slA slC drA drC ha heA heC faA faC prA prC d.aZ sgA sgC fw hin hsl) (br [4,5,6,7,8,9,10,11,12,13,14]) U)<|eo U<|mj [10,11] kr (ik ?_<|ik ?_<|pg)
 rotate_left 1
 ·refine NO U U [10,12,13] fun T14 P=>AL U og fun Y=>RD P 1 U<|N1 10<|NO U U [12,13] fun T16 R=>AL U og fun Z=>RD R 2 U<|N1 12<|NO U U [13] fun T18 S=>fj U mE U<|RD S 2 U<|N1 13<|NO U U [] fun T19 T=>pZ U mE U<|RD T 2 U<|lp<|KK AA<|ak fun _ F=>aC<|WS fun _ E=>rP 3 [] (mc 0 U mn) ?_
  refine bP (t:=40) U (fun C=>?_) (fun C=>?_)
  ·refine bx 16 U<|RK E<|aI U<|WS fun _ J=>rP 1 [] mn ?_
   refine RK J<|ao<|Q1 hQ U U U ?_
   (rw [gS rfl A]; (rw [eJ (.inl C)]; done))
  refine rP 8 [0,1] (mc 0 U (mc 4 U mn)) ?_
  refine bP (t:=48) U (aT fun D=>?_) (aS fun D=>?_)
  ·refine bx 8 U<|RK E<|aI U<|WS fun _ K=>rP 1 [] mn ?_
   refine RK K<|ao<|Q1 hQ U U U ?_
   (rw [gS rfl A]; (rw [eJ (.inr (.inl D))]; done))
  refine rP 8 [0,1] (mc 1 U (mc 4 U mn)) ?_
  refine RK E<|cr U (aT fun B=>?_) (aS fun B=>?_)
  ·refine WS fun _ L=>rP 1 [] mn ?_
   refine RK L<|ao<|Q1 hQ U U U ?_
   (rw [gS rfl A]; (rw [eJ (.inr (.inr B))]; done))
  refine WS fun _ G=>rP 3 [] (mc 0 U mn) ?_
  refine db (t:=59) U (fun AB=>?_) (fun AB=>?_)
  ·refine bx 8 U<|RK G<|bT U<|cp<|aK<|KK F<|WS fun _ O=>rP 1 [] mn ?_
   refine RK O<|ao<|Q1 hQ U U U ?_
   (rw [gS rfl A]; (rw [gd (sS (by simpa using C) (by first|exact D|(simp only []; omega)) (by first|exact B|(simp only []; omega))) (fun q=>by rw [AB] at q; exact Bool.noConfusion q.1)]; done))
  refine er 5 [0,1,2,3] (mc 2 U (mc 4 U (mc 0 U (mc 1 U mn)))) U<|rS (CL (sW 2 fw ff ft ((df j.Race.ar d.aZ (fw-1)).Lo) ((df j.Race.ar d.aZ (fw-1)).Hi) ((df j.Race.ar d.aZ (fw-1)).each) ((df j.Race.ar d.aZ (fw-1)).never) ((df j.Race.ar d.aZ fw).Lo) ((df j.Race.ar d.aZ fw).Hi) ((df j.Race.ar d.aZ fw).each) ((df j.Race.ar d.aZ fw).never)) (aR) U)<|rP 2 [] mn ?_
  refine RK G<|cr U (aT fun H=>?_) (aS fun H=>?_)
  ·refine WS fun _ M=>rP 1 [] mn ?_
   refine RK M<|ao<|Q1 hQ U U U ?_
   (rw [gS rfl A]; (rw [ly (sS (by simpa using C) (by first|exact D|(simp only []; omega)) (by first|exact B|(simp only []; omega))) AB ((j0 (show ¬ (2:Int)=3 by decide)).2 H)]; done))
  refine cp<|aK<|KK F<|WS fun _ N=>rP 1 [] mn ?_
  refine RK N<|ao<|Q1 hQ U U U ?_
  (rw [gS rfl A]; (rw [gd (sS (by simpa using C) (by first|exact D|(simp only []; omega)) (by first|exact B|(simp only []; omega))) (fun q=>H ((j0 (show ¬ (2:Int)=3 by decide)).1 q.2))]; done))
 refine NO U U [11,12,13] fun T14 P=>AL U og fun Y=>RD P 1 U<|N1 11<|NO U U [12,13] fun T16 R=>AL U og fun Z=>RD R 2 U<|N1 12<|NO U U [13] fun T18 S=>pZ U mE U<|RD S 2 U<|N1 13<|NO U U [] fun T19 T=>fj U mE U<|RD T 2 U<|lp<|KK AA<|ak fun _ F=>aC<|WS fun _ E=>rP 3 [] (mc 1 U mn) ?_
 refine bP (t:=40) U (fun C=>?_) (fun C=>?_)
 ·refine bx 16 U<|RK E<|aI U<|WS fun _ J=>rP 1 [] mn ?_
  refine RK J<|ao<|Q1 hQ U U U ?_
  (rw [gS rfl A]; (rw [eJ (.inl C)]; done))
 refine rP 8 [0,1] (mc 1 U (mc 4 U mn)) ?_
 refine bP (t:=48) U (aT fun D=>?_) (aS fun D=>?_)
 ·refine bx 8 U<|RK E<|aI U<|WS fun _ K=>rP 1 [] mn ?_
  refine RK K<|ao<|Q1 hQ U U U ?_
  (rw [gS rfl A]; (rw [eJ (.inr (.inl D))]; done))
 refine rP 8 [0,1] (mc 0 U (mc 4 U mn)) ?_
 refine RK E<|cr U (aT fun B=>?_) (aS fun B=>?_)
 ·refine WS fun _ L=>rP 1 [] mn ?_
  refine RK L<|ao<|Q1 hQ U U U ?_
  (rw [gS rfl A]; (rw [eJ (.inr (.inr B))]; done))
 refine WS fun _ G=>rP 3 [] (mc 1 U mn) ?_
 refine db (t:=59) U (fun AB=>?_) (fun AB=>?_)
 ·refine bx 8 U<|RK G<|bT U<|cp<|aK<|KK F<|WS fun _ O=>rP 1 [] mn ?_
  refine RK O<|ao<|Q1 hQ U U U ?_
  (rw [gS rfl A]; (rw [gd (sS (by simpa using C) (by first|exact D|(simp only []; omega)) (by first|exact B|(simp only []; omega))) (fun q=>by rw [AB] at q; exact Bool.noConfusion q.1)]; done))
 refine er 5 [0,1,2,3] (mc 2 U (mc 4 U (mc 1 U (mc 0 U mn)))) U<|rS (CL (sW 2 fw ff ft ((df j.Race.ar d.aZ (fw-1)).Lo) ((df j.Race.ar d.aZ (fw-1)).Hi) ((df j.Race.ar d.aZ (fw-1)).each) ((df j.Race.ar d.aZ (fw-1)).never) ((df j.Race.ar d.aZ fw).Lo) ((df j.Race.ar d.aZ fw).Hi) ((df j.Race.ar d.aZ fw).each) ((df j.Race.ar d.aZ fw).never)) (aR) U)<|rP 2 [] mn ?_
 refine RK G<|cr U (aT fun H=>?_) (aS fun H=>?_)
 ·refine WS fun _ M=>rP 1 [] mn ?_
  refine RK M<|ao<|Q1 hQ U U U ?_
  (rw [gS rfl A]; (rw [ly (sS (by simpa using C) (by first|exact D|(simp only []; omega)) (by first|exact B|(simp only []; omega))) AB ((j0 (show ¬ (2:Int)=3 by decide)).2 H)]; done))
 refine cp<|aK<|KK F<|WS fun _ N=>rP 1 [] mn ?_
 refine RK N<|ao<|Q1 hQ U U U ?_
 (rw [gS rfl A]; (rw [gd (sS (by simpa using C) (by first|exact D|(simp only []; omega)) (by first|exact B|(simp only []; omega))) (fun q=>H ((j0 (show ¬ (2:Int)=3 by decide)).1 q.2))]; done))
theorem GL (j:dk) (kA:OA) (kC:Nat) (az:List RA) (cA:OA) (cC:Nat) (bA:OA) (bC:Nat) (slA:OA) (slC:Nat) (drA:OA) (drC:Nat) (ha:List cU) (heA:OA) (heC:Nat) (faA:OA) (faC:Nat) (prA:OA) (prC:Nat) (fw ff ft:Int) (d:aw) (sgA:OA) (sgC:Nat) (hin:fY j az ha) (hw:0≤fw∧fw≤1000000) (hsl:d.aZ.aa.length≤1000000):
 dF Tryz.prog 49 [(vA (dT.cells (dT.mk (n7 j kA kC cA cC bA bC slA slC drA drC heA heC faA faC prA prC)))),(vA (aX.cells (aX.mk 3 fw ff ft))),(vA (bf.cells (bf.mk d.Out d.cO d.Time (im d.aZ sgA sgC))))] [(rd kA j.Race.ar.aO.length 9 (j.Race.ar.aO.map aq.cells)),(rd cA j.Race.ar.aj.length 2 (List.zipWith av.cells j.Race.ar.aj az)),(dL (bk av.fu j.Race.ar.aj az)),(rd bA j.Race.ar.ab.length 4 (j.Race.ar.ab.map bL.cells)),(rd slA j.Race.bg.length 1 (j.Race.bg.map iC)),(rd drA j.Race.cm.length 1 (j.Race.cm.map iC)),(rd heA j.Race.aB.length 1 (List.zipWith cz j.Race.aB ha)),(dL (bk eO j.Race.aB ha)),(rd faA j.ay.length 4 (j.ay.map aX.cells)),(rd prA j.aM.length 5 (j.aM.map bI.cells)),(rd sgA d.aZ.aa.length 2 (d.aZ.aa.map aH.cells))] (Value.int .u8 (gO j.Race.ar (aX.mk 3 fw ff ft) d)):=by
 have l:=hin.race
 have h:=hin.race.line
 have r:=hin.race.gQ
 have s:=hin.race.has
 have m:=hin.race.gX
 have i:=hin.nf
 have k:=hin.np
 refine bE kr Tryz.func49 U U fun u Q hQ hN=>?_
 try dsimp only
 refine WS fun _ a=>ed U fun n=>ed U fun o=>ed U fun p=>bx 1 U<|RK a<|ak fun _ b=>WS fun _ c=>er 1 [] (mc 0 U mn) U<|rS (CL (tg d.Out d.cO d.Time (im d.aZ sgA sgC)) (aR) U)<|rP 1 [] mn ?_
 refine RK c<|cr U (aW fun A=>?_) (aV fun A=>?_)
 ·refine WS fun _ e=>rP 1 [] mn ?_
  refine RK e<|ao<|Q1 hQ U U U ?_
  (rw [nj (fun q=>A q)]; done)
 refine WK b<|ak fun _ f=>dx ck [4,5] [] [] [0,1,2,3,4,5,6,7,8,9,10,11,12,13] [] U U U U U<|eS U (CL xG (aR) U)<|eS U (FA 0 U eV U)<|eS U (L1 (Value.int .u8 3) 1 U bX U U)<|eS U (SX (uM (vs:=(e8.cells (e8.mk (Value.func (.func 123) [].toArray [].toArray) (Value.func (.func 124) [].toArray [].toArray)))) 3 U U U Ha bX U dc U) U U)<|eo U<|cd U fun T9 g=>AL U GK fun X=>aD (g _ _ (aN [1,2,3,4,5,6,7,8,9,10,11,12,13,14]) ?_)
 refine cd U fun T11 W=>fj U HS U<|aD (W _ _ (aN [1,2,3,4,5,6,7,8,9,10,11,12,13,14]) ?_)
 refine fh U<|KK f<|WS fun _ V=>er 4 [0,1,2] (mc 0 U (mc 3 U (mc 2 U mn))) U<|rS (CL (Rg j kA kC cA cC bA bC slA slC drA drC heA heC faA faC prA prC 3 fw ff ft) (aR) U)<|rP 5 [] mn ?_
 refine RK V<|ak fun _ AA=>mx ck [0,1,2,3,4,5,6,7,8,9] [10,11,12,13] [false,false,false,false,false,false,false,false,false,false] [] [(cy X 173 (e8.cells (e8.mk (Value.func (.func 123) [].toArray [].toArray) (Value.func (.func 124) [].toArray [].toArray)))),(cy p 67 (bf.cells (bf.mk d.Out d.cO d.Time (im d.aZ sgA sgC)))),(cy o 71 (aX.cells (aX.mk 3 fw ff ft))),(cy n 111 (dT.cells (dT.mk (n7 j kA kC cA cC bA bC slA slC drA drC heA heC faA faC prA prC)))),(rd kA j.Race.ar.aO.length 9 (j.Race.ar.aO.map aq.cells)).ro,(rd cA j.Race.ar.aj.length 2 (List.zipWith av.cells j.Race.ar.aj az)).ro,(dL (bk av.fu j.Race.ar.aj az)).ro,(rd bA j.Race.ar.ab.length 4 (j.Race.ar.ab.map bL.cells)).ro,(rd slA j.Race.bg.length 1 (j.Race.bg.map iC)).ro,(rd drA j.Race.cm.length 1 (j.Race.cm.map iC)).ro,(rd heA j.Race.aB.length 1 (List.zipWith cz j.Race.aB ha)).ro,(dL (bk eO j.Race.aB ha)).ro,(rd faA j.ay.length 4 (j.ay.map aX.cells)).ro,(rd prA j.aM.length 5 (j.aM.map bI.cells)).ro,(rd sgA d.aZ.aa.length 2 (d.aZ.aa.map aH.cells)).ro] [] kr (aN [0,1,2,3,4,5,6,7,8,9,10,11,12,13,14]) (aN [])<|eS U (LW 3 U bX U U)<|eS U (FA 4 U eV U)<|eS U (LP (de.cells (im d.aZ sgA sgC)) 1 U bX U U U)<|eS U (MV U)<|eS U (CL (ml j kA kC az cA cC bA bC slA slC drA drC ha heA heC faA faC prA prC d.aZ sgA sgC fw hin hsl) (br [4,5,6,7,8,9,10,11,12,13,14]) U)<|eS U (LW 3 U bX U U)<|eS U (FA 4 U eV U)<|eS U (LP (de.cells (im d.aZ sgA sgC)) 1 U bX U U U)<|eS U (MV U)<|eS U (CL (ml j kA kC az cA cC bA bC slA slC drA drC ha heA heC faA faC prA prC d.aZ sgA sgC fw hin hsl) (br [4,5,6,7,8,9,10,11,12,13,14]) U)<|eo U<|mj [10,11] kr (ik ?_<|ik ?_<|pg)
 rotate_left 1
 ·refine NO U U [10,12,13] fun T14 P=>AL U og fun Y=>RD P 1 U<|N1 10<|NO U U [12,13] fun T16 R=>AL U og fun Z=>RD R 2 U<|N1 12<|NO U U [13] fun T18 S=>fj U mE U<|RD S 2 U<|N1 13<|NO U U [] fun T19 T=>pZ U mE U<|RD T 2 U<|lp<|KK AA<|ak fun _ F=>aC<|WS fun _ E=>rP 3 [] (mc 0 U mn) ?_
  refine bP (t:=40) U (fun C=>?_) (fun C=>?_)
  ·refine bx 16 U<|RK E<|aI U<|WS fun _ J=>rP 1 [] mn ?_
   refine RK J<|ao<|Q1 hQ U U U ?_
   (rw [gK rfl A]; (rw [eJ (.inl C)]; done))
  refine rP 8 [0,1] (mc 0 U (mc 4 U mn)) ?_
  refine bP (t:=48) U (aT fun D=>?_) (aS fun D=>?_)
  ·refine bx 8 U<|RK E<|aI U<|WS fun _ K=>rP 1 [] mn ?_
   refine RK K<|ao<|Q1 hQ U U U ?_
   (rw [gK rfl A]; (rw [eJ (.inr (.inl D))]; done))
  refine rP 8 [0,1] (mc 1 U (mc 4 U mn)) ?_
  refine RK E<|cr U (aT fun B=>?_) (aS fun B=>?_)
  ·refine WS fun _ L=>rP 1 [] mn ?_
   refine RK L<|ao<|Q1 hQ U U U ?_
   (rw [gK rfl A]; (rw [eJ (.inr (.inr B))]; done))
  refine WS fun _ G=>rP 3 [] (mc 0 U mn) ?_
  refine db (t:=59) U (fun AB=>?_) (fun AB=>?_)
  ·refine bx 8 U<|RK G<|bT U<|cp<|aK<|KK F<|WS fun _ O=>rP 1 [] mn ?_
   refine RK O<|ao<|Q1 hQ U U U ?_
   (rw [gK rfl A]; (rw [gd (sS (by simpa using C) (by first|exact D|(simp only []; omega)) (by first|exact B|(simp only []; omega))) (fun q=>by rw [AB] at q; exact Bool.noConfusion q.1)]; done))
  refine er 5 [0,1,2,3] (mc 2 U (mc 4 U (mc 0 U (mc 1 U mn)))) U<|rS (CL (Em 3 fw ff ft ((df j.Race.ar d.aZ fw).Lo) ((df j.Race.ar d.aZ fw).Hi) ((df j.Race.ar d.aZ fw).each) ((df j.Race.ar d.aZ fw).never) ((df j.Race.ar d.aZ fw).Lo) ((df j.Race.ar d.aZ fw).Hi) ((df j.Race.ar d.aZ fw).each) ((df j.Race.ar d.aZ fw).never)) (aR) U)<|rP 2 [] mn ?_
  refine RK G<|cr U (aT fun H=>?_) (aS fun H=>?_)
  ·refine WS fun _ M=>rP 1 [] mn ?_
   refine RK M<|ao<|Q1 hQ U U U ?_
   (rw [gK rfl A]; (rw [ly (sS (by simpa using C) (by first|exact D|(simp only []; omega)) (by first|exact B|(simp only []; omega))) AB ((zX rfl).2 H)]; done))
  refine cp<|aK<|KK F<|WS fun _ N=>rP 1 [] mn ?_
  refine RK N<|ao<|Q1 hQ U U U ?_
  (rw [gK rfl A]; (rw [gd (sS (by simpa using C) (by first|exact D|(simp only []; omega)) (by first|exact B|(simp only []; omega))) (fun q=>H ((zX rfl).1 q.2))]; done))
 refine NO U U [11,12,13] fun T14 P=>AL U og fun Y=>RD P 1 U<|N1 11<|NO U U [12,13] fun T16 R=>AL U og fun Z=>RD R 2 U<|N1 12<|NO U U [13] fun T18 S=>pZ U mE U<|RD S 2 U<|N1 13<|NO U U [] fun T19 T=>fj U mE U<|RD T 2 U<|lp<|KK AA<|ak fun _ F=>aC<|WS fun _ E=>rP 3 [] (mc 1 U mn) ?_
 refine bP (t:=40) U (fun C=>?_) (fun C=>?_)
 ·refine bx 16 U<|RK E<|aI U<|WS fun _ J=>rP 1 [] mn ?_
  refine RK J<|ao<|Q1 hQ U U U ?_
  (rw [gK rfl A]; (rw [eJ (.inl C)]; done))
 refine rP 8 [0,1] (mc 1 U (mc 4 U mn)) ?_
 refine bP (t:=48) U (aT fun D=>?_) (aS fun D=>?_)
 ·refine bx 8 U<|RK E<|aI U<|WS fun _ K=>rP 1 [] mn ?_
  refine RK K<|ao<|Q1 hQ U U U ?_
  (rw [gK rfl A]; (rw [eJ (.inr (.inl D))]; done))
 refine rP 8 [0,1] (mc 0 U (mc 4 U mn)) ?_
 refine RK E<|cr U (aT fun B=>?_) (aS fun B=>?_)
 ·refine WS fun _ L=>rP 1 [] mn ?_
  refine RK L<|ao<|Q1 hQ U U U ?_
  (rw [gK rfl A]; (rw [eJ (.inr (.inr B))]; done))
 refine WS fun _ G=>rP 3 [] (mc 1 U mn) ?_
 refine db (t:=59) U (fun AB=>?_) (fun AB=>?_)
 ·refine bx 8 U<|RK G<|bT U<|cp<|aK<|KK F<|WS fun _ O=>rP 1 [] mn ?_
  refine RK O<|ao<|Q1 hQ U U U ?_
  (rw [gK rfl A]; (rw [gd (sS (by simpa using C) (by first|exact D|(simp only []; omega)) (by first|exact B|(simp only []; omega))) (fun q=>by rw [AB] at q; exact Bool.noConfusion q.1)]; done))
 refine er 5 [0,1,2,3] (mc 2 U (mc 4 U (mc 1 U (mc 0 U mn)))) U<|rS (CL (Em 3 fw ff ft ((df j.Race.ar d.aZ fw).Lo) ((df j.Race.ar d.aZ fw).Hi) ((df j.Race.ar d.aZ fw).each) ((df j.Race.ar d.aZ fw).never) ((df j.Race.ar d.aZ fw).Lo) ((df j.Race.ar d.aZ fw).Hi) ((df j.Race.ar d.aZ fw).each) ((df j.Race.ar d.aZ fw).never)) (aR) U)<|rP 2 [] mn ?_
 refine RK G<|cr U (aT fun H=>?_) (aS fun H=>?_)
 ·refine WS fun _ M=>rP 1 [] mn ?_
  refine RK M<|ao<|Q1 hQ U U U ?_
  (rw [gK rfl A]; (rw [ly (sS (by simpa using C) (by first|exact D|(simp only []; omega)) (by first|exact B|(simp only []; omega))) AB ((zX rfl).2 H)]; done))
 refine cp<|aK<|KK F<|WS fun _ N=>rP 1 [] mn ?_
 refine RK N<|ao<|Q1 hQ U U U ?_
 (rw [gK rfl A]; (rw [gd (sS (by simpa using C) (by first|exact D|(simp only []; omega)) (by first|exact B|(simp only []; omega))) (fun q=>H ((zX rfl).1 q.2))]; done))
theorem ED (j:dk) (kA:OA) (kC:Nat) (az:List RA) (cA:OA) (cC:Nat) (bA:OA) (bC:Nat) (slA:OA) (slC:Nat) (drA:OA) (drC:Nat) (ha:List cU) (heA:OA) (heC:Nat) (faA:OA) (faC:Nat) (prA:OA) (prC:Nat) (f:aX) (d:aw) (sgA:OA) (sgC:Nat) (hin:fY j az ha) (hk:1≤f.Kind∧f.Kind≤3) (hw:0≤f.gW∧f.gW≤1000000) (hsl:d.aZ.aa.length≤1000000):
 dF Tryz.prog 49 [(vA (dT.cells (dT.mk (n7 j kA kC cA cC bA bC slA slC drA drC heA heC faA faC prA prC)))),(vA (aX.cells f)),(vA (bf.cells (bf.mk d.Out d.cO d.Time (im d.aZ sgA sgC))))] [(rd kA j.Race.ar.aO.length 9 (j.Race.ar.aO.map aq.cells)),(rd cA j.Race.ar.aj.length 2 (List.zipWith av.cells j.Race.ar.aj az)),(dL (bk av.fu j.Race.ar.aj az)),(rd bA j.Race.ar.ab.length 4 (j.Race.ar.ab.map bL.cells)),(rd slA j.Race.bg.length 1 (j.Race.bg.map iC)),(rd drA j.Race.cm.length 1 (j.Race.cm.map iC)),(rd heA j.Race.aB.length 1 (List.zipWith cz j.Race.aB ha)),(dL (bk eO j.Race.aB ha)),(rd faA j.ay.length 4 (j.ay.map aX.cells)),(rd prA j.aM.length 5 (j.aM.map bI.cells)),(rd sgA d.aZ.aa.length 2 (d.aZ.aa.map aH.cells))] (Value.int .u8 (gO j.Race.ar f d)):=by
 obtain ⟨fk,fw,ff,ft⟩:=f
 have A:fk=1∨fk=2∨fk=3:=by have:=hk; simp only at this; omega
 rcases A with rfl|rfl|rfl
 ·exact Jj j kA kC az cA cC bA bC slA slC drA drC ha heA heC faA faC prA prC fw ff ft d sgA sgC hin hw hsl
 ·exact Ic j kA kC az cA cC bA bC slA slC drA drC ha heA heC faA faC prA prC fw ff ft d sgA sgC hin hw hsl
 ·exact GL j kA kC az cA cC bA bC slA slC drA drC ha heA heC faA faC prA prC fw ff ft d sgA sgC hin hw hsl
end
section
open Go.RowKit
theorem N0 (j:dk) (kA:OA) (kC:Nat) (az:List RA) (cA:OA) (cC:Nat) (bA:OA) (bC:Nat) (slA:OA) (slC:Nat) (drA:OA) (drC:Nat) (ha:List cU) (heA:OA) (heC:Nat) (faA:OA) (faC:Nat) (prA:OA) (prC:Nat) (p:bI) (hin:fY j az ha) (hok:gF j=0) (hp: ∃ i:Nat,j.aM[i]? =some p):
 dF Tryz.prog 56 [(vA (dT.cells (dT.mk (n7 j kA kC cA cC bA bC slA slC drA drC heA heC faA faC prA prC)))),(vA (bI.cells p))] [(rd kA j.Race.ar.aO.length 9 (j.Race.ar.aO.map aq.cells)),(rd cA j.Race.ar.aj.length 2 (List.zipWith av.cells j.Race.ar.aj az)),(dL (bk av.fu j.Race.ar.aj az)),(rd bA j.Race.ar.ab.length 4 (j.Race.ar.ab.map bL.cells)),(rd slA j.Race.bg.length 1 (j.Race.bg.map iC)),(rd drA j.Race.cm.length 1 (j.Race.cm.map iC)),(rd heA j.Race.aB.length 1 (List.zipWith cz j.Race.aB ha)),(dL (bk eO j.Race.aB ha)),(rd faA j.ay.length 4 (j.ay.map aX.cells)),(rd prA j.aM.length 5 (j.aM.map bI.cells))] (Value.int .u8 (uv j p)):=by
 have S:=hin.race
 have e:=hin.race.line
 have s:=hin.race.gQ
 have t:=hin.race.has
 have q:=hin.race.gX
 have k:=hin.nf
 have o:=hin.np
 have R:=(gH hok).1
 have P:=(gH hok).2
 have c:=(fr R).1
 have h:=(fr R).2
 have a:=(dK c).2.head
 unfold eT at a
 obtain ⟨pi,f⟩:=hp
 have G:=P.ia pi p f
 have x:=G.fX
 have g:=G.lu
 simp only [qI] at g
 have w:=G.fault
 have u:=P.min_
 refine bE kr Tryz.func56 U U fun w0 Q hQ hN=>?_
 try dsimp only
 refine WS fun _ T=>ed U fun z=>ed U fun b3=>rP 1 [] mn ?_
 refine RK T<|ak fun _ AA=>dx ck [20,21] [] [] [0,1,2,3,4,5,6,7,8,9,10,11] [] U U U U U<|eS U (LW 1 U bX U U)<|eS U (FA 0 U eV U)<|eS U (FA 0 U eV U)<|eS U (FA 10 U eV U)<|eS U (L1 (vS heA j.Race.aB.length heC) 1 U bX U U)<|eS U (FA 2 U eV U)<|eS U (L1 (vI p.iY) 0 U bX U U) ?_
 obtain ⟨ht,C⟩:=aF j.Race.aB ((p.iY).toNat) I
 obtain ⟨A,B⟩:=aF ha ((p.iY).toNat) I
 have O:(List.zipWith cz j.Race.aB ha)[(p.iY).toNat]? =some (cz ht A):=cZ C B
 refine eS U (IA ((p.iY).toNat) U (ax 8 U) lZ dc I I)<|eS U (h_ ((p.iY).toNat) 0 (vS A.1.1 ht.length A.1.2) U bX (ax 8 U) O U dc U)<|eS U (FA 1 U eV U)<|eS U (L1 (vI p.iR) 0 U bX U U) ?_
 have N:=S.fX _ _ _ C B
 have m:=N.mq
 have n:=(h.fX ht (aP C)).1
 obtain ⟨d,hd⟩:=aF ht ((p.iR).toNat) I
 obtain ⟨da,M⟩:=aF A.2 ((p.iR).toNat) I
 have Z:(List.zipWith aw.cells ht A.2)[(p.iR).toNat]? =some (aw.cells d da):=cZ hd M
 refine eS U (IA ((p.iR).toNat) U (show hH _ (rd A.1.1 ht.length 7 (List.zipWith aw.cells ht A.2)).holds from (cj 9 U (bD C B ct))) qk dc I I)<|eS U (oL ((((p.iR).toNat)*7)+4) U (show hH _ (rd A.1.1 ht.length 7 (List.zipWith aw.cells ht A.2)).holds from (cj 9 U (bD C B ct))) (Nat.mul_pos I dc) eV U) ?_
 have D:=o9 (j:=j) (p:=p) C hd
 have y:=N.sig d (aP hd)
 have v:=ET (l:=j.Race.ar) (r:=d.aZ) (b:=j.Race.ar.b_) I
 refine eS U (jL ((p.iR).toNat) 4 (de.cells (de.mk d.aZ.Start d.aZ.fP (bK.mk da.1 d.aZ.aa.length da.2))) U bX (show hH _ (rd A.1.1 ht.length 7 (List.zipWith aw.cells ht A.2)).holds from (cj 9 U (bD C B ct))) Z U dc U U)<|eS U (FA 0 U eV U)<|eS U (FA 0 U eV U)<|eS U (FA 0 U eV U)<|eS U (FA 4 U eV U)<|eS U (L1 (vI j.Race.ar.b_) 1 U bX U U)<|eS U (CL (ml j kA kC az cA cC bA bC slA slC drA drC ha heA heC faA faC prA prC d.aZ da.1 da.2 j.Race.ar.b_ hin asm) (lW [2,3,4,5,6,7,8,9,10,11]<|aQ (show hH _ (rd da.1 d.aZ.aa.length 2 (d.aZ.aa.map aH.cells)).holds from (cj 9 U (bD C B (dH _ (bD hd M (by simp [aw.fu]))))))<|aR) U)<|eo U<|cd U fun T5 X=>AL U og fun b6=>aD (X _ _ (aN [1,2,3,4,5,6,7,8,9,10,11,12]) ?_)
 refine cd U fun T7 Y=>fj U mE U<|aD (Y _ _ (aN [1,2,3,4,5,6,7,8,9,10,11,12]) ?_)
 refine fh U<|KK AA<|WS fun _ V=>er 3 [] (mc 2 U mn) U<|rS (BI U (wo ⟨I,I⟩))<|bx 1 U<|RK V<|ak fun _ W=>aC<|WS fun _ H=>rP 9 [0,1] (mc 1 U (mc 0 U mn)) ?_
 refine RK H<|cr U (aT fun E=>?_) (aS fun E=>?_)
 ·refine WS fun _ AB=>rP 1 [] mn ?_
  refine RK AB<|ao<|Q1 hQ U U U ?_
  (rw [IS D E]; done)
 refine WS fun _ J=>rP 9 [0,1] (mc 1 U (mc 0 U mn)) ?_
 refine RK J<|cr U (aT fun F=>?_) (aS fun F=>?_)
 ·refine WS fun _ K=>rP 1 [] mn ?_
  refine RK K<|ao<|Q1 hQ U U U ?_
  (rw [G4 D E F]; done)
 refine cp<|aK<|KK W<|WS fun _ L=>rP 1 [] mn ?_
 refine RK L<|ao<|Q1 hQ U U U ?_
 (rw [H4 D E F]; done)
end
section
open Go.RowKit
theorem KS (j:dk) (kA:OA) (kC:Nat) (az:List RA) (cA:OA) (cC:Nat) (bA:OA) (bC:Nat) (slA:OA) (slC:Nat) (drA:OA) (drC:Nat) (ha:List cU) (heA:OA) (heC:Nat) (faA:OA) (faC:Nat) (prA:OA) (prC:Nat) (kq hq sq:Int) (hin:fY j az ha):
 dF Tryz.prog 10 [(vA (fW.cells (n7 j kA kC cA cC bA bC slA slC drA drC heA heC faA faC prA prC))),(vI kq),(vI hq),(vI sq)] [(rd jm 3 2 g6),(rd kA j.Race.ar.aO.length 9 (j.Race.ar.aO.map aq.cells)),(rd cA j.Race.ar.aj.length 2 (List.zipWith av.cells j.Race.ar.aj az)),(dL (bk av.fu j.Race.ar.aj az)),(rd bA j.Race.ar.ab.length 4 (j.Race.ar.ab.map bL.cells)),(rd slA j.Race.bg.length 1 (j.Race.bg.map iC)),(rd drA j.Race.cm.length 1 (j.Race.cm.map iC)),(rd heA j.Race.aB.length 1 (List.zipWith cz j.Race.aB ha)),(dL (bk eO j.Race.aB ha)),(rd faA j.ay.length 4 (j.ay.map aX.cells)),(rd prA j.aM.length 5 (j.aM.map bI.cells))] (vT [(Value.int .u8 (uR j kq hq sq)),(vI (su j kq hq sq))]):=by
 have O:=hin.race
 have n:=hin.race.line
 have AC:=hin.race.gQ
 have AO:=hin.race.has
 have x:=hin.race.gX
 have r:=hin.nf
 have w:=hin.np
 refine bE kr Tryz.func10 U U fun w0 Q hQ hN=>?_
 try dsimp only
 refine WS fun _ W=>ed U fun b2=>bx 2 U<|RK W<|WS fun _ X=>er 1 [] (mc 0 U mn) U<|rS (CL (zI j kA kC az cA cC bA bC slA slC drA drC ha heA heC faA faC prA prC hin) (br [1,2,3,4,5,6,7,8,9,10,11]) U)<|bx 3 U<|AL U D_ fun b4=>fj U DZ U<|bx 1 U<|RK X<|ak fun _ Y=>WS fun _ Z=>rP 2 [] mn ?_
 refine RK Z<|cr U (aW fun B=>?_) (aV fun B=>?_)
 ·refine WS fun _ a=>rP 3 [] mn ?_
  refine RK a<|ao<|Q2 hQ U U U U ?_
  (have e:=yZ (k:=kq) (h:=hq) (s:=sq) B; rw [e.1,e.2]; done)
 refine WK Y<|ak fun _ b=>WS fun _ E=>rP 5 [] (mc 1 U mn) ?_
 refine eP (xs:=[.tmp 24]) (cs:=[(vI kq)]) U dJ kJ U U U U (by simp [Value.cells]) U U fun P=>?_
 refine rS (CL (dF.eq (iP 0 ((j.ay.length:Int)-1) ([kq]) (some ⟨P,0,none⟩) 1 (by (simp; done))) cD) (aQ (bq 0 U U (by simp [bU]) U)<|aR) U) ?_
 refine rP 2 [] mn ?_
 refine bP (t:=28) U (aW fun T=>?_) (aV fun T=>?_)
 ·refine bx 21 U<|RK E<|aI U<|WS fun _ F=>rP 2 [] mn ?_
  refine RK F<|ao<|Q2 hQ U U U U ?_
  (have e:=nm (k:=kq) (h:=hq) (s:=sq) B (fun q=>by unfold jV at q; omega); rw [e.1,e.2]; done)
 refine rP 6 [] (mc 2 U mn) ?_
 refine eP (xs:=[.tmp 34]) (cs:=[(vI hq)]) U dJ kJ U U U U (by simp [Value.cells]) U U fun R=>?_
 refine rS (CL (dF.eq (iP 0 ((j.Race.aB.length:Int)-1) ([hq]) (some ⟨R,0,none⟩) 1 (by (simp; done))) cD) (aQ (bq 0 U U (by simp [bU]) U)<|aR) U) ?_
 refine rP 3 [] mn ?_
 refine bP (t:=39) U (aW fun AA=>?_) (aV fun AA=>?_)
 ·refine bx 10 U<|RK E<|aI U<|WS fun _ G=>rP 2 [] mn ?_
  refine RK G<|ao<|Q2 hQ U U U U ?_
  (have e:=nm (k:=kq) (h:=hq) (s:=sq) B (fun q=>by unfold jV at q; omega); rw [e.1,e.2]; done)
 refine rP 6 [] (mc 3 U mn) ?_
 refine eP (xs:=[.tmp 45]) (cs:=[(vI sq)]) U dJ kJ U U U U (by simp [Value.cells]) U U fun S=>?_
 refine rS (CL (dF.eq (iP 0 ((j.Race.bg.length:Int)-1) ([sq]) (some ⟨S,0,none⟩) 1 (by (simp; done))) cD) (aQ (bq 0 U U (by simp [bU]) U)<|aR) U) ?_
 refine rP 2 [] mn ?_
 refine RK E<|cr U (aW fun V=>?_) (aV fun V=>?_)
 ·refine WS fun _ H=>rP 2 [] mn ?_
  refine RK H<|ao<|Q2 hQ U U U U ?_
  (have e:=nm (k:=kq) (h:=hq) (s:=sq) B (fun q=>by unfold jV at q; omega); rw [e.1,e.2]; done)
 refine WK b<|ak fun _ AB=>cW ck 18 kr<|dP 4 [0,1] (mc 3 U (mc 4 U mn)) ?_
 have N:=(gH B).1
 have l:=(gH B).2
 have m:=(fr N).1
 have o:=(fr N).2
 have i:=(dK m).2.head
 unfold eT at i
 obtain ⟨f,hf⟩:=aF j.ay ((kq).toNat) I
 have g:=bJ aX.cells hf
 refine dS (IA ((kq).toNat) U (ax 14 U) xB dc I I)<|dS (jL ((kq).toNat) 0 (aX.cells f) U bX (ax 14 U) g U dc U U)<|dP 4 [] (mc 4 U mn) ?_
 obtain ⟨ht,D⟩:=aF j.Race.aB ((hq).toNat) I
 obtain ⟨A,C⟩:=aF ha ((hq).toNat) I
 have M:(List.zipWith cz j.Race.aB ha)[(hq).toNat]? =some (cz ht A):=cZ D C
 refine dS (IA ((hq).toNat) U (ax 12 U) lZ dc I I) ?_
 have L:=O.fX _ _ _ D C
 have u:=L.mq
 have v:=(o.fX ht (aP D)).1
 refine dS (h_ ((hq).toNat) 0 (vS A.1.1 ht.length A.1.2) U bX (ax 12 U) M U dc U)<|dP 1 [] mn ?_
 have p:=L.sig
 have K:=l.fault f (aP hf)
 have z:0≤f.gW∧f.gW≤1000000:=by have y:=K.2.2; split at y<;>omega
 obtain ⟨d,hd⟩:=aF ht ((sq).toNat) I
 obtain ⟨da,J⟩:=aF A.2 ((sq).toNat) I
 have c:(List.zipWith aw.cells ht A.2)[(sq).toNat]? =some (aw.cells d da):=cZ hd J
 refine dS (IA ((sq).toNat) U (show hH _ (rd A.1.1 ht.length 7 (List.zipWith aw.cells ht A.2)).holds from (cj 13 U (bD D C ct))) qk dc I I)<|dS (jL ((sq).toNat) 0 (bf.cells (bf.mk d.Out d.cO d.Time (de.mk d.aZ.Start d.aZ.fP (bK.mk da.1 d.aZ.aa.length da.2)))) U bX (show hH _ (rd A.1.1 ht.length 7 (List.zipWith aw.cells ht A.2)).holds from (cj 13 U (bD D C ct))) c U dc U U) ?_
 have A0:=p d (aP hd)
 refine dS (CL (ED j kA kC az cA cC bA bC slA slC drA drC ha heA heC faA faC prA prC f d da.1 da.2 hin (by exact K.1) asm asm) (lW [6,7,8,9,10,11,12,13,14,15]<|aQ (show hH _ (rd da.1 d.aZ.aa.length 2 (d.aZ.aa.map aH.cells)).holds from (cj 13 U (bD D C (dH _ (bD hd J (by simp [aw.fu]))))))<|aR) U)<|dP 2 [] mn ?_
 refine cw<|RK AB<|ao<|Q2 hQ U U U U ?_
 (have e:=An (k:=kq) (h:=hq) (s:=sq) B (by unfold jV; omega) hf D hd; rw [e.1,e.2]; done)
theorem Ox (j:dk) (kA:OA) (kC:Nat) (az:List RA) (cA:OA) (cC:Nat) (bA:OA) (bC:Nat) (slA:OA) (slC:Nat) (drA:OA) (drC:Nat) (ha:List cU) (heA:OA) (heC:Nat) (faA:OA) (faC:Nat) (prA:OA) (prC:Nat) (iq:Int) (hin:fY j az ha):
 dF Tryz.prog 14 [(vA (fW.cells (n7 j kA kC cA cC bA bC slA slC drA drC heA heC faA faC prA prC))),(vI iq)] [(rd jm 3 2 g6),(rd kA j.Race.ar.aO.length 9 (j.Race.ar.aO.map aq.cells)),(rd cA j.Race.ar.aj.length 2 (List.zipWith av.cells j.Race.ar.aj az)),(dL (bk av.fu j.Race.ar.aj az)),(rd bA j.Race.ar.ab.length 4 (j.Race.ar.ab.map bL.cells)),(rd slA j.Race.bg.length 1 (j.Race.bg.map iC)),(rd drA j.Race.cm.length 1 (j.Race.cm.map iC)),(rd heA j.Race.aB.length 1 (List.zipWith cz j.Race.aB ha)),(dL (bk eO j.Race.aB ha)),(rd faA j.ay.length 4 (j.ay.map aX.cells)),(rd prA j.aM.length 5 (j.aM.map bI.cells))] (vT [(Value.int .u8 (wW j iq)),(vI (tf j iq))]):=by
 have R:=hin.race
 have M:=hin.race.line
 have T:=hin.race.gQ
 have AA:=hin.race.has
 have S:=hin.race.gX
 have O:=hin.nf
 have P:=hin.np
 refine bE kr Tryz.func14 U U fun X Q hQ hN=>?_
 try dsimp only
 refine WS fun _ F=>ed U fun V=>bx 2 U<|RK F<|WS fun _ G=>er 1 [] (mc 0 U mn) U<|rS (CL (zI j kA kC az cA cC bA bC slA slC drA drC ha heA heC faA faC prA prC hin) (br [1,2,3,4,5,6,7,8,9,10,11]) U)<|bx 3 U<|AL U D_ fun W=>fj U DZ U<|bx 1 U<|RK G<|ak fun _ H=>WS fun _ AB=>rP 2 [] mn ?_
 refine RK AB<|cr U (aW fun A=>?_) (aV fun A=>?_)
 ·refine WS fun _ J=>rP 3 [] mn ?_
  refine RK J<|ao<|Q2 hQ U U U U ?_
  (have e:=Al (i:=iq) A; rw [e.1,e.2]; done)
 refine WK H<|ak fun _ K=>WS fun _ L=>rP 5 [] (mc 1 U mn) ?_
 refine eP (xs:=[.tmp 20]) (cs:=[(vI iq)]) U dJ kJ U U U U (by simp [Value.cells]) U U fun D=>?_
 refine rS (CL (dF.eq (iP 0 ((j.aM.length:Int)-1) ([iq]) (some ⟨D,0,none⟩) 1 (by (simp; done))) cD) (aQ (bq 0 U U (by simp [bU]) U)<|aR) U) ?_
 refine rP 1 [] mn ?_
 refine RK L<|cr U (aW fun E=>?_) (aV fun E=>?_)
 ·refine WS fun _ B=>rP 2 [] mn ?_
  refine RK B<|ao<|Q2 hQ U U U U ?_
  (have e:=BZ (i:=iq) A I; rw [e.1,e.2]; done)
 refine WK K<|ak fun _ C=>cW ck 9 kr<|dP 4 [0,1] (mc 1 U (mc 2 U mn)) ?_
 obtain ⟨p,hp⟩:=aF j.aM ((iq).toNat) I
 have N:=bJ bI.cells hp
 refine dS (IA ((iq).toNat) U (ax 13 U) BJ dc I I)<|dS (jL ((iq).toNat) 0 (bI.cells p) U bX (ax 13 U) N U dc U U)<|dS (CL (N0 j kA kC az cA cC bA bC slA slC drA drC ha heA heC faA faC prA prC p hin asm (by exact ⟨_,hp⟩)) (br [4,5,6,7,8,9,10,11,12,13]) U)<|dP 2 [] mn ?_
 refine cw<|RK C<|ao<|Q2 hQ U U U U ?_
 (have e:=EI (i:=iq) A I hp; rw [e.1,e.2]; done)
end
section
open Go.RowKit
theorem H3 (l:List aX) (lA:OA) (lC:Nat) (f:Value) (p:aX→Bool) (X:aA) (hf: ∀ x0,x0∈l→Ef Tryz.prog f [.agg (aX.cells x0).toArray] [X] (.bool (p x0))) (hlen:l.length≤1000000):
 dF Tryz.prog 130 [(vS lA l.length lC),f] [(rd lA l.length 4 (l.map aX.cells)),X] (vI (rW p l)):=by
 refine bE kr Tryz.func130 U U fun R Q hQ hN=>?_
 try dsimp only
 refine WS fun _ G=>bx 1 U<|RK G<|ak fun _ H=>WS fun _ AA=>rP 3 [] mn ?_
 refine RK AA<|aC ?_
 have B:(0≤l.length)∧((l.take 0).any p=false):=by simp
 refine bQ (ι:={z:Nat // (z≤l.length)∧((l.take z).any p=false)}) [0,1,7] [0,1] U U (fun z=>[(8,(vI (z.1:Int)))]) (fun z=>[]) (fun _=>rfl) (fun _=>rfl) (fun z=>l.length-z.1) ⟨0,B⟩ (bu U) (aN [0,1]) ?_
 clear B
 rintro ⟨i,⟨N,A⟩⟩ J4 F
 try dsimp only
 refine WS fun _ J=>rP 1 [] mn ?_
 refine RK J<|ak fun _ K=>bO U (aS fun P=>?_) (aT fun P=>?_)
 ·refine bM<|ag<|ag<|aG<|KK H<|WS fun _ E=>rP 1 [] mn ?_
  refine RK E<|ao<|Q1 hQ U U U ?_
  exact cI (pG I A).symm
 refine WK K<|ak fun _ L=>aC<|WS fun _ M=>bx 2 U<|RK M<|WS fun _ C=>rP 3 [] mn ?_
 obtain ⟨x,hx⟩:=aF l i I
 have O:=bJ aX.cells hx
 refine rS (IA i U (ax 0 U) xB dc I I)<|rS (jL i 0 (aX.cells x) U bX (ax 0 U) O U dc U U)<|rS (SX (qO U U U (hf x (aP hx)) (br [1])) U U)<|RK C<|cr U (fun hp=>?_) (fun hp=>?_)
 ·refine WS fun _ D=>rP 2 [] mn ?_
  refine RK D<|ao<|Q1 hQ U U U ?_
  exact cI (tJ hx hp A).symm
 refine cp<|aK<|KK L<|au<|rP 2 [] mn ?_
 refine aD ?_
 refine bj (F ⟨(i+1),⟨I,tp hx A hp⟩⟩ _ _ _ U os (bu U) (aN [0,1]))
theorem Bh (l:List aX) (lA:OA) (lC:Nat) (f:Value) (p:aX→Bool) (X:aA) (hf: ∀ x0,x0∈l→Ef Tryz.prog f [.agg (aX.cells x0).toArray] [X] (.bool (p x0))) (hlen:l.length≤1000000):
 dF Tryz.prog 94 [(vS lA l.length lC),f] [(rd lA l.length 4 (l.map aX.cells)),X] (vB (l.any p)):=by
 refine bE kr Tryz.func94 U U fun C Q hQ hN=>?_
 try dsimp only
 refine WS fun _ A=>bx 1 U<|RK A<|WS fun _ B=>bx 2 U<|rS (CL (H3 l lA lC f p X (by exact hf) hlen) (br [0,1]) U)<|rP 2 [] mn ?_
 refine RK B<|ao<|Q1 hQ U U U ?_
 exact cB q9
theorem M1 (f:aX) (fm:List (Int×Bool)) (gm:Nat) (j:dk) (kA:OA) (kC:Nat) (az:List RA) (cA:OA) (cC:Nat) (bA:OA) (bC:Nat) (slA:OA) (slC:Nat) (drA:OA) (drC:Nat) (ha:List cU) (heA:OA) (heC:Nat) (faA:OA) (faC:Nat) (prA:OA) (prC:Nat) (d:aw) (sgA:OA) (sgC g1:Nat) (g2 g3:Nat) (hin:fY j az ha) (hok:gF j=0) (hfm:f∈j.ay) (hsl:d.aZ.aa.length≤1000000):
 dF Tryz.prog 95 [(vA (aX.cells f)),(vP g1),(vP g2),(vP g3)] [(ks iV gm (cR vB fm)),(rd kA j.Race.ar.aO.length 9 (j.Race.ar.aO.map aq.cells)),(rd cA j.Race.ar.aj.length 2 (List.zipWith av.cells j.Race.ar.aj az)),(dL (bk av.fu j.Race.ar.aj az)),(rd bA j.Race.ar.ab.length 4 (j.Race.ar.ab.map bL.cells)),(rd slA j.Race.bg.length 1 (j.Race.bg.map iC)),(rd drA j.Race.cm.length 1 (j.Race.cm.map iC)),(rd heA j.Race.aB.length 1 (List.zipWith cz j.Race.aB ha)),(dL (bk eO j.Race.aB ha)),(rd faA j.ay.length 4 (j.ay.map aX.cells)),(rd prA j.aM.length 5 (j.aM.map bI.cells)),(rd sgA d.aZ.aa.length 2 (d.aZ.aa.map aH.cells)),(cy g1 123 [(Value.map (some gm))]),(cy g2 111 (dT.cells (dT.mk (n7 j kA kC cA cC bA bC slA slC drA drC heA heC faA faC prA prC)))),(cy g3 67 (bf.cells (bf.mk d.Out d.cO d.Time (im d.aZ sgA sgC))))] (vB (((List.lookup (l5 j.ay f) fm).getD false)&& !decide (gO j.Race.ar f d=0))):=by
 have L:=hin.race
 have AB:=hin.race.line
 have P:=hin.race.gQ
 have R:=hin.race.has
 have M:=hin.race.gX
 have J:=hin.nf
 have K:=hin.np
 have D:=(gH hok).1
 have G:=(gH hok).2
 have H:=(fr D).1
 have S:=(fr D).2
 have F:=(dK H).2.head
 unfold eT at F
 have C:=G.fault f hfm
 have O:0≤f.gW∧f.gW≤1000000:=by have N:=C.2.2; split at N<;>omega
 refine bE kr Tryz.func95 U U fun AA Q hQ hN=>?_
 try dsimp only
 refine WS fun _ E=>ed U fun T=>bx 1 U<|RK E<|ak fun _ B=>cW ck 15 kr<|kv 5 [0,1,2] (mr 13 U (mr 14 U (mc 0 U mn))) U<|dS (CL (B5 j.ay faA faC f asm) (br [10]) U)<|dS (SX (vD (kV:=iV) (x:=(l5 j.ay f)) (l:=fm) (f:=Value.bool) (z:=false) U U U AT (iL nX) TW (by exact L8 1 U)) U U)<|dP 1 [] mn ?_
 refine g0 (t:=13) U (fun A=>?_) (fun A=>?_)
 ·refine dP 7 [] mn ?_
  refine cw<|RK B<|ao<|Q1 hQ U U U ?_
  (rw [A,Bool.false_and]; done)
 refine kv 3 [0,1,2] (mr 14 U (mc 0 U (mr 15 U mn))) U<|dS (CL (ED j kA kC az cA cC bA bC slA slC drA drC ha heA heC faA faC prA prC f d sgA sgC hin (by exact C.1) asm hsl) (br [2,3,4,5,6,7,8,9,10,11,12]) U)<|dS (BI U xR)<|dP 2 [] mn ?_
 refine cw<|RK B<|ao<|Q1 hQ U U U ?_
 (rw [A,Bool.true_and]; done)
end
end Go.Proofs.YtgcjjjehnjljbaaGreatDoor
