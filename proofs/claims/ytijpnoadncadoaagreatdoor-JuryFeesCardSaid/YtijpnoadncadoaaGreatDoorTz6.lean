/-
 The statement juryFees_said, part 6 of 8: V5, V6, Wh1, V4, V8, Wh2, Jw3, Jw4, Jw5, Bits, MapD, Rc1, Rc2, Rc3, Rc4, Rs1, S2, Rs2, Rs3, Rs4, Rt2.
 Conditions: none.
-/
import Derived.Test.YtijpnoadncadoaaGreatDoorTz1
import Derived.Test.YtijpnoadncadoaaGreatDoorTz2
import Derived.Test.YtijpnoadncadoaaGreatDoorTz3
import Derived.Test.YtijpnoadncadoaaGreatDoorTz4
import Derived.Test.YtijpnoadncadoaaGreatDoorTz5
import Derived.KernelRfl
namespace Go.Proofs.YtijpnoadncadoaaGreatDoor
set_option maxRecDepth 100000
set_option maxHeartbeats 4000000
set_option linter.unusedVariables false
section
open Go.RowKit
theorem Ao (ln:bT) (ri:cU) (e:List Int) (tms:List TM) (e_A:OA) (e_C:Nat) (tb:List Nat) (t_A:OA) (t_C gw:Nat) (hw:GH (cS ln ri e tms)) (hn:ln.aa.n=e.length) (htb:tb.length=tms.length):
 Kt Tryz.prog 68 [(vP gw)] [(rd e_A e.length 1 (e.map iC)),(rd t_A tms.length 1 (List.zipWith gE tms tb)),(d_ (bw pM tms tb))] (cw gw 150 (b_.cells (b_.mk ln ri (aR.mk e_A e.length e_C) (aR.mk t_A tms.length t_C) (aR.mk none 0 0) (aR.mk none 0 0)))) (fun (x:(List FM)×(List Nat)×(OA)×Nat×(List FM)×(List Nat)×(OA)×Nat)=>(vT [])) (fun (x:(List FM)×(List Nat)×(OA)×Nat×(List FM)×(List Nat)×(OA)×Nat)=>vy (cS ln ri e tms) x.1∧sU (cS ln ri e tms) x.2.2.2.2.1∧x.2.1.length=x.1.length∧x.2.2.2.2.2.1.length=x.2.2.2.2.1.length) (fun (x:(List FM)×(List Nat)×(OA)×Nat×(List FM)×(List Nat)×(OA)×Nat)=>(cd [(cw gw 150 (b_.cells (b_.mk ln ri (aR.mk e_A e.length e_C) (aR.mk t_A tms.length t_C) (aR.mk x.2.2.1 x.1.length x.2.2.2.1) (aR.mk x.2.2.2.2.2.2.1 x.2.2.2.2.1.length x.2.2.2.2.2.2.2)))),(own x.2.2.1 x.2.2.2.1 156 1 (List.zipWith gE x.1 x.2.1)),(cd (bw mY x.1 x.2.1)),(own x.2.2.2.2.2.2.1 x.2.2.2.2.2.2.2 156 1 (List.zipWith gE x.2.2.2.2.1 x.2.2.2.2.2.1)),(cd (bw mY x.2.2.2.2.1 x.2.2.2.2.2.1))])):=by
 have U_:e.length≤6:=hw.n
 have VA:tms.length=e.length:=hw.times
 refine uE kr Tryz.func68 U U fun w0 Q hQ hN=>?_
 try dsimp only
 refine WS fun _ Do=>wu U U fun W=>RK Do<|WS fun _ Eq=>e7 1 [] (mc 0 U mn) U<|rS (SX (cQ U U) U U)<|rP 5 [] (mc 1 U mn) ?_
 refine RK Eq ?_
 refine oi (ι:={z:(OA)×(OA) // True}) [0,1,2] [0,2,3,4] U U (fun z=>[]) (fun z=>[(own z.1.1 (ln.aa.n+1) 156 1 (List.map oC (List.replicate (ln.aa.n+1) (none:Option Nat)))),(own z.1.2 (ln.aa.n+1) 156 1 (List.map oC (List.replicate (ln.aa.n+1) (none:Option Nat)))),(cw gw 150 (b_.cells (b_.mk ln ri (aR.mk e_A e.length e_C) (aR.mk t_A tms.length t_C) (aR.mk z.1.1 (ln.aa.n+1) (ln.aa.n+1)) (aR.mk z.1.2 (ln.aa.n+1) (ln.aa.n+1)))))]) (fun _=>rfl) (fun _=>rfl) ?_ fun K4 FS=>?_
 ·rintro ⟨⟨fA,bA⟩,_⟩
  try dsimp only
  refine Ch 6 U U fun wz Sz hz=>?_
  have U7:(List.replicate (ln.aa.n+1) (none:Option Nat)).length=(ln.aa.n+1):=List.length_replicate
  try dsimp only
  refine oi (ι:={z:Nat // True}) [0,1,2] [0,1,2,3,4,6] U U (fun z=>[]) (fun z=>[(cd (bw mY [[((aD.mk 0 0),ri.Start)]] [z.1])),(own fA (ln.aa.n+1) 156 1 (List.map oC (dB [z.1] (ln.aa.n+1))))]) (fun _=>rfl) (fun _=>rfl) ?_ fun K5 UF=>?_
  ·rintro ⟨ga,_⟩
   try dsimp only
   refine ao fun _ Fd=>WS fun _ Fn=>rP 2 [] mn ?_
   refine RK Fn<|aF<|ru ?_
   have C:(0≤ln.aa.n)∧(([[((aD.mk 0 0),ri.Start)]]).length=0+1)∧(([ga]).length=0+1)∧(qx (cS ln ri e tms) ([[((aD.mk 0 0),ri.Start)]])):=by exact ⟨Nat.zero_le _,rfl,rfl,qx.first⟩
   refine wm (ι:={z:Nat×(List FM)×(List Nat)×(List Nat) // (z.1≤ln.aa.n)∧(z.2.1.length=z.1+1)∧(z.2.2.1.length=z.1+1)∧(qx (cS ln ri e tms) z.2.1)}) (fun z=>z.1.2.2.2.map jS) (fun z=>[(0,(vP gw)),(1,(vP W)),(2,(vI (ln.aa.n:Int))),(52,(vI (ln.aa.n:Int))),(53,(vI (z.1.1:Int)))]) (fun z=>[(cd (z.1.2.2.2.map mg)),(cw gw 150 (b_.cells (b_.mk ln ri (aR.mk e_A e.length e_C) (aR.mk t_A tms.length t_C) (aR.mk fA (ln.aa.n+1) (ln.aa.n+1)) (aR.mk bA (ln.aa.n+1) (ln.aa.n+1))))).ro,(cw W 108 [(vP gw)]),(rd e_A e.length 1 (e.map iC)).ro,(rd t_A tms.length 1 (List.zipWith gE tms tb)).ro,(d_ (bw pM tms tb)).ro,(own bA (ln.aa.n+1) 156 1 (List.map oC (List.replicate (ln.aa.n+1) (none:Option Nat)))),(cd (bw mY z.1.2.1 z.1.2.2.1)),(own fA (ln.aa.n+1) 156 1 (List.map oC (dB z.1.2.2.1 (ln.aa.n+1))))]) (fun z=>ln.aa.n-z.1.1) ⟨(0,[[((aD.mk 0 0),ri.Start)]],[ga],([]:List Nat)),C⟩ U (bE U) (aU [0,1,2,3,4,5,6,7,8]) ?_
   clear C
   rintro ⟨⟨b,fs,fb,To⟩,⟨Ja,A5,J2,M⟩⟩ J8 UE
   try dsimp only at Ja A5 J2 M
   try dsimp only
   have U8:(dB fb (ln.aa.n+1)).length=(ln.aa.n+1):=nq I
   refine WS fun _ F9=>rP 1 [] mn ?_
   refine RK F9<|ao fun _ AO=>cH U (aV fun T4=>?_) (aW fun T4=>?_)
   ·refine WK AO<|ao fun _ LE=>aF<|WS fun _ LT=>rP 1 [] mn ?_
    refine AL U kl fun s=>KD U Eg U U<|RK LT<|ao fun _ La=>dV cx [6,8] [6] [0] [0,1,2,3,4,5,6,7,8] [0,1,2,3,4,5,6,7,8,9] U U U U U<|eS U (CA 3 U cq U)<|eS U (SX (cQ U U) U U)<|eS U (FA 12 U fT U)<|eS U (HI (vS fA (ln.aa.n+1) (ln.aa.n+1)) 2 U cq U U)<|eS U (CA 0 U cq U)<|eS U (BI U (ox ⟨I,I⟩)) ?_
    obtain ⟨UR,S2⟩:=aM (dB fb (ln.aa.n+1)) (b+1) I
    have hx17m:(List.map oC (dB fb (ln.aa.n+1)))[(b+1)]? =some (oC UR):=by rw [fO,S2]; rfl
    refine fS U (IA (b+1) U (aQ (n:=(ln.aa.n+1)) 9 U sq) ov dc I I) ?_
    refine eJ U<|mw U fun T18 Pl=>mJ (kV:=eu) U U fun B=>?_
    try dsimp only
    refine aH (Pl _ _ (aU [1,2,3,4,5,6,7,8,9]) (aU [1,2,3,4,5,6,7,8,9,10]) ?_)
    refine cv U fun T20 Qn=>?_
    have R7:((dB fb (ln.aa.n+1)).set (b+1) (some B))=(dB (fb++[B]) (ln.aa.n+1)):=by exact rI I I
    refine jg (k:=(b+1)) (o:=0) (vs:=[(Value.map (some B))]) (es':=(List.map oC (dB (fb++[B]) (ln.aa.n+1)))) (C':=[_,_,_,_,_,_,_,_,_,_,(own fA (ln.aa.n+1) 156 1 (List.map oC (dB (fb++[B]) (ln.aa.n+1))))]) 10 U U U Hd U U U U hx17m U dc (by exact (List.map_set (f:=oC) (l:=(dB fb (ln.aa.n+1))) (i:=(b+1)) (a:=(some B))).symm.trans (congrArg _ R7)) U<|aH (Qn _ _ (aU [1,2,3,4,5,6,7,8,9]) ?_)
    refine fY U<|KK La<|ao fun _ Li=>?_
    have UJ:(dB (fb++[B]) (ln.aa.n+1)).length=(ln.aa.n+1):=nq (by simp; omega)
    obtain ⟨mb,N⟩:=aM fs b I
    obtain ⟨ga,Z⟩:=aM fb b I
    refine zg 9 N Z U U U ?_
    try dsimp only
    refine dw cx 7 kr<|lU 1 [] (mc 6 U mn) U<|dS (SX (cQ U U) U U)<|dP 3 [0,1] (mr 5 U (mc 3 U mn)) ?_
    have SO:(List.map oC (dB (fb++[B]) (ln.aa.n+1)))[b]? =some (oC (some ga)):=qn (mL (IB Z))
    refine dS (IA b U (aQ (n:=(ln.aa.n+1)) 11 U sq) ov dc I I) ?_
    refine dS (iK b 0 (Value.map (some ga)) U cq (aQ (n:=(dB (fb++[B]) (ln.aa.n+1)).length) 11 U sm) SO U dc U)<|cK<|yT 0 U U o8 U U fun B9=>?_
    try dsimp only
    refine RK Li<|aF ?_
    have C:(∀ p∈mb,p∈mb)∧(xH (cS ln ri e tms) b ([]:FM))∧(j3 (cS ln ri e tms) b mb ([]:FM) mb):=by exact ⟨fun p hp=>hp,xH.start,j3.start⟩
    refine wm (ι:={z:FM×FM×(List Nat) // (∀ p∈z.1,p∈mb)∧(xH (cS ln ri e tms) b z.2.1)∧(j3 (cS ln ri e tms) b mb z.2.1 z.1)}) (fun z=>z.1.2.2.map jS) (fun z=>[(0,(vP gw)),(1,(vP W)),(2,(vI (ln.aa.n:Int))),(3,(vP s)),(52,(vI (ln.aa.n:Int))),(53,(vI (b:Int))),(71,(vP B9))]) (fun z=>[(zy eu B9 ga (cR iV mb) (cR iV z.1.1) none),(cd (jf mY fs fb b)),(kh eu B (cR iV z.1.2.1)),(cw s 3 [(vI (b:Int))]),(cd (z.1.2.2.map mg)),(cw gw 150 (b_.cells (b_.mk ln ri (aR.mk e_A e.length e_C) (aR.mk t_A tms.length t_C) (aR.mk fA (ln.aa.n+1) (ln.aa.n+1)) (aR.mk bA (ln.aa.n+1) (ln.aa.n+1))))).ro,(cw W 108 [(vP gw)]),(rd e_A e.length 1 (e.map iC)).ro,(rd t_A tms.length 1 (List.zipWith gE tms tb)).ro,(d_ (bw pM tms tb)).ro,(own bA (ln.aa.n+1) 156 1 (List.map oC (List.replicate (ln.aa.n+1) (none:Option Nat)))),(own fA (ln.aa.n+1) 156 1 (List.map oC (dB (fb++[B]) (ln.aa.n+1))))]) (fun z=>z.1.1.length) ⟨(mb,([]:FM),To),C⟩ U (bE U) (aU [0,1,2,3,4,5,6,7,8,9,10,11]) ?_
    clear C
    rintro ⟨⟨left,m,A6⟩,⟨c,d,g⟩⟩ J26 K8
    try dsimp only at c d g
    try dsimp only
    refine WS fun _ Ck=>w9 pk.inj (f:=iV) 0 U U U U (fun T6=>?_) (fun t v hm J3=>?_)
    ·refine bI 1 U<|RK Ck<|ao fun _ Ui=>cp U<|bQ<|ai<|ai<|aI<|aN<|KK LE<|av<|rP 2 [] mn ?_
     refine aH<|Jg (C':=[(kh eu ga (cR iV mb)),(cd (jf mY fs fb b)),(kh eu B (cR iV m)),(cw s 3 [(vI (b:Int))]),(cd (A6.map mg)),(cw gw 150 (b_.cells (b_.mk ln ri (aR.mk e_A e.length e_C) (aR.mk t_A tms.length t_C) (aR.mk fA (ln.aa.n+1) (ln.aa.n+1)) (aR.mk bA (ln.aa.n+1) (ln.aa.n+1))))).ro,(cw W 108 [(vP gw)]),(rd e_A e.length 1 (e.map iC)).ro,(rd t_A tms.length 1 (List.zipWith gE tms tb)).ro,(d_ (bw pM tms tb)).ro,(own bA (ln.aa.n+1) 156 1 (List.map oC (List.replicate (ln.aa.n+1) (none:Option Nat)))),(own fA (ln.aa.n+1) 156 1 (List.map oC (dB (fb++[B]) (ln.aa.n+1))))]) 0 U Hb U<|I1 1 0 N Z U U U ?_
     try dsimp only
     refine yr (X':=bw mY (fs++[m]) (fb++[B])) 0 1 U U (zb I U) ?_
     try dsimp only
     have R8:(vI (((b+1):Nat):Int))=(vI ((b:Int)+1)):=by exact cI I
     refine bp (UE ⟨((b+1),(fs++[m]),(fb++[B]),A6),⟨I,by simp; omega,by simp; omega,M.add A5 N d g T6⟩⟩ _ _ _ U os (cY 4<|bk U R8<|dG.nil _) (aU [2,3,4,5,6,7,8,0,9]))
    try dsimp only
    refine bI 1 U<|RK Ck<|ao fun _ Lk=>aS U<|WK Lk<|aF<|WS fun _ Lx=>rS (SX (xp 0 U U U) U U)<|bI 2 U<|AL U tg fun J6=>AL U kl fun J7=>sr U sB U<|KD U Eg U U<|RK Lx<|WS fun _ L2=>rP 2 [0,1] (mc 8 U (mc 5 U mn)) ?_
    refine cX (uV gw b) (aK) U fun UV U1=>?_
    obtain ⟨C0,C3⟩:=UV
    try dsimp only
    refine RK L2<|aF<|jr 11 U (by exact fun _ h=>h)<|jr 13 U (by exact fun _ h=>h)<|jr 15 U (by exact fun _ h=>h)<|jr 12 U (by exact fun _ h=>h) ?_
    refine tG (L0:=[(0,(vP gw)),(1,(vP W)),(2,(vI (ln.aa.n:Int))),(3,(vP s)),(4,(vP J6)),(5,(vP J7)),(52,(vI (ln.aa.n:Int))),(53,(vI (b:Int))),(71,(vP B9))]) (F:=[(rd e_A e.length 1 (e.map iC)).ro,(rd t_A tms.length 1 (List.zipWith gE tms tb)).ro,(d_ (bw pM tms tb)).ro,(cw gw 150 (b_.cells (b_.mk ln ri (aR.mk e_A e.length e_C) (aR.mk t_A tms.length t_C) (aR.mk fA (ln.aa.n+1) (ln.aa.n+1)) (aR.mk bA (ln.aa.n+1) (ln.aa.n+1))))).ro,(cw C0 108 [(vP gw)]),(cw C3 3 [(vI (b:Int))])]) (fun k (y:FM)=>(nA (cS ln ri e tms) b mb left y (t,v) k)) (fun k y=>[(cw J7 3 [(vI v)]),(cw J6 158 (aD.cells t)),(zy eu B9 ga (cR iV mb) (cR iV (eY left t)) (some (t,(vI v)))),(cd (jf mY fs fb b)),(kh eu B (cR iV y)),(cw s 3 [(vI (b:Int))]),(cd (A6.map mg)),(cw gw 150 (b_.cells (b_.mk ln ri (aR.mk e_A e.length e_C) (aR.mk t_A tms.length t_C) (aR.mk fA (ln.aa.n+1) (ln.aa.n+1)) (aR.mk bA (ln.aa.n+1) (ln.aa.n+1))))).ro,(cw W 108 [(vP gw)]),(rd e_A e.length 1 (e.map iC)).ro,(rd t_A tms.length 1 (List.zipWith gE tms tb)).ro,(d_ (bw pM tms tb)).ro,(own bA (ln.aa.n+1) 156 1 (List.map oC (List.replicate (ln.aa.n+1) (none:Option Nat)))),(own fA (ln.aa.n+1) 156 1 (List.map oC (dB (fb++[B]) (ln.aa.n+1))))]) (fun _ (_:Unit)=>False) (fun _ _=>[]) [6,7,8,9,10,11,12,13,14,15,16,17,18,19] [3,2,1,0,4,5] m rfl rfl (sN ln ri e tms e_A e_C tb t_A t_C fA (ln.aa.n+1) (ln.aa.n+1) bA (ln.aa.n+1) (ln.aa.n+1) gw b C0 C3 I I) rfl rfl rfl (by exact nA.start d g) (by simp only [List.forall_mem_cons,List.not_mem_nil,false_imp_iff,implies_true,and_true]; exact ⟨⟨_,aP (i:=0) rfl,(dJ (bX _))⟩,⟨_,aP (i:=1) rfl,(dJ (bX _))⟩,⟨_,aP (i:=2) rfl,(dJ (bX _))⟩,⟨_,aP (i:=3) rfl,(dJ (bX _))⟩,⟨_,aP (i:=4) rfl,(bX _)⟩,⟨_,aP (i:=5) rfl,(bX _)⟩⟩) (by rintro k x k2 ⟨o,_,rfl,_⟩; rfl) rfl (bE rfl) ?_ ?_ (fun _ _ _ h=>h.elim) (fun _ _ h=>h.elim)
    rotate_left 1
    ·rintro UQ k O A4 Id
     have D:=Id
     try dsimp only
     refine aN<|aN<|Jt (X:=A6.map mg) 13 0 U U ?_
     try dsimp only
     refine ry 9 U Bg U ?_
     refine bp (K8 ⟨((eY left t),O,(UQ::A6)),⟨mA c,D.on,D.next J3 hm A4⟩⟩ _ _ _ U (mH hm) (bE U) (aU [9,10,11,12,0,4,14,1,2,3,18,19]))
    rintro k x k2 O l ra rb S w1 K39 Qr40 UN hx IR L3 H UT UX
    obtain ⟨o,ho,rfl,rfl⟩:=hx
    have D:=IR
    try dsimp only
    refine WS fun _ M2=>rP 1 [] mn ?_
    refine RK M2<|av<|AL U ed fun U3=>fK U c_ U<|aH<|jV (fun _ _ h=>h) (aU [1,0,2,3,4,5,6,7,8,9,10,11,12,13,14,15])<|bp (L3 _ _ ?_)
    refine aF<|ao fun _ NE=>dV cx [16,18] [] [] [0,1,2,3,4,5,6,7,8,9,10,11,12,13,14,15] [] U U U U U<|eS U (CA 2 U cq U)<|eS U (CA 10 U cq U)<|eS U (SX (cQ U U) U U)<|eS U (FA 10 U fT U)<|eS U (HI (vS e_A e.length e_C) 9 U cq U U)<|eS U (CA 7 U cq U) ?_
    obtain ⟨y,hy⟩:=aM e b I
    have J4:=bP iC hy
    refine eS U (IA b U (aA 11 U) dD dc I I)<|eS U (iK b 0 (vI y) U cq (aA 11 U) J4 U dc U) ?_
    have UI:=hw.least y (aP hy)
    have hp:=M.mem N (c _ hm)
    have UH:=Hf hw _ _ hp
    have UL:=uL o.1
    have UM:=hw.opt ho
    have U9:=hw.now
    dsimp only at UH
    refine eS U (BI U (ox ⟨I,I⟩))<|eS U (FA 0 U fT U)<|eS U (L1 (vI o.2.Lo) 1 U cq U U)<|eS U (MX U)<|eS U (LW 3 U cq U U)<|eS U (MV U)<|eS U (CL (Ih o.1) (aK) U)<|eS U (CL (wi t (fB o.1) I I) (aK) U)<|eS U (AG U)<|eJ U<|cv U fun T45 Qr=>AL U tg fun U4=>aH (Qr _ _ (aU [1,2,3,4,5,6,7,8,9,10,11,12,13,14,15,16]) ?_)
    refine cv U fun T47 R0=>fK U sB U<|aH (R0 _ _ (aU [1,2,3,4,5,6,7,8,9,10,11,12,13,14,15,16]) ?_)
    refine fY U<|KK NE<|ao fun _ NW=>dw cx 15 kr<|lU 1 [] (mc 11 U mn) U<|dS (SX (cQ U U) U U)<|dP 4 [0,1] (mr 10 U (mc 8 U mn)) ?_
    have ST:(List.map oC (dB (fb++[B]) (ln.aa.n+1)))[(b+1)]? =some (oC (some B)):=qn (mL (zR I))
    refine dS (IA (b+1) U (aQ (n:=(ln.aa.n+1)) 16 U sq) ov dc I I) ?_
    refine dS (iK (b+1) 0 (Value.map (some B)) U cq (aQ (n:=(dB (fb++[B]) (ln.aa.n+1)).length) 16 U sm) ST U dc U)<|lU 1 [] (mc 0 U mn) U<|dS (SX (sM (kV:=eu) (x:=(dF t (fB o.1))) (l:=O) (f:=iV) (z:=0) U U U o8 pk Uf (by exact aA 7 U)) U U)<|k7 5 U<|cK<|RK NW<|ao fun _ Ak=>dw cx 19 kr<|lU 4 [0,1] (mc 2 U (mc 11 U mn)) U<|dS (SX (cQ U U) U U)<|lU 3 [] (mr 10 U mn) U<|dS (MN U)<|dP 2 [] mn ?_
    refine jM (t:=121) U (aW fun P=>?_) (aV fun P=>?_)
    ·refine dP 8 [] mn ?_
     refine cK<|RK Ak<|cp U<|ct<|aN ?_
     exact H O _ _ (by exact D.skip (H9 hy P)) (aU [1,3,4,5,6,7,8,9,10,11,12,13,14,15,16])
    refine dP 3 [] mn ?_
    refine ia (t:=124) U (fun R=>?_) (fun R=>?_)
    ·rw [Bool.not_eq_true'] at R
     refine k7 5 U<|cK<|RK Ak<|aS U<|dw cx 10 kr<|lU 1 [] (mc 11 U mn) U<|dS (SX (cQ U U) U U)<|dP 4 [0,1] (mr 10 U (mc 8 U mn)) ?_
     have SY:(List.map oC (dB (fb++[B]) (ln.aa.n+1)))[(b+1)]? =some (oC (some B)):=qn (mL (zR I))
     refine dS (IA (b+1) U (aQ (n:=(ln.aa.n+1)) 16 U sq) ov dc I I) ?_
     refine dS (iK (b+1) 0 (Value.map (some B)) U cq (aQ (n:=(dB (fb++[B]) (ln.aa.n+1)).length) 16 U sm) SY U dc U)<|dP 2 [] (mc 0 U mn) ?_
     refine cK<|ja (kV:=eu) (x:=(dF t (fB o.1))) (C':=[_,_,_,_,_,_,_,(kh eu B (cR iV (eo O (dF t (fB o.1)) (max (v+y) o.2.Lo)))),_,_,_,_,_,_,_,_,_]) 7 U U U U o8 pk U (gN _ _ _ _).symm U<|aH<|aN ?_
     exact H (eo O (dF t (fB o.1)) (max (v+y) o.2.Lo)) _ _ (by exact D.set hp ho (zo hy P) (.inl (by simpa using R))) (aU [1,3,4,5,6,7,8,9,10,11,12,13,14,15,16])
    rw [Bool.not_eq_false'] at R
    refine dP 5 [] mn ?_
    refine cK<|RK Ak<|bV U (aW fun u=>?_) (aV fun u=>?_)
    ·refine ct<|aN ?_
     exact H O _ _ (by exact D.oN (zo hy P) (by simpa using R) u) (aU [1,3,4,5,6,7,8,9,10,11,12,13,14,15,16])
    refine dw cx 10 kr<|lU 1 [] (mc 11 U mn) U<|dS (SX (cQ U U) U U)<|dP 4 [0,1] (mr 10 U (mc 8 U mn)) ?_
    have Se:(List.map oC (dB (fb++[B]) (ln.aa.n+1)))[(b+1)]? =some (oC (some B)):=qn (mL (zR I))
    refine dS (IA (b+1) U (aQ (n:=(ln.aa.n+1)) 16 U sq) ov dc I I) ?_
    refine dS (iK (b+1) 0 (Value.map (some B)) U cq (aQ (n:=(dB (fb++[B]) (ln.aa.n+1)).length) 16 U sm) Se U dc U)<|dP 2 [] (mc 0 U mn) ?_
    refine cK<|ja (kV:=eu) (x:=(dF t (fB o.1))) (C':=[_,_,_,_,_,_,_,(kh eu B (cR iV (eo O (dF t (fB o.1)) (max (v+y) o.2.Lo)))),_,_,_,_,_,_,_,_,_]) 7 U U U U o8 pk U (gN _ _ _ _).symm U<|aH<|aN ?_
    exact H (eo O (dF t (fB o.1)) (max (v+y) o.2.Lo)) _ _ (by exact D.set hp ho (zo hy P) (.inr u)) (aU [1,3,4,5,6,7,8,9,10,11,12,13,14,15,16])
   refine bQ<|ai<|ai<|aI<|KK Fd<|WS fun _ A0=>rP 1 [] mn ?_
   refine AL U kl fun Tw=>KD U Eg U U<|RK A0<|aF ?_
   rw [FK]
   refine ru ?_
   have C:(0≤ln.aa.n+1)∧(([]:List FM).length=0)∧(([]:List Nat).length=0)∧(iz (cS ln ri e tms) (ln.aa.n+1-0) ([]:List FM)):=by exact ⟨Nat.zero_le _,rfl,rfl,iz.none_⟩
   refine wm (ι:={z:Nat×(List FM)×(List Nat)×Nat×(List Nat) // (z.1≤ln.aa.n+1)∧(z.2.1.length=z.1)∧(z.2.2.1.length=z.1)∧(iz (cS ln ri e tms) (ln.aa.n+1-z.1) z.2.1)}) (fun z=>z.1.2.2.2.2.map jS) (fun z=>[(0,(vP gw)),(1,(vP W)),(2,(vI (ln.aa.n:Int))),(12,(Value.pointer (some ⟨z.1.2.2.2.1,0,none⟩)))]) (fun z=>[(cd (bw mY z.1.2.1 z.1.2.2.1)),(cw z.1.2.2.2.1 3 [(vI ((ln.aa.n:Int)-(z.1.1:Int)))]),(cd (z.1.2.2.2.2.map mg)),(cw gw 150 (b_.cells (b_.mk ln ri (aR.mk e_A e.length e_C) (aR.mk t_A tms.length t_C) (aR.mk fA (ln.aa.n+1) (ln.aa.n+1)) (aR.mk bA (ln.aa.n+1) (ln.aa.n+1))))).ro,(cw W 108 [(vP gw)]),(rd e_A e.length 1 (e.map iC)).ro,(rd t_A tms.length 1 (List.zipWith gE tms tb)).ro,(d_ (bw pM tms tb)).ro,(own bA (ln.aa.n+1) 156 1 (List.map oC (iv z.1.2.2.1 (ln.aa.n+1)))),(cd (bw mY fs fb)),(own fA (ln.aa.n+1) 156 1 (List.map oC (dB fb (ln.aa.n+1))))]) (fun z=>ln.aa.n+1-z.1.1) ⟨(0,([]:List FM),([]:List Nat),Tw,To),C⟩ U (bE U) (aU [0,1,2,3,4,5,6,7,8,9,10]) ?_
   clear C
   rintro ⟨⟨j,bs,bb,gq,q⟩,⟨A9,BF,B3,E⟩⟩ J57 Ci
   try dsimp only at A9 BF B3 E
   try dsimp only
   refine ao fun _ A1=>WS fun _ A2=>rP 2 [] (mc 1 U mn) ?_
   refine RK A2<|bV U (aW fun Kj=>?_) (aV fun Kj=>?_)
   ·refine bQ<|ai<|ai<|aI ?_
    rw [show (List.map oC (dB fb (ln.aa.n+1)))=(List.zipWith gE fs fb) from by rw [yD I]; exact (z_ I).symm]
    rw [show (List.map oC (iv bb (ln.aa.n+1)))=(List.zipWith gE bs bb) from by rw [GW I]; exact (z_ I).symm]
    refine Ah (C1:=[(own fA (ln.aa.n+1) 156 1 (List.zipWith gE fs fb)),(cd (bw mY fs fb)),(own bA (ln.aa.n+1) 156 1 (List.zipWith gE bs bb)),(cd (bw mY bs bb)),(cd (q.map mg))]) hz [10,9,8,0,2] U U (by simp only [fM,List.all_nil,pD,Lz,Bool.and_true]; rfl) ?_
    rw [show (cw gw 150 (b_.cells (b_.mk ln ri (aR.mk e_A e.length e_C) (aR.mk t_A tms.length t_C) (aR.mk fA (ln.aa.n+1) (ln.aa.n+1)) (aR.mk bA (ln.aa.n+1) (ln.aa.n+1)))))=(cw gw 150 (b_.cells (b_.mk ln ri (aR.mk e_A e.length e_C) (aR.mk t_A tms.length t_C) (aR.mk fA fs.length (ln.aa.n+1)) (aR.mk bA bs.length (ln.aa.n+1))))) from by rw [show fs.length=(ln.aa.n+1) from by omega,show bs.length=(ln.aa.n+1) from by omega]]
    refine N6 [(cw gw 150 (b_.cells (b_.mk ln ri (aR.mk e_A e.length e_C) (aR.mk t_A tms.length t_C) (aR.mk fA fs.length (ln.aa.n+1)) (aR.mk bA bs.length (ln.aa.n+1))))),(own fA (ln.aa.n+1) 156 1 (List.zipWith gE fs fb)),(cd (bw mY fs fb)),(own bA (ln.aa.n+1) 156 1 (List.zipWith gE bs bb)),(cd (bw mY bs bb))] [(cd (q.map mg))] ?_
    refine hN _ _ _ (Jv 1 U U<|jZ (vs:=[]) trivial fun w hs=>Ri (fs,fb,fA,(ln.aa.n+1),bs,bb,bA,(ln.aa.n+1)) 0 ?_ ?_ U (by show List.all _ _=true; simp only [fM,List.all_nil,pD,Bool.and_true]; rfl) hs)
    ·clear hs w hQ hN A2 A1 A0 AO F9 Fn Fd Eq Do; rfl
    ·clear hs w hQ hN A2 A1 A0 AO F9 Fn Fd Eq Do; exact ⟨M.ok (by show fs.length=e.length+1; omega),iz.ok (by have:=E; rwa [show ln.aa.n+1-j=0 by omega] at this) (by show bs.length=e.length+1; omega),dso,dso⟩
   refine WK A1<|ao fun _ Cp=>aF<|ao fun _ NZ=>?_
   obtain ⟨b,U6⟩: ∃ b:Nat,b+j=ln.aa.n:=⟨ln.aa.n-j,I⟩
   rw [show (ln.aa.n:Int)-(j:Int)=(b:Int) from by omega]
   have U0:(iv bb (ln.aa.n+1)).length=(ln.aa.n+1):=yw I
   refine dV cx [5,12,13,15] [11] [0,1,2] [0,1,2,3,4,5,6,7,9,10] [0,1,2,3,4,5,6,7,8,9,10] U U U U U<|eS U (CA 4 U cq U)<|eS U (SX (cQ U U) U U)<|eS U (FA 13 U fT U)<|eS U (HI (vS bA (ln.aa.n+1) (ln.aa.n+1)) 3 U cq U U)<|eS U (CA 1 U cq U)<|eS U (SX (bf (xs:=[]) (cs:=(aD.cells (aD.mk 0 0))) U U (bg AF U)) U U)<|eS U (CA 4 U cq U)<|eS U (SX (cQ U U) U U)<|eS U (FA 7 U fT U)<|eS U (FA 8 U fT U)<|eS U (HI (vI ri.gd) 3 U cq U U) ?_
   obtain ⟨US,TK⟩:=aM (iv bb (ln.aa.n+1)) b I
   have hx63m:(List.map oC (iv bb (ln.aa.n+1)))[b]? =some (oC US):=by rw [fO,TK]; rfl
   refine fS U (IA b U (aQ (n:=(ln.aa.n+1)) 8 U sq) ov dc I I) ?_
   refine eJ U<|mw U fun T64 R1=>mJ (kV:=eu) U U fun A=>?_
   try dsimp only
   refine aH (R1 _ _ (aU [1,2,3,4,5,6,7,8,10,11]) (aU [1,2,3,4,5,6,7,8,9,10,11]) ?_)
   refine mw U fun T66 R2=>?_
   have R9:(eo ([]:List (aD×Int)) (aD.mk 0 0) ri.gd)=[((aD.mk 0 0),ri.gd)]:=by rfl
   refine yR (kV:=eu) (x:=(aD.mk 0 0)) (C':=[(kh eu A (cR iV ([((aD.mk 0 0),ri.gd)]))),_,_,_,_,_,_,_,_,_,_,_]) 0 U U U U o8 pk U ((gN _ _ _ _).symm.trans (congrArg _ R9)) U<|aH (R2 _ _ (aU [1,2,3,4,5,6,7,8,10,11]) (aU [1,2,3,4,5,6,7,8,9,10,11]) ?_)
   refine mw U fun T68 R3=>rS (MV U)<|aH (R3 _ _ (aU [1,2,3,4,5,6,7,8,10,11]) (aU [1,2,3,4,5,6,7,8,9,10,11]) ?_)
   refine cv U fun T69 R4=>?_
   have SM:((iv bb (ln.aa.n+1)).set b (some A))=(iv (A::bb) (ln.aa.n+1)):=by exact GI I
   refine jg (k:=b) (o:=0) (vs:=[(Value.map (some A))]) (es':=(List.map oC (iv (A::bb) (ln.aa.n+1)))) (C':=[_,_,_,_,_,_,_,_,_,(own bA (ln.aa.n+1) 156 1 (List.map oC (iv (A::bb) (ln.aa.n+1)))),_,_]) 9 U U U Hd U U U U hx63m U dc (by exact (List.map_set (f:=oC) (l:=(iv bb (ln.aa.n+1))) (i:=b) (a:=(some A))).symm.trans (congrArg _ SM)) U<|aH (R4 _ _ (aU [1,2,3,4,5,6,7,8,10,11]) ?_)
   refine fY U<|KK NZ<|ao fun _ Ne=>WS fun _ Nh=>rP 3 [] (mc 2 U mn) ?_
   refine RK Nh<|cH U (aV fun Kz=>?_) (aW fun Kz=>?_)
   ·refine bQ<|ai<|aI<|KK Cp<|ao fun _ Nv=>WS fun _ OR=>e7 1 [] (mc 2 U mn) U<|RK OR<|av<|AL U kl fun T0=>KD U Eg U U<|RK Nv<|av<|rP 2 [] (mc 0 U mn) ?_
    refine KD U Eg U U<|aH ?_
    rw [show (b:Int)-1=(ln.aa.n:Int)-(((j+1):Nat):Int) from by omega]
    refine zh (ms:=bs) (m:=[((aD.mk 0 0),ri.gd)]) (a:=A) 2 1 U U U ?_
    try dsimp only
    refine bp (Ci ⟨((j+1),([((aD.mk 0 0),ri.gd)]::bs),(A::bb),T0,q),⟨I,by simp; omega,by simp; omega,by exact iz.end_ (b:=b) E I I (by show e.length≤b; omega)⟩⟩ _ _ _ U os (bE U) (aU [0,1,3,4,5,6,7,8,9,10,11]))
   refine WK Ne<|ao fun _ Ok=>?_
   have UK:(iv (A::bb) (ln.aa.n+1)).length=(ln.aa.n+1):=yw (by simp; omega)
   obtain ⟨mb,N⟩:=aM bs 0 I
   obtain ⟨ga,Z⟩:=aM bb 0 I
   refine zg 1 N Z U U U ?_
   try dsimp only
   refine dw cx 8 kr<|lU 1 [] (mc 6 U mn) U<|dS (SX (cQ U U) U U)<|dP 4 [0,1] (mr 5 U (mc 3 U mn)) ?_
   have S1:(List.map oC (iv (A::bb) (ln.aa.n+1)))[(b+1)]? =some (oC (some ga)):=qn (ux (i:=1) (by simpa using Z) (by simp; omega))
   refine dS (IA (b+1) U (aQ (n:=(ln.aa.n+1)) 10 U sq) ov dc I I) ?_
   refine dS (iK (b+1) 0 (Value.map (some ga)) U cq (aQ (n:=(iv (A::bb) (ln.aa.n+1)).length) 10 U sm) S1 U dc U)<|cK<|yT 0 U U o8 U U fun CM=>?_
   try dsimp only
   refine RK Ok<|aF ?_
   have C:(∀ p∈mb,p∈mb)∧(v_ (cS ln ri e tms) b ([((aD.mk 0 0),ri.gd)]))∧(jR (cS ln ri e tms) b mb ([((aD.mk 0 0),ri.gd)]) mb):=by exact ⟨fun p hp=>hp,v_.start (by show b<e.length; omega),jR.start⟩
   refine wm (ι:={z:FM×FM×(List Nat) // (∀ p∈z.1,p∈mb)∧(v_ (cS ln ri e tms) b z.2.1)∧(jR (cS ln ri e tms) b mb z.2.1 z.1)}) (fun z=>z.1.2.2.map jS) (fun z=>[(0,(vP gw)),(1,(vP W)),(2,(vI (ln.aa.n:Int))),(12,(vP gq)),(171,(vP CM))]) (fun z=>[(zy eu CM ga (cR iV mb) (cR iV z.1.1) none),(cd (jf mY bs bb 0)),(kh eu A (cR iV z.1.2.1)),(cw gq 3 [(vI (b:Int))]),(cd (z.1.2.2.map mg)),(cw gw 150 (b_.cells (b_.mk ln ri (aR.mk e_A e.length e_C) (aR.mk t_A tms.length t_C) (aR.mk fA (ln.aa.n+1) (ln.aa.n+1)) (aR.mk bA (ln.aa.n+1) (ln.aa.n+1))))).ro,(cw W 108 [(vP gw)]),(rd e_A e.length 1 (e.map iC)).ro,(rd t_A tms.length 1 (List.zipWith gE tms tb)).ro,(d_ (bw pM tms tb)).ro,(own bA (ln.aa.n+1) 156 1 (List.map oC (iv (A::bb) (ln.aa.n+1)))),(cd (bw mY fs fb)),(own fA (ln.aa.n+1) 156 1 (List.map oC (dB fb (ln.aa.n+1))))]) (fun z=>z.1.1.length) ⟨(mb,[((aD.mk 0 0),ri.gd)],q),C⟩ U (bE U) (aU [0,1,2,3,4,5,6,7,8,9,10,11,12]) ?_
   clear C
   rintro ⟨⟨left,m,V⟩,⟨J,K,L⟩⟩ J80 LA
   try dsimp only at J K L
   try dsimp only
   refine WS fun _ Cx=>w9 pk.inj (f:=iV) 0 U U U U (fun K0=>?_) (fun t v hm J3=>?_)
   ·refine bI 1 U<|RK Cx<|ao fun _ Uu=>cp U<|bQ<|ai<|ai<|aI<|aN<|KK Cp<|ao fun _ Op=>WS fun _ Or=>e7 1 [] (mc 3 U mn) U<|RK Or<|av<|AL U kl fun J9=>KD U Eg U U<|RK Op<|av<|rP 2 [] (mc 0 U mn) ?_
    refine KD U Eg U U<|aH<|Jg (C':=[(cw J9 3 [(vI ((b:Int)-1))]),(kh eu ga (cR iV mb)),(cd (jf mY bs bb 0)),(kh eu A (cR iV m)),(cw gq 3 [(vI (b:Int))]),(cd (V.map mg)),(cw gw 150 (b_.cells (b_.mk ln ri (aR.mk e_A e.length e_C) (aR.mk t_A tms.length t_C) (aR.mk fA (ln.aa.n+1) (ln.aa.n+1)) (aR.mk bA (ln.aa.n+1) (ln.aa.n+1))))).ro,(cw W 108 [(vP gw)]),(rd e_A e.length 1 (e.map iC)).ro,(rd t_A tms.length 1 (List.zipWith gE tms tb)).ro,(d_ (bw pM tms tb)).ro,(own bA (ln.aa.n+1) 156 1 (List.map oC (iv (A::bb) (ln.aa.n+1)))),(cd (bw mY fs fb)),(own fA (ln.aa.n+1) 156 1 (List.map oC (dB fb (ln.aa.n+1))))]) 1 U Hb U<|I1 2 1 N Z U U U ?_
    try dsimp only
    rw [show (b:Int)-1=(ln.aa.n:Int)-(((j+1):Nat):Int) from by omega]
    refine zh (ms:=bs) (m:=m) (a:=A) 0 2 U U U ?_
    try dsimp only
    refine bp (Ci ⟨((j+1),(m::bs),(A::bb),J9,V),⟨I,by simp; omega,by simp; omega,by exact iz.more (b:=b) E I I (by show b<e.length; omega) N K L K0⟩⟩ _ _ _ U os (bE U) (aU [0,1,3,4,5,6,7,8,9,10,11]))
   try dsimp only
   refine bI 1 U<|RK Cx<|ao fun _ Os=>aS U<|WK Os<|aF<|WS fun _ O2=>rS (SX (xp 0 U U U) U U)<|bI 2 U<|AL U tg fun Ka=>AL U kl fun Kh=>sr U sB U<|KD U Eg U U<|RK O2<|WS fun _ O3=>rP 2 [0,1] (mc 8 U (mc 5 U mn)) ?_
   refine cX (uV gw b) (aK) U fun UW U2=>?_
   obtain ⟨C2,Di⟩:=UW
   try dsimp only
   refine RK O3<|aF<|jr 11 U (by exact fun _ h=>h)<|jr 13 U (by exact fun _ h=>h)<|jr 15 U (by exact fun _ h=>h)<|jr 12 U (by exact fun _ h=>h) ?_
   refine tG (L0:=[(0,(vP gw)),(1,(vP W)),(2,(vI (ln.aa.n:Int))),(12,(vP gq)),(13,(vP Ka)),(14,(vP Kh)),(171,(vP CM))]) (F:=[(rd e_A e.length 1 (e.map iC)).ro,(rd t_A tms.length 1 (List.zipWith gE tms tb)).ro,(d_ (bw pM tms tb)).ro,(cw gw 150 (b_.cells (b_.mk ln ri (aR.mk e_A e.length e_C) (aR.mk t_A tms.length t_C) (aR.mk fA (ln.aa.n+1) (ln.aa.n+1)) (aR.mk bA (ln.aa.n+1) (ln.aa.n+1))))).ro,(cw C2 108 [(vP gw)]),(cw Di 3 [(vI (b:Int))])]) (fun k (y:FM)=>(nI (cS ln ri e tms) b mb left y (t,v) k)) (fun k y=>[(cw Kh 3 [(vI v)]),(cw Ka 158 (aD.cells t)),(zy eu CM ga (cR iV mb) (cR iV (eY left t)) (some (t,(vI v)))),(cd (jf mY bs bb 0)),(kh eu A (cR iV y)),(cw gq 3 [(vI (b:Int))]),(cd (V.map mg)),(cw gw 150 (b_.cells (b_.mk ln ri (aR.mk e_A e.length e_C) (aR.mk t_A tms.length t_C) (aR.mk fA (ln.aa.n+1) (ln.aa.n+1)) (aR.mk bA (ln.aa.n+1) (ln.aa.n+1))))).ro,(cw W 108 [(vP gw)]),(rd e_A e.length 1 (e.map iC)).ro,(rd t_A tms.length 1 (List.zipWith gE tms tb)).ro,(d_ (bw pM tms tb)).ro,(own bA (ln.aa.n+1) 156 1 (List.map oC (iv (A::bb) (ln.aa.n+1)))),(cd (bw mY fs fb)),(own fA (ln.aa.n+1) 156 1 (List.map oC (dB fb (ln.aa.n+1))))]) (fun _ (_:Unit)=>False) (fun _ _=>[]) [6,7,8,9,10,11,12,13,14,15,16,17,18,19,20] [3,2,1,0,4,5] m rfl rfl (sN ln ri e tms e_A e_C tb t_A t_C fA (ln.aa.n+1) (ln.aa.n+1) bA (ln.aa.n+1) (ln.aa.n+1) gw b C2 Di I I) rfl rfl rfl (by exact nI.start K L) (by simp only [List.forall_mem_cons,List.not_mem_nil,false_imp_iff,implies_true,and_true]; exact ⟨⟨_,aP (i:=0) rfl,(dJ (bX _))⟩,⟨_,aP (i:=1) rfl,(dJ (bX _))⟩,⟨_,aP (i:=2) rfl,(dJ (bX _))⟩,⟨_,aP (i:=3) rfl,(dJ (bX _))⟩,⟨_,aP (i:=4) rfl,(bX _)⟩,⟨_,aP (i:=5) rfl,(bX _)⟩⟩) (by rintro k x k2 ⟨o,_,rfl,_⟩; rfl) rfl (bE rfl) ?_ ?_ (fun _ _ _ h=>h.elim) (fun _ _ h=>h.elim)
   rotate_left 1
   ·rintro Tg k O A4 A8
    have D:=A8
    try dsimp only
    refine aN<|aN<|Jt (X:=V.map mg) 13 0 U U ?_
    try dsimp only
    refine ry 9 U Bg U ?_
    refine bp (LA ⟨((eY left t),O,(Tg::V)),⟨mA J,D.on,D.next J3 hm A4⟩⟩ _ _ _ U (mH hm) (bE U) (aU [9,10,11,12,0,4,14,1,2,3,18,19,20]))
   rintro k x k2 O l ra rb S w1 K95 Qr96 UN hx Ie PI AB UU UY
   obtain ⟨o,ho,rfl,rfl⟩:=hx
   have D:=Ie
   try dsimp only
   refine WS fun _ PP=>rP 1 [] mn ?_
   refine RK PP<|av<|AL U ed fun U5=>fK U c_ U<|aH<|jV (fun _ _ h=>h) (aU [1,0,2,3,4,5,6,7,8,9,10,11,12,13,14,15,16])<|bp (PI _ _ ?_)
   refine aF<|ao fun _ EP=>dV cx [16,18] [] [] [0,1,2,3,4,5,6,7,8,9,10,11,12,13,14,15,16] [] U U U U U<|eS U (CA 2 U cq U)<|eS U (FA 1 U fT U)<|eS U (L1 (vI o.2.Hi) 1 U cq U U) ?_
   have hp:=E.S9 (b:=b) I N (J _ hm)
   have UG:=Hv hw hp
   have UL:=uL o.1
   have UM:=hw.opt ho
   dsimp only at UG
   refine eS U (MN U)<|eS U (CA 10 U cq U)<|eS U (SX (cQ U U) U U)<|eS U (FA 10 U fT U)<|eS U (HI (vS e_A e.length e_C) 9 U cq U U)<|eS U (CA 7 U cq U) ?_
   obtain ⟨y,hy⟩:=aM e b I
   have J4:=bP iC hy
   refine eS U (IA b U (aA 11 U) dD dc I I)<|eS U (iK b 0 (vI y) U cq (aA 11 U) J4 U dc U) ?_
   have UI:=hw.least y (aP hy)
   refine eS U (BI U (xL ⟨I,I⟩))<|eS U (LW 3 U cq U U)<|eS U (MV U)<|eS U (CL (Ih o.1) (aK) U)<|eS U (CL (wi t (fB o.1) I I) (aK) U)<|eS U (AG U)<|eJ U<|cv U fun T101 GE=>AL U tg fun UZ=>aH (GE _ _ (aU [1,2,3,4,5,6,7,8,9,10,11,12,13,14,15,16,17]) ?_)
   refine cv U fun T103 GT=>fK U sB U<|aH (GT _ _ (aU [1,2,3,4,5,6,7,8,9,10,11,12,13,14,15,16,17]) ?_)
   refine fY U<|KK EP<|ao fun _ EQ=>dw cx 14 kr<|lU 1 [] (mc 11 U mn) U<|dS (SX (cQ U U) U U)<|dP 3 [0,1] (mr 10 U (mc 8 U mn)) ?_
   have If:(List.map oC (iv (A::bb) (ln.aa.n+1)))[b]? =some (oC (some A)):=qn (ux (i:=0) rfl (by simp; omega))
   refine dS (IA b U (aQ (n:=(ln.aa.n+1)) 15 U sq) ov dc I I) ?_
   refine dS (iK b 0 (Value.map (some A)) U cq (aQ (n:=(iv (A::bb) (ln.aa.n+1)).length) 15 U sm) If U dc U)<|lU 1 [] (mc 0 U mn) U<|dS (SX (sM (kV:=eu) (x:=(dF t (fB o.1))) (l:=O) (f:=iV) (z:=0) U U U o8 pk Uf (by exact aA 7 U)) U U)<|k7 5 U<|cK<|RK EQ<|WS fun _ Y=>e7 3 [0,1] (mc 3 U (mc 2 U mn)) U<|rS (MN U)<|rP 4 [] (mc 2 U mn) ?_
   refine cM (t:=217) U (aW fun T=>?_) (aV fun T=>?_)
   ·refine rP 8 [] mn ?_
    refine RK Y<|cp U<|ct<|aN ?_
    exact AB O _ _ (by exact D.skip (LH T)) (aU [1,3,4,5,6,7,8,9,10,11,12,13,14,15,16,17])
   refine rP 3 [] mn ?_
   refine cg (t:=220) U (fun AA=>?_) (fun AA=>?_)
   ·rw [Bool.not_eq_true'] at AA
    refine bI 5 U<|RK Y<|aS U<|dw cx 9 kr<|lU 1 [] (mc 11 U mn) U<|dS (SX (cQ U U) U U)<|dP 3 [0,1] (mr 10 U (mc 8 U mn)) ?_
    have In:(List.map oC (iv (A::bb) (ln.aa.n+1)))[b]? =some (oC (some A)):=qn (ux (i:=0) rfl (by simp; omega))
    refine dS (IA b U (aQ (n:=(ln.aa.n+1)) 15 U sq) ov dc I I) ?_
    refine dS (iK b 0 (Value.map (some A)) U cq (aQ (n:=(iv (A::bb) (ln.aa.n+1)).length) 15 U sm) In U dc U)<|dP 2 [] (mc 0 U mn) ?_
    refine cK<|ja (kV:=eu) (x:=(dF t (fB o.1))) (C':=[_,_,_,_,_,_,_,(kh eu A (cR iV (eo O (dF t (fB o.1)) ((min v o.2.Hi)-y)))),_,_,_,_,_,_,_,_,_,_]) 7 U U U U o8 pk U (gN _ _ _ _).symm U<|aH<|aN ?_
    exact AB (eo O (dF t (fB o.1)) ((min v o.2.Hi)-y)) _ _ (by exact D.set (by show b<e.length; omega) hp ho (zU hy T) (.inl (by simpa using AA))) (aU [1,3,4,5,6,7,8,9,10,11,12,13,14,15,16,17])
   rw [Bool.not_eq_false'] at AA
   refine rP 5 [] mn ?_
   refine RK Y<|bV U (aW fun AC=>?_) (aV fun AC=>?_)
   ·refine ct<|aN ?_
    exact AB O _ _ (by exact D.oN (zU hy T) (by simpa using AA) AC) (aU [1,3,4,5,6,7,8,9,10,11,12,13,14,15,16,17])
   refine dw cx 9 kr<|lU 1 [] (mc 11 U mn) U<|dS (SX (cQ U U) U U)<|dP 3 [0,1] (mr 10 U (mc 8 U mn)) ?_
   have I8:(List.map oC (iv (A::bb) (ln.aa.n+1)))[b]? =some (oC (some A)):=qn (ux (i:=0) rfl (by simp; omega))
   refine dS (IA b U (aQ (n:=(ln.aa.n+1)) 15 U sq) ov dc I I) ?_
   refine dS (iK b 0 (Value.map (some A)) U cq (aQ (n:=(iv (A::bb) (ln.aa.n+1)).length) 15 U sm) I8 U dc U)<|dP 2 [] (mc 0 U mn) ?_
   refine cK<|ja (kV:=eu) (x:=(dF t (fB o.1))) (C':=[_,_,_,_,_,_,_,(kh eu A (cR iV (eo O (dF t (fB o.1)) ((min v o.2.Hi)-y)))),_,_,_,_,_,_,_,_,_,_]) 7 U U U U o8 pk U (gN _ _ _ _).symm U<|aH<|aN ?_
   exact AB (eo O (dF t (fB o.1)) ((min v o.2.Hi)-y)) _ _ (by exact D.set (by show b<e.length; omega) hp ho (zU hy T) (.inr AC)) (aU [1,3,4,5,6,7,8,9,10,11,12,13,14,15,16,17])
  refine dV cx [4,11,12,14] [10] [0,1,2] [0,1,2,3,4,6] [0,1,2,3,4,5,6] U U U U U<|eS U (CA 1 U cq U)<|eS U (SX (cQ U U) U U)<|eS U (FA 12 U fT U)<|eS U (HI (vS fA (ln.aa.n+1) (ln.aa.n+1)) 0 U cq U U)<|eS U (SX (bf (xs:=[]) (cs:=(aD.cells (aD.mk 0 0))) U U (bg AF U)) U U)<|eS U (CA 1 U cq U)<|eS U (SX (cQ U U) U U)<|eS U (FA 7 U fT U)<|eS U (FA 7 U fT U)<|eS U (HI (vI ri.Start) 0 U cq U U) ?_
  obtain ⟨x6,UO⟩:=aM (List.replicate (ln.aa.n+1) (none:Option Nat)) 0 I
  have hx7m:(List.map oC (List.replicate (ln.aa.n+1) (none:Option Nat)))[0]? =some (oC x6):=by rw [fO,UO]; rfl
  refine fS U (IA 0 U (aQ (n:=(ln.aa.n+1)) 5 U sq) ov dc U I) ?_
  refine eJ U<|mw U fun T8 H1=>mJ (kV:=eu) U U fun r=>?_
  try dsimp only
  refine aH (H1 _ _ (aU [1,2,3,4,5,7]) (aU [1,2,3,4,5,6,7]) ?_)
  refine mw U fun T10 G=>?_
  have R5:(eo ([]:List (aD×Int)) (aD.mk 0 0) ri.Start)=[((aD.mk 0 0),ri.Start)]:=by rfl
  refine yR (kV:=eu) (x:=(aD.mk 0 0)) (C':=[(kh eu r (cR iV ([((aD.mk 0 0),ri.Start)]))),_,_,_,_,_,_,_]) 0 U U U U o8 pk U ((gN _ _ _ _).symm.trans (congrArg _ R5)) U<|aH (G _ _ (aU [1,2,3,4,5,7]) (aU [1,2,3,4,5,6,7]) ?_)
  refine mw U fun T12 Pa=>rS (MV U)<|aH (Pa _ _ (aU [1,2,3,4,5,7]) (aU [1,2,3,4,5,6,7]) ?_)
  refine cv U fun T13 Pi=>?_
  have R6:((List.replicate (ln.aa.n+1) (none:Option Nat)).set 0 (some r))=(dB [r] (ln.aa.n+1)):=by rw [vf]; exact rI rfl sm
  refine jg (k:=0) (o:=0) (vs:=[(Value.map (some r))]) (es':=(List.map oC (dB [r] (ln.aa.n+1)))) (C':=[_,_,_,_,_,_,(own fA (ln.aa.n+1) 156 1 (List.map oC (dB [r] (ln.aa.n+1)))),_]) 6 U U U Hd U U U U hx7m U dc (by exact (List.map_set (f:=oC) (l:=(List.replicate (ln.aa.n+1) (none:Option Nat))) (i:=0) (a:=(some r))).symm.trans (congrArg _ R6)) U<|aH (Pi _ _ (aU [1,2,3,4,5,7]) ?_)
  refine fY U<|CP<|yr (X:=[]) (X':=bw mY [[((aD.mk 0 0),ri.Start)]] [r]) 0 1 U U U ?_
  try dsimp only
  refine bp (jV (bE U) (aU [1,2,3,4,5,7,0,6]) (UF ⟨r,trivial⟩))
 refine mx cx [0,1,2,3,5,6,8,9,11,12] [4,7,10,13] [false,false,false,false,false,false,false,false,false,false] [] [(cw W 108 [(vP gw)]),(rd e_A e.length 1 (e.map iC)).ro,(rd t_A tms.length 1 (List.zipWith gE tms tb)).ro,(d_ (bw pM tms tb)).ro] [] kr (aU [0,2,3,4]) (aU [])<|eS U (CA 0 U cq U)<|eS U (CA 0 U cq U)<|eS U (MV U)<|eS U (BI U (ox ⟨I,I⟩))<|eS U (MV U)<|eS U (BI U (ox ⟨I,I⟩))<|eS U (SX (cQ U U) U U)<|eS U (FA 12 U fT U)<|eS U (SX (cQ U U) U U)<|eS U (FA 13 U fT U)<|eJ U<|mS [4,7] kr (iO ?_<|iO ?_<|qm)
 rotate_left 1
 ·refine NO U U [4,10,13] fun T5 Go=>?_
  refine vW (n:=(ln.aa.n+1)) (es:=(List.map oC (List.replicate (ln.aa.n+1) (none:Option Nat)))) U U U Aw I I (by simp only [maxLen]; omega) (by rw [List.map_replicate]; rfl) U fun b6=>?_
  try dsimp only
  refine aH (Go _ _ (aU [1,3,4,5]) ?_)
  refine N1 4<|NO U U [10,13] fun T7 A3=>?_
  refine vW (n:=(ln.aa.n+1)) (es:=(List.map oC (List.replicate (ln.aa.n+1) (none:Option Nat)))) U U U Aw I I (by simp only [maxLen]; omega) (by rw [List.map_replicate]; rfl) U fun b8=>?_
  try dsimp only
  refine aH (A3 _ _ (aU [2,4,5,6]) ?_)
  refine N1 10<|NO U U [13] fun T9 IO=>QL (b_.cells (b_.mk ln ri (aR.mk e_A e.length e_C) (aR.mk t_A tms.length t_C) (aR.mk (some ⟨b8,0,none⟩) (ln.aa.n+1) (ln.aa.n+1)) (aR.mk none 0 0))) U zi U U<|aH (IO _ _ (aU [2,4,5,6]) ?_)
  refine N1 13<|NO U U [] fun T10 G=>QL (b_.cells (b_.mk ln ri (aR.mk e_A e.length e_C) (aR.mk t_A tms.length t_C) (aR.mk (some ⟨b8,0,none⟩) (ln.aa.n+1) (ln.aa.n+1)) (aR.mk (some ⟨b6,0,none⟩) (ln.aa.n+1) (ln.aa.n+1)))) U zi U U<|aH (G _ _ (aU [2,4,5,6]) ?_)
  refine lS ?_
  refine bp (jV (bE U) (aU [2,4,5,6,0,1,3]) (FS ⟨((some ⟨b8,0,none⟩),(some ⟨b6,0,none⟩)),trivial⟩))
 refine NO U U [7,10,13] fun T5 Go=>?_
 refine vW (n:=(ln.aa.n+1)) (es:=(List.map oC (List.replicate (ln.aa.n+1) (none:Option Nat)))) U U U Aw I I (by simp only [maxLen]; omega) (by rw [List.map_replicate]; rfl) U fun b6=>?_
 try dsimp only
 refine aH (Go _ _ (aU [1,3,4,5]) ?_)
 refine mS [7,10] kr (iO ?_<|iO ?_<|qm)
 rotate_left 1
 ·refine NO U U [7,13] fun T7 A3=>Uz (b_.cells (b_.mk ln ri (aR.mk e_A e.length e_C) (aR.mk t_A tms.length t_C) (aR.mk (some ⟨b6,0,none⟩) (ln.aa.n+1) (ln.aa.n+1)) (aR.mk none 0 0))) U zi U U<|aH (A3 _ _ (aU [1,3,4,5]) ?_)
  refine N1 7<|NO U U [13] fun T8 H1=>?_
  refine vW (n:=(ln.aa.n+1)) (es:=(List.map oC (List.replicate (ln.aa.n+1) (none:Option Nat)))) U U U Aw I I (by simp only [maxLen]; omega) (by rw [List.map_replicate]; rfl) U fun r=>?_
  try dsimp only
  refine aH (H1 _ _ (aU [2,4,5,6]) ?_)
  refine N1 13<|NO U U [] fun T10 G=>QL (b_.cells (b_.mk ln ri (aR.mk e_A e.length e_C) (aR.mk t_A tms.length t_C) (aR.mk (some ⟨b6,0,none⟩) (ln.aa.n+1) (ln.aa.n+1)) (aR.mk (some ⟨r,0,none⟩) (ln.aa.n+1) (ln.aa.n+1)))) U zi U U<|aH (G _ _ (aU [2,4,5,6]) ?_)
  refine lS ?_
  refine bp (jV (bE U) (aU [2,4,5,6,1,0,3]) (FS ⟨((some ⟨b6,0,none⟩),(some ⟨r,0,none⟩)),trivial⟩))
 refine NO U U [10,13] fun T7 A3=>?_
 refine vW (n:=(ln.aa.n+1)) (es:=(List.map oC (List.replicate (ln.aa.n+1) (none:Option Nat)))) U U U Aw I I (by simp only [maxLen]; omega) (by rw [List.map_replicate]; rfl) U fun b8=>?_
 try dsimp only
 refine aH (A3 _ _ (aU [2,4,5,6]) ?_)
 refine N1 10<|NO U U [13] fun T9 IO=>QL (b_.cells (b_.mk ln ri (aR.mk e_A e.length e_C) (aR.mk t_A tms.length t_C) (aR.mk (some ⟨b6,0,none⟩) (ln.aa.n+1) (ln.aa.n+1)) (aR.mk none 0 0))) U zi U U<|aH (IO _ _ (aU [2,4,5,6]) ?_)
 refine N1 13<|NO U U [] fun T10 G=>QL (b_.cells (b_.mk ln ri (aR.mk e_A e.length e_C) (aR.mk t_A tms.length t_C) (aR.mk (some ⟨b6,0,none⟩) (ln.aa.n+1) (ln.aa.n+1)) (aR.mk (some ⟨b8,0,none⟩) (ln.aa.n+1) (ln.aa.n+1)))) U zi U U<|aH (G _ _ (aU [2,4,5,6]) ?_)
 refine lS ?_
 refine bp (jV (bE U) (aU [2,4,5,6,1,0,3]) (FS ⟨((some ⟨b6,0,none⟩),(some ⟨b8,0,none⟩)),trivial⟩))
end
section
open Go.RowKit
theorem DE (l:bj) (kA:OA) (kC:Nat) (az:List RA) (cA:OA) (cC:Nat) (bA:OA) (bC g1:Nat) (bm:Int) (g2:Nat) (hin:eH l az):
 dH Tryz.prog 43 [(vP g1),(vP g2)] [(rd kA l.aL.length 9 (l.aL.map au.cells)),(rd cA l.ak.length 2 (List.zipWith ax.cells l.ak az)),(d_ (bw ax.gL l.ak az)),(rd bA l.aa.length 4 (l.aa.map bM.cells)),(cw g1 28 (bT.cells (ki l kA kC cA cC bA bC))),(cw g2 3 [(vI bm)])] (vI (jI l bm)):=by
 have K:=hin.te
 have J:=hin.s_
 have H:=hin.oY
 have AA:=hin.s7
 refine bH kr Tryz.func43 U U fun L Q hQ hN=>?_
 try dsimp only
 refine WS fun _ B=>bI 1 U<|RK B<|ao fun _ C=>WS fun _ D=>rP 5 [0,1] (mr 4 U (mr 5 U mn)) ?_
 refine ew (xs:=[.tmp 7]) (cs:=[(vI bm)]) U dD kl U U U U (by simp [Value.cells]) U U fun G=>?_
 refine rS (CL (dH.eq (il 0 ((l.aa.length:Int)-1) ([bm]) (some ⟨G,0,none⟩) 1 (by (simp; done))) cz) (aJ (bo 0 U U (by simp [bO]) U)<|aK) U) ?_
 refine rP 1 [] mn ?_
 refine RK D<|cH U (bu fun A=>?_) (br fun A=>?_)
 ·refine WS fun _ E=>rP 1 [] mn ?_
  refine RK E<|ar<|Q1 hQ U U U ?_
  exact cI (if_neg I).symm
 refine WK C<|WS fun _ F=>rP 1 [] mn ?_
 refine RK F<|ar<|Q1 hQ U U U ?_
 exact cI (if_pos I).symm
theorem MA (l:bj) (kA:OA) (kC:Nat) (az:List RA) (cA:OA) (cC:Nat) (bA:OA) (bC:Nat) (r:cD) (sgA:OA) (sgC:Nat) (hin:eH l az) (hsl:r.ab.length≤1000000):
 rU Tryz.prog 42 [(vA (bT.cells (ki l kA kC cA cC bA bC))),(vA (cU.cells (jE r sgA sgC))),(vS none 0 0)] [(rd kA l.aL.length 9 (l.aL.map au.cells)),(rd cA l.ak.length 2 (List.zipWith ax.cells l.ak az)),(d_ (bw ax.gL l.ak az)),(rd bA l.aa.length 4 (l.aa.map bM.cells)),(rd sgA r.ab.length 2 (r.ab.map aG.cells))] (fun (x:Bool×Int×Nat×(OA)×Nat×(OA)×Nat×(List Nat)×(List FM)×(List Nat)×(OA)×Nat×(List FM)×(List Nat)×(OA)×Nat)=>bif x.1 then (vT [(Value.pointer (some ⟨x.2.2.1,0,none⟩)),(vI 0)]) else (vT [(Value.pointer none),(vI x.2.1)])) (fun (x:Bool×Int×Nat×(OA)×Nat×(OA)×Nat×(List Nat)×(List FM)×(List Nat)×(OA)×Nat×(List FM)×(List Nat)×(OA)×Nat)=>(x.1=true→(dN l r 0=0∧vy (cb l r) x.2.2.2.2.2.2.2.2.1∧sU (cb l r) x.2.2.2.2.2.2.2.2.2.2.2.2.1∧x.2.2.2.2.2.2.2.2.2.1.length=x.2.2.2.2.2.2.2.2.1.length∧x.2.2.2.2.2.2.2.2.2.2.2.2.2.1.length=x.2.2.2.2.2.2.2.2.2.2.2.2.1.length∧x.2.2.2.2.2.2.2.1.length=(cL l r.ab r.ab.length).length))∧(x.1=false→(x.2.1=dN l r 0∧ ¬ dN l r 0=0))) (fun (x:Bool×Int×Nat×(OA)×Nat×(OA)×Nat×(List Nat)×(List FM)×(List Nat)×(OA)×Nat×(List FM)×(List Nat)×(OA)×Nat)=>bif x.1 then [(cw x.2.2.1 150 (b_.cells (b_.mk (ki l kA kC cA cC bA bC) (jE r sgA sgC) (aR.mk x.2.2.2.1 ((cj l l.aa.length).length) x.2.2.2.2.1) (aR.mk x.2.2.2.2.2.1 ((cL l r.ab r.ab.length).length) x.2.2.2.2.2.2.1) (aR.mk x.2.2.2.2.2.2.2.2.2.2.1 x.2.2.2.2.2.2.2.2.1.length x.2.2.2.2.2.2.2.2.2.2.2.1) (aR.mk x.2.2.2.2.2.2.2.2.2.2.2.2.2.2.1 x.2.2.2.2.2.2.2.2.2.2.2.2.1.length x.2.2.2.2.2.2.2.2.2.2.2.2.2.2.2)))),(own x.2.2.2.1 x.2.2.2.2.1 3 1 ((cj l l.aa.length).map iC)),(own x.2.2.2.2.2.1 x.2.2.2.2.2.2.1 153 1 (List.zipWith gE (cL l r.ab r.ab.length) x.2.2.2.2.2.2.2.1)),(cd (bw pM (cL l r.ab r.ab.length) x.2.2.2.2.2.2.2.1)),(own x.2.2.2.2.2.2.2.2.2.2.1 x.2.2.2.2.2.2.2.2.2.2.2.1 156 1 (List.zipWith gE x.2.2.2.2.2.2.2.2.1 x.2.2.2.2.2.2.2.2.2.1)),(cd (bw mY x.2.2.2.2.2.2.2.2.1 x.2.2.2.2.2.2.2.2.2.1)),(own x.2.2.2.2.2.2.2.2.2.2.2.2.2.2.1 x.2.2.2.2.2.2.2.2.2.2.2.2.2.2.2 156 1 (List.zipWith gE x.2.2.2.2.2.2.2.2.2.2.2.2.1 x.2.2.2.2.2.2.2.2.2.2.2.2.2.1)),(cd (bw mY x.2.2.2.2.2.2.2.2.2.2.2.2.1 x.2.2.2.2.2.2.2.2.2.2.2.2.2.1))] else []):=by
 have SM:=hin.te
 have R8:=hin.s_
 have R6:=hin.oY
 have R7:=hin.s7
 have R9:=hin.side
 refine gp kr Tryz.func42 U U fun w0 Q hQ hN=>?_
 try dsimp only
 refine WS fun _ NZ=>eK U fun b2=>eK U fun b3=>bI 2 U<|RK NZ<|ao fun _ Ne=>WS fun _ Nh=>e7 1 [] (mc 1 U mn) U<|rS (CL (x3 l kA kC az cA cC bA bC hin) (bq [2,3,4,5]) U)<|bI 1 U<|RK Nh<|WS fun _ Nv=>rP 2 [] mn ?_
 refine RK Nv<|cH U (bu fun B=>?_) (br fun B=>?_)
 ·refine WS fun _ OR=>rP 3 [] mn ?_
  refine RK OR<|ar ?_
  refine LX hQ (false,(dI l),0,none,0,none,0,[],[],[],none,0,[],[],none,0) [] [] mn U (by first|rfl|(show List.all _ _=true; simp only [cond_true,fM,List.all_nil,pD,qG,Bool.and_true]; rfl)) U U ?_
  refine ⟨yo,fun _=>?_⟩; first|exact D7 (gD (r:=r) (me:=0) B) B|exact nY (dk (me:=0) A (fun q:eh l r=>by have p:=q.time; have s:=q.len; omega))|exact nY (dk (me:=0) A (ko hx (by unfold hO iF; omega)))|exact nY (g7 (me:=0) A H (by first|rfl|exact h156) (show ic (cb l r)=[] from ir (Int.natCast_eq_zero.1 C)))
 refine WK Ne<|ao fun _ Ok=>WS fun _ w=>?_
 have A:dI l=0:=B
 obtain ⟨K8,e⟩:=dY A
 have Or:=e.head
 unfold eV at Or
 refine rP 2 [] (mc 0 U mn) ?_
 refine ew (xs:=[.tmp 24]) (cs:=[(vI r.Start)]) U dD kl U U U U (by simp [Value.cells]) U U fun La=>?_
 refine rS (CL (dH.eq (il 0 86400000 ([r.Start]) (some ⟨La,0,none⟩) 1 sd) cz) (aJ (bo 0 U U (by simp [bO]) U)<|aK) U) ?_
 refine rP 2 [] mn ?_
 refine cg (t:=28) U (bu fun Lx=>?_) (br fun Lx=>?_)
 ·refine bI 14 U<|RK w<|aS U<|WS fun _ A6=>rP 2 [] mn ?_
  refine RK A6<|ar ?_
  refine LX hQ (false,51,0,none,0,none,0,[],[],[],none,0,[],[],none,0) [] [] mn U (by first|rfl|(show List.all _ _=true; simp only [cond_true,fM,List.all_nil,pD,qG,Bool.and_true]; rfl)) U U ?_
  refine ⟨yo,fun _=>?_⟩; first|exact D7 (gD (r:=r) (me:=0) B) B|exact nY (dk (me:=0) A (fun q:eh l r=>by have p:=q.time; have s:=q.len; omega))|exact nY (dk (me:=0) A (ko hx (by unfold hO iF; omega)))|exact nY (g7 (me:=0) A H (by first|rfl|exact h156) (show ic (cb l r)=[] from ir (Int.natCast_eq_zero.1 C)))
 refine rP 4 [] (mc 1 U mn) ?_
 refine ew (xs:=[.tmp 32]) (cs:=[(vI r.gd)]) U dD kl U U U U (by simp [Value.cells]) U U fun Li=>?_
 refine rS (CL (dH.eq (il r.Start 86400000 ([r.gd]) (some ⟨Li,0,none⟩) 1 sd) cz) (aJ (bo 0 U U (by simp [bO]) U)<|aK) U) ?_
 refine rP 3 [] mn ?_
 refine cg (t:=37) U (bu fun L2=>?_) (br fun L2=>?_)
 ·refine bI 5 U<|RK w<|aS U<|WS fun _ A7=>rP 2 [] mn ?_
  refine RK A7<|ar ?_
  refine LX hQ (false,51,0,none,0,none,0,[],[],[],none,0,[],[],none,0) [] [] mn U (by first|rfl|(show List.all _ _=true; simp only [cond_true,fM,List.all_nil,pD,qG,Bool.and_true]; rfl)) U U ?_
  refine ⟨yo,fun _=>?_⟩; first|exact D7 (gD (r:=r) (me:=0) B) B|exact nY (dk (me:=0) A (fun q:eh l r=>by have p:=q.time; have s:=q.len; omega))|exact nY (dk (me:=0) A (ko hx (by unfold hO iF; omega)))|exact nY (g7 (me:=0) A H (by first|rfl|exact h156) (show ic (cb l r)=[] from ir (Int.natCast_eq_zero.1 C)))
 refine rP 5 [] (mc 2 U mn) ?_
 refine RK w<|cH U (aV fun L3=>?_) (aW fun L3=>?_)
 ·refine WS fun _ A8=>rP 2 [] mn ?_
  refine RK A8<|ar ?_
  refine LX hQ (false,51,0,none,0,none,0,[],[],[],none,0,[],[],none,0) [] [] mn U (by first|rfl|(show List.all _ _=true; simp only [cond_true,fM,List.all_nil,pD,qG,Bool.and_true]; rfl)) U U ?_
  refine ⟨yo,fun _=>?_⟩; first|exact D7 (gD (r:=r) (me:=0) B) B|exact nY (dk (me:=0) A (fun q:eh l r=>by have p:=q.time; have s:=q.len; omega))|exact nY (dk (me:=0) A (ko hx (by unfold hO iF; omega)))|exact nY (g7 (me:=0) A H (by first|rfl|exact h156) (show ic (cb l r)=[] from ir (Int.natCast_eq_zero.1 C)))
 refine WK Ok<|WS fun _ A9=>rS (SX (bf (xs:=[(0,.const (vI (-1)))]) (cs:=(aG.cells (aG.mk (-1) 0))) U U (bg Kg U)) U U)<|AL U Gw fun Y=>fK U vb U<|RK A9<|ao fun _ BF=>dV cx [5,6,7,8] [] [] [0,1,2,3,4,5,6,7,8,9] [] U U U U U<|eS U (LW 4 U cq U U)<|eS U (LW 3 U cq U U)<|eS U (FA 3 U fT U)<|eS U (L1 (vS bA l.aa.length bC) 4 U cq U U)<|eS U (LN U OO)<|eJ U<|cv U fun T18 IR=>?_
 refine vW (n:=l.aa.length) (es:=(List.map oC (List.replicate l.aa.length (none:Option Nat)))) U U U Nn I I (by simp only [maxLen]; omega) (by rw [List.map_replicate]; rfl) U fun E=>?_
 try dsimp only
 refine aH (IR _ _ (aU [1,2,3,4,5,6,7,8,9,10]) ?_)
 refine cv U fun T20 Id=>rS (SX (bf (xs:=[(0,.tmp 44),(1,.tmp 45),(3,.tmp 49)]) (cs:=(b_.cells (b_.mk (ki l kA kC cA cC bA bC) (jE r sgA sgC) (aR.mk none 0 0) (aR.mk (some ⟨E,0,none⟩) l.aa.length l.aa.length) (aR.mk none 0 0) (aR.mk none 0 0)))) U U (bg M1 U)) U U)<|aH (Id _ _ (aU [1,2,3,4,5,6,7,8,9,10]) ?_)
 refine cv U fun T21 Ie=>eK U fun M=>aH (Ie _ _ (aU [2,3,4,5,6,7,8,9,10,11]) ?_)
 refine cv U fun T23 If=>rS (AG U)<|aH (If _ _ (aU [2,3,4,5,6,7,8,9,10,11]) ?_)
 refine fY U<|KK BF<|ao fun _ B3=>WS fun _ B9=>rP 4 [] (mc 6 U mn) ?_
 refine RK B9<|aF ?_
 rw [vf]
 refine eL 3 1<|ru ?_
 have G:(0≤l.aa.length)∧(([]:List Nat).length=0):=by exact ⟨Nat.zero_le _,rfl⟩
 refine bZ (ι:={z:Nat×(OA)×Nat×(List Nat) // (z.1≤l.aa.length)∧(z.2.2.2.length=z.1)}) [2,3,4,6,7,9,10,54] [4,7,8,9,10,11,12,13] U U (fun z=>[(55,(vI (z.1.1:Int)))]) (fun z=>[(cd (bw pM (List.replicate z.1.1 ([]:TM)) z.1.2.2.2)),(own z.1.2.1 z.1.2.2.1 3 1 ((cj l z.1.1).map iC)),(cw M 150 (b_.cells (b_.mk (ki l kA kC cA cC bA bC) (jE r sgA sgC) (aR.mk z.1.2.1 ((cj l z.1.1).length) z.1.2.2.1) (aR.mk (some ⟨E,0,none⟩) l.aa.length l.aa.length) (aR.mk none 0 0) (aR.mk none 0 0)))),(own (some ⟨E,0,none⟩) l.aa.length 153 1 (List.map oC (dB z.1.2.2.2 l.aa.length)))]) (fun _=>rfl) (fun _=>rfl) (fun z=>l.aa.length-z.1.1) ⟨(0,none,0,([]:List Nat)),G⟩ (bE U) (aU [4,7,8,9,10,11,12,13,0,1,2,3]) ?_
 clear G
 rintro ⟨⟨b,a,c,fb⟩,⟨y,Z⟩⟩ J26 A5
 try dsimp only at y Z
 try dsimp only
 have Os:(dB fb l.aa.length).length=l.aa.length:=nq I
 refine WS fun _ CM=>rP 1 [] mn ?_
 refine RK CM<|ao fun _ Ci=>cH U (aV fun L0=>?_) (aW fun L0=>?_)
 ·refine WK Ci<|ao fun _ Ck=>aF<|WS fun _ Cp=>rP 2 [] mn ?_
  refine RK Cp<|ao fun _ Cx=>dV cx [12,13,16] [4] [0] [0,1,2,3,4,5,6,7,8,11] [0,1,2,3,4,5,6,7,8,9,10,11] U U U U U<|eS U (MV U)<|eS U (MV U)<|eS U (SX (cQ U U) U U)<|eS U (FA 10 U fT U)<|fS U (L1 (vS a ((cj l b).length) c) 10 U cq U U)<|eS U (LW 2 U cq U U)<|eS U (MV U) ?_
  refine eS U (CL (Hj l kA kC az cA cC bA bC (b:Int) hin sd (by exact e.ui) sd) (bq [3,4,5,6]) U) ?_
  have SO:=BY K8 e.ui b
  have ST:=e.NW b I
  simp only [Int.toNat_natCast]
  refine eS U (BI U (qs ⟨I,I⟩))<|eS U (FA 1 U fT U)<|eS U (L1 (vI l.eI) 2 U cq U U) ?_
  refine eS U (CL (Iw (1000*(ly l (b:Int).toNat)) l.eI sd sd) (aK) U) ?_
  refine eS U (SX (cQ U U) U U)<|eS U (FA 10 U fT U)<|eJ U<|mw U fun T33 In=>ew (xs:=[.tmp 69]) (cs:=[(vI (oZ (1000*(ly l (b:Int).toNat)) l.eI))]) U dD kl U U U U (by simp [Value.cells]) U U fun R1=>aH (In _ _ (aU [1,2,3,4,5,6,7,8,9,12]) (aU [1,2,3,4,5,6,7,8,9,10,11,12]) ?_)
  refine cv U fun T35 I8=>?_
  refine fF (es2:=(List.map iC (cj l (b+1)))) (m':=(cj l (b+1)).length) 10 U U U tx U U (by simp [cT]) (bo (es:=List.map iC [(oZ (1000*(ly l (b:Int).toNat)) l.eI)]) 0 U U (by simp [bO]) U) (lW _) (by have:=cT (l:=l) (n:=b); first|omega|(simp; omega)) (by simp only [maxLen,cT]; omega) (by rw [qI]; simp [ej]) (by simp [cT]) U fun Ak A0=>?_
  try dsimp only
  refine aH (I8 _ _ (aU [1,2,3,4,5,6,7,8,9,12]) ?_)
  refine cv U fun T38 Ja=>TY (b_.cells (b_.mk (ki l kA kC cA cC bA bC) (jE r sgA sgC) (aR.mk Ak ((cj l (b+1)).length) A0) (aR.mk (some ⟨E,0,none⟩) l.aa.length l.aa.length) (aR.mk none 0 0) (aR.mk none 0 0))) U Mj U U<|aH (Ja _ _ (aU [1,2,3,4,5,6,7,8,9,12]) ?_)
  refine fY U<|KK Cx<|av<|bI 1 U<|rS (SX (cQ U U) U U)<|rP 3 [] (mc 11 U mn) ?_
  refine mJ (kV:=iV) U U fun K=>?_
  try dsimp only
  obtain ⟨PI,LE⟩:=aM (dB fb l.aa.length) b I
  have hx41m:(List.map oC (dB fb l.aa.length))[b]? =some (oC PI):=by rw [fO,LE]; rfl
  refine rS (IA b U (aQ (n:=l.aa.length) 13 U sq) xP dc I I) ?_
  have J2:((dB fb l.aa.length).set b (some K))=(dB (fb++[K]) l.aa.length):=by exact rI I I
  refine jg (k:=b) (o:=0) (vs:=[(Value.map (some K))]) (es':=(List.map oC (dB (fb++[K]) l.aa.length))) (C':=[_,_,_,_,_,_,_,_,_,_,_,_,_,(own (some ⟨E,0,none⟩) l.aa.length 153 1 (List.map oC (dB (fb++[K]) l.aa.length)))]) 13 U U U Ei U U U U hx41m U dc (by exact (List.map_set (f:=oC) (l:=(dB fb l.aa.length)) (i:=b) (a:=(some K))).symm.trans (congrArg _ J2)) U<|aH<|aN<|KK Ck<|av<|rP 2 [] mn ?_
  refine aH<|yr (X':=bw pM (List.replicate (b+1) ([]:TM)) (fb++[K])) 10 0 U U (Er Z) ?_
  try dsimp only
  have J3:(vI (((b+1):Nat):Int))=(vI ((b:Int)+1)):=by exact cI I
  refine bp (A5 ⟨((b+1),Ak,A0,(fb++[K])),⟨I,by simp; omega⟩⟩ _ _ _ U os (cY 8<|bk U J3<|dG.nil _) (aU [2,3,4,5,6,7,8,9,0,10,11,12]))
 refine bQ<|ai<|ai<|aI<|KK B3<|ao fun _ C0=>WS fun _ C1=>rP 4 [] (mc 1 U mn) ?_
 refine RK C1<|aF ?_
 rw [show (List.replicate b ([]:TM))=cL l r.ab 0 from by rw [xI,show b=l.aa.length by omega]]
 rw [show cj l b=cj l l.aa.length from by rw [show b=l.aa.length by omega]]
 have G:(0≤r.ab.length)∧(oV l r.ab 0):=by exact ⟨Nat.zero_le _,uY⟩
 refine bZ (ι:={z:Nat // (z≤r.ab.length)∧(oV l r.ab z)}) [2,3,4,6,7,9,10,83,84] [1,2,3,4,5,6,7,9,10,11] U U (fun z=>[(85,(vI (z.1:Int)))]) (fun z=>[(cw Y 78 (aG.cells (kT r.ab z.1))),(cd (bw pM (cL l r.ab z.1) fb))]) (fun _=>rfl) (fun _=>rfl) (fun z=>r.ab.length-z.1) ⟨0,G⟩ (bE U) (aU [1,2,3,4,5,6,7,9,10,11,0,8]) ?_
 clear G
 rintro ⟨i,⟨LT,D⟩⟩ J46 V
 try dsimp only
 have O2:(cL l r.ab i).length=l.aa.length:=gM
 have Os:(dB fb l.aa.length).length=l.aa.length:=nq I
 refine WS fun _ C2=>rP 1 [] mn ?_
 refine RK C2<|ao fun _ C3=>bV U (aW fun M2=>?_) (aV fun M2=>?_)
 ·refine bQ<|ai<|ai<|aI<|KK C0<|ao fun _ GE=>ao fun _ GT=>?_
  have H:eh l r:=xu I I D I
  refine av<|rP 3 [] mn ?_
  refine RK GT<|aF<|qJ 1<|kW fun R81 Pl=>WS fun _ Go=>rS (SX (gn (r:= .bool false) U U U qq) U U)<|RK Go<|ao fun _ Pi=>cp U<|bQ<|ai<|ai<|aI<|KK GE<|ao fun _ Hi=>?_
  rw [show cL l r.ab i=cL l r.ab r.ab.length from by rw [show i=r.ab.length by omega]]
  have AO:(cL l r.ab r.ab.length).length=l.aa.length:=gM
  rw [show (List.map oC (dB fb l.aa.length))=(List.zipWith gE (cL l r.ab r.ab.length) fb) from P8 I AO]
  rw [show (cw M 150 (b_.cells (b_.mk (ki l kA kC cA cC bA bC) (jE r sgA sgC) (aR.mk a ((cj l l.aa.length).length) c) (aR.mk (some ⟨E,0,none⟩) l.aa.length l.aa.length) (aR.mk none 0 0) (aR.mk none 0 0))))=(cw M 150 (b_.cells (b_.mk (ki l kA kC cA cC bA bC) (jE r sgA sgC) (aR.mk a ((cj l l.aa.length).length) c) (aR.mk (some ⟨E,0,none⟩) ((cL l r.ab r.ab.length).length) l.aa.length) (aR.mk none 0 0) (aR.mk none 0 0)))) from by rw [AO]]
  have LA:=lI K8 e H
  have Qn:(cj l l.aa.length).length=l.aa.length:=cT
  refine av<|rP 1 [] mn ?_
  refine ou 8 U U U U (Ao (ki l kA kC cA cC bA bC) (jE r sgA sgC) (cj l l.aa.length) (cL l r.ab r.ab.length) a c fb (some ⟨E,0,none⟩) l.aa.length M (by exact LA) (by exact cT.symm) (by rw [AO]; omega)) U (ep 7 U U (jx sm) (ep 9 U U (jx (by rw [List.length_zipWith]; omega)) (ep 11 U U qS qR))) U (fun PP Op=>?_)
  obtain ⟨J,AA,S,T,AB,R,O,P⟩:=PP
  refine EZ (X:=[(cw M 150 (b_.cells (b_.mk (ki l kA kC cA cC bA bC) (jE r sgA sgC) (aR.mk a ((cj l l.aa.length).length) c) (aR.mk (some ⟨E,0,none⟩) ((cL l r.ab r.ab.length).length) l.aa.length) (aR.mk S J.length T) (aR.mk O AB.length P)))),(own S T 156 1 (List.zipWith gE J AA)),(cd (bw mY J AA)),(own O P 156 1 (List.zipWith gE AB R)),(cd (bw mY AB R))]) 8 U U ?_
  try dsimp only
  obtain ⟨AC,K0,K4,K5⟩:=Op
  dsimp only at AC K0 K4 K5
  refine RK Hi<|ao fun _ H1=>WS fun _ IO=>rP 1 [] mn ?_
  refine cX (vc (ki l kA kC cA cC bA bC) (jE r sgA sgC) (cj l l.aa.length) (cL l r.ab r.ab.length) a c fb (some ⟨E,0,none⟩) l.aa.length J AB AA S T R O P M (by exact LA) sd (by exact cT.symm) (by exact AC) sd) (aJ (aQ (n:=(cj l l.aa.length).length) 12 U sm)<|aJ (aQ (n:=(cL l r.ab r.ab.length).length) 13 U (by rw [List.length_zipWith]; omega))<|aJ (gQ 15 U lG)<|aJ (aQ (n:=J.length) 1 U (by rw [List.length_zipWith]; omega))<|aJ (gQ 2 U lG)<|aJ (aQ (n:=AB.length) 3 U (by rw [List.length_zipWith]; omega))<|aJ (gQ 4 U lG)<|g_ 0 U U<|aK) U fun Pa Qr=>?_
  obtain ⟨R0,R5⟩:=Pa
  try dsimp only
  refine rP 2 [] mn ?_
  refine RK IO<|bV U (aW fun C=>?_) (aV fun C=>?_)
  ·refine WK H1<|WS fun _ v=>rP 3 [] mn ?_
   refine RK v<|ar ?_
   refine LX hQ (true,0,M,a,c,(some ⟨E,0,none⟩),l.aa.length,fb,J,AA,S,T,AB,R,O,P) [1,13,14,16,2,3,4,5] [] mn U (by first|rfl|(show List.all _ _=true; simp only [cond_true,fM,List.all_nil,pD,qG,Bool.and_true]; rfl)) U U ?_
   exact ⟨fun _=>⟨lv A H (by first|rfl|exact h156) (fun q=>C (congrArg (fun z:List Int=>(z.length:Int)) q)),AC,K0,K4,K5,dso⟩,Pv⟩
  refine WS fun _ u=>rP 2 [] mn ?_
  refine RK u<|ar ?_
  refine LX hQ (false,8,0,none,0,none,0,[],[],[],none,0,[],[],none,0) [] [] mn U (by first|rfl|(show List.all _ _=true; simp only [cond_true,fM,List.all_nil,pD,qG,Bool.and_true]; rfl)) U U ?_
  refine ⟨yo,fun _=>?_⟩; first|exact D7 (gD (r:=r) (me:=0) B) B|exact nY (dk (me:=0) A (fun q:eh l r=>by have p:=q.time; have s:=q.len; omega))|exact nY (dk (me:=0) A (ko hx (by unfold hO iF; omega)))|exact nY (g7 (me:=0) A H (by first|rfl|exact h156) (show ic (cb l r)=[] from ir (Int.natCast_eq_zero.1 C)))
 refine WK C3<|ao fun _ W=>aF<|WS fun _ Di=>rP 1 [] mn ?_
 obtain ⟨x,hx⟩:=aM r.ab i I
 have O3:=bP aG.cells hx
 refine rS (IA i U (aA 6 U) zK dc I I)<|rS (lQ i 0 (aG.cells x) U cq (aA 6 U) O3 U dc U U)<|AL U Gw fun R2=>bI 1 U<|fK U vb U<|RK Di<|ao fun _ g=>WS fun _ L=>rP 6 [0,1] (mc 2 U (mc 0 U mn)) ?_
 refine ew (xs:=[.tmp 95]) (cs:=[(vI x.fz)]) U dD kl U U U U (by simp [Value.cells]) U U fun Lk=>?_
 refine rS (CL (dH.eq (il 0 ((l.aa.length:Int)-1) ([x.fz]) (some ⟨Lk,0,none⟩) 1 sd) cz) (aJ (bo 0 U U (by simp [bO]) U)<|aK) U) ?_
 refine rP 2 [] mn ?_
 refine cg (t:=99) U (bu fun NE=>?_) (br fun NE=>?_)
 ·refine bI 27 U<|RK L<|aS U<|WS fun _ Do=>rP 2 [] mn ?_
  refine RK Do<|ar ?_
  refine LX hQ (false,51,0,none,0,none,0,[],[],[],none,0,[],[],none,0) [] [] mn U (by first|rfl|(show List.all _ _=true; simp only [cond_true,fM,List.all_nil,pD,qG,Bool.and_true]; rfl)) U U ?_
  refine ⟨yo,fun _=>?_⟩; first|exact D7 (gD (r:=r) (me:=0) B) B|exact nY (dk (me:=0) A (fun q:eh l r=>by have p:=q.time; have s:=q.len; omega))|exact nY (dk (me:=0) A (ko hx (by unfold hO iF; omega)))|exact nY (g7 (me:=0) A H (by first|rfl|exact h156) (show ic (cb l r)=[] from ir (Int.natCast_eq_zero.1 C)))
 refine rP 2 [] (mc 1 U mn) ?_
 refine ew (xs:=[.tmp 101]) (cs:=[(vI x.Read)]) U dD kl U U U U (by simp [Value.cells]) U U fun Lo=>?_
 refine rS (CL (dH.eq (il 0 86400000 ([x.Read]) (some ⟨Lo,0,none⟩) 1 sd) cz) (aJ (bo 0 U U (by simp [bO]) U)<|aK) U) ?_
 refine rP 3 [] mn ?_
 refine cg (t:=106) U (bu fun A1=>?_) (br fun A1=>?_)
 ·refine bI 20 U<|RK L<|aS U<|WS fun _ EP=>rP 2 [] mn ?_
  refine RK EP<|ar ?_
  refine LX hQ (false,51,0,none,0,none,0,[],[],[],none,0,[],[],none,0) [] [] mn U (by first|rfl|(show List.all _ _=true; simp only [cond_true,fM,List.all_nil,pD,qG,Bool.and_true]; rfl)) U U ?_
  refine ⟨yo,fun _=>?_⟩; first|exact D7 (gD (r:=r) (me:=0) B) B|exact nY (dk (me:=0) A (fun q:eh l r=>by have p:=q.time; have s:=q.len; omega))|exact nY (dk (me:=0) A (ko hx (by unfold hO iF; omega)))|exact nY (g7 (me:=0) A H (by first|rfl|exact h156) (show ic (cb l r)=[] from ir (Int.natCast_eq_zero.1 C)))
 refine rP 7 [0,1] (mc 2 U (mc 13 U mn)) ?_
 refine cg (t:=113) U (aV fun A2=>?_) (aW fun A2=>?_)
 ·refine bI 13 U<|RK L<|aS U<|WS fun _ EQ=>rP 2 [] mn ?_
  refine RK EQ<|ar ?_
  refine LX hQ (false,51,0,none,0,none,0,[],[],[],none,0,[],[],none,0) [] [] mn U (by first|rfl|(show List.all _ _=true; simp only [cond_true,fM,List.all_nil,pD,qG,Bool.and_true]; rfl)) U U ?_
  refine ⟨yo,fun _=>?_⟩; first|exact D7 (gD (r:=r) (me:=0) B) B|exact nY (dk (me:=0) A (fun q:eh l r=>by have p:=q.time; have s:=q.len; omega))|exact nY (dk (me:=0) A (ko hx (by unfold hO iF; omega)))|exact nY (g7 (me:=0) A H (by first|rfl|exact h156) (show ic (cb l r)=[] from ir (Int.natCast_eq_zero.1 C)))
 refine rP 6 [0,1] (mc 2 U (mc 13 U mn)) ?_
 refine cM (t:=119) U (aW fun A3=>?_) (aV fun A3=>?_)
 ·refine bI 7 U<|RK L<|cp U<|WK g<|ao fun _ j=>WS fun _ Fn=>rP 2 [0,1] (mc 4 U (mc 2 U mn)) ?_
  refine rS (CL (zw l kA kC az cA cC bA bC x hin sd sd) (bq [5,6,7,8]) U) ?_
  refine AL U ed fun R4=>fK U c_ U<|RK Fn<|WS fun _ F9=>rP 5 [] (mc 0 U mn) ?_
  refine RK F9<|bV U (aW fun F=>?_) (aV fun F=>?_)
  ·refine WK j<|av<|rP 1 [] (mc 3 U mn) ?_
   refine iD (vs:=(aG.cells x)) (cs':=(aG.cells x)) (C':=[_,_,_,_,_,_,_,_,_,_,_,_,_,_,(cw Y 78 (aG.cells x)),_]) 14 U U U vb U U U U U U U<|aH<|aN<|KK W ?_
   have Ka:(aG.cells x)=(aG.cells (kT r.ab (i+1))):=by rw [ke hx]
   rw [Ka]
   refine av<|rP 2 [] mn ?_
   refine aH ?_
   rw [show (cL l r.ab i)=(cL l r.ab (i+1)) from (pY hx F).symm]
   have Kh:(vI (((i+1):Nat):Int))=(vI ((i:Int)+1)):=by exact cI I
   refine bp (V ⟨(i+1),⟨I,jv D hx (by unfold hO iF; omega)⟩⟩ _ _ _ U os (cY 9<|bk U Kh<|dG.nil _) (aU [4,5,6,7,8,9,10,11,12,13,14,15]))
  obtain ⟨mb,d⟩:=aM (cL l r.ab i) ((x.fz).toNat) I
  obtain ⟨ga,N⟩:=aM fb ((x.fz).toNat) I
  refine zg 15 d N U U U ?_
  try dsimp only
  refine dw cx 10 kr<|k7 1 U<|dS (SX (cQ U U) U U)<|dP 4 [0,1] (mc 14 U (mc 5 U mn)) ?_
  have Kz:(List.map oC (dB fb l.aa.length))[(x.fz).toNat]? =some (oC (some ga)):=qn (mL N)
  refine dS (IA ((x.fz).toNat) U (aQ (n:=l.aa.length) 15 U sq) xP dc I I) ?_
  refine dS (iK ((x.fz).toNat) 0 (Value.map (some ga)) U cq (aQ (n:=(dB fb l.aa.length).length) 15 U sm) Kz U dc U)<|lU 2 [] (mc 2 U mn) U<|cK<|ja (kV:=iV) (x:=(i:Int)) (C':=[(kh iV ga (cR jY (eo mb (i:Int) (cO l x)))),_,_,_,_,_,_,_,_,_,_,_,_,_,_,_,_]) 0 U U U U su (iM s9) U (gN _ _ _ _).symm U<|RK j<|av<|rP 1 [] (mc 5 U mn) ?_
  refine iD (vs:=(aG.cells x)) (cs':=(aG.cells x)) (C':=[_,_,_,_,_,_,_,_,_,_,_,_,_,_,_,_,(cw Y 78 (aG.cells x))]) 16 U U U vb U U U U U U U<|aH<|aN<|KK W ?_
  have J8:(aG.cells x)=(aG.cells (kT r.ab (i+1))):=by rw [ke hx]
  rw [J8]
  refine av<|rP 2 [] mn ?_
  refine aH ?_
  refine Ai (f:=pM) (ms:=(cL l r.ab i)) (m:=(eo mb (i:Int) (cO l x))) 1 0 (by rw [gM]; omega) N U U U ?_
  rw [rQ hx I F d]
  have J9:(vI (((i+1):Nat):Int))=(vI ((i:Int)+1)):=by exact cI I
  refine bp (V ⟨(i+1),⟨I,jv D hx (by unfold hO iF; omega)⟩⟩ _ _ _ U os (cY 9<|bk U J9<|dG.nil _) (aU [5,6,7,8,9,10,11,12,13,14,15,0]))
 refine rP 7 [0,1] (mc 2 U (mc 13 U mn)) ?_
 refine RK L<|cH U (aV fun A4=>?_) (aW fun A4=>?_)
 ·refine WS fun _ Eq=>rP 2 [] mn ?_
  refine RK Eq<|ar ?_
  refine LX hQ (false,51,0,none,0,none,0,[],[],[],none,0,[],[],none,0) [] [] mn U (by first|rfl|(show List.all _ _=true; simp only [cond_true,fM,List.all_nil,pD,qG,Bool.and_true]; rfl)) U U ?_
  refine ⟨yo,fun _=>?_⟩; first|exact D7 (gD (r:=r) (me:=0) B) B|exact nY (dk (me:=0) A (fun q:eh l r=>by have p:=q.time; have s:=q.len; omega))|exact nY (dk (me:=0) A (ko hx (by unfold hO iF; omega)))|exact nY (g7 (me:=0) A H (by first|rfl|exact h156) (show ic (cb l r)=[] from ir (Int.natCast_eq_zero.1 C)))
 refine WK g<|ao fun _ h=>WS fun _ FS=>rP 2 [0,1] (mc 4 U (mc 2 U mn)) ?_
 refine rS (CL (zw l kA kC az cA cC bA bC x hin sd sd) (bq [5,6,7,8]) U) ?_
 refine AL U ed fun R3=>fK U c_ U<|RK FS<|WS fun _ Fd=>rP 5 [] (mc 0 U mn) ?_
 refine RK Fd<|bV U (aW fun F=>?_) (aV fun F=>?_)
 ·refine WK h<|av<|rP 1 [] (mc 3 U mn) ?_
  refine iD (vs:=(aG.cells x)) (cs':=(aG.cells x)) (C':=[_,_,_,_,_,_,_,_,_,_,_,_,_,_,(cw Y 78 (aG.cells x)),_]) 14 U U U vb U U U U U U U<|aH<|aN<|KK W ?_
  have J6:(aG.cells x)=(aG.cells (kT r.ab (i+1))):=by rw [ke hx]
  rw [J6]
  refine av<|rP 2 [] mn ?_
  refine aH ?_
  rw [show (cL l r.ab i)=(cL l r.ab (i+1)) from (pY hx F).symm]
  have J7:(vI (((i+1):Nat):Int))=(vI ((i:Int)+1)):=by exact cI I
  refine bp (V ⟨(i+1),⟨I,jv D hx (by unfold hO iF; omega)⟩⟩ _ _ _ U os (cY 9<|bk U J7<|dG.nil _) (aU [4,5,6,7,8,9,10,11,12,13,14,15]))
 obtain ⟨mb,d⟩:=aM (cL l r.ab i) ((x.fz).toNat) I
 obtain ⟨ga,N⟩:=aM fb ((x.fz).toNat) I
 refine zg 15 d N U U U ?_
 try dsimp only
 refine dw cx 10 kr<|k7 1 U<|dS (SX (cQ U U) U U)<|dP 4 [0,1] (mc 14 U (mc 5 U mn)) ?_
 have Kj:(List.map oC (dB fb l.aa.length))[(x.fz).toNat]? =some (oC (some ga)):=qn (mL N)
 refine dS (IA ((x.fz).toNat) U (aQ (n:=l.aa.length) 15 U sq) xP dc I I) ?_
 refine dS (iK ((x.fz).toNat) 0 (Value.map (some ga)) U cq (aQ (n:=(dB fb l.aa.length).length) 15 U sm) Kj U dc U)<|lU 2 [] (mc 2 U mn) U<|cK<|ja (kV:=iV) (x:=(i:Int)) (C':=[(kh iV ga (cR jY (eo mb (i:Int) (cO l x)))),_,_,_,_,_,_,_,_,_,_,_,_,_,_,_,_]) 0 U U U U su (iM s9) U (gN _ _ _ _).symm U<|RK h<|av<|rP 1 [] (mc 5 U mn) ?_
 refine iD (vs:=(aG.cells x)) (cs':=(aG.cells x)) (C':=[_,_,_,_,_,_,_,_,_,_,_,_,_,_,_,_,(cw Y 78 (aG.cells x))]) 16 U U U vb U U U U U U U<|aH<|aN<|KK W ?_
 have J4:(aG.cells x)=(aG.cells (kT r.ab (i+1))):=by rw [ke hx]
 rw [J4]
 refine av<|rP 2 [] mn ?_
 refine aH ?_
 refine Ai (f:=pM) (ms:=(cL l r.ab i)) (m:=(eo mb (i:Int) (cO l x))) 1 0 (by rw [gM]; omega) N U U U ?_
 rw [rQ hx I F d]
 have J5:(vI (((i+1):Nat):Int))=(vI ((i:Int)+1)):=by exact cI I
 refine bp (V ⟨(i+1),⟨I,jv D hx (by unfold hO iF; omega)⟩⟩ _ _ _ U os (cY 9<|bk U J5<|dG.nil _) (aU [5,6,7,8,9,10,11,12,13,14,15,0]))
end
section
open Go.RowKit
theorem Me (l:bj) (kA:OA) (kC:Nat) (az:List RA) (cA:OA) (cC:Nat) (bA:OA) (bC:Nat) (r:cD) (sgA:OA) (sgC:Nat) (hin:eH l az) (hsl:r.ab.length≤1000000):
 rU Tryz.prog 23 [(vA (bT.cells (ki l kA kC cA cC bA bC))),(vA (cU.cells (jE r sgA sgC)))] [(rd kA l.aL.length 9 (l.aL.map au.cells)),(rd cA l.ak.length 2 (List.zipWith ax.cells l.ak az)),(d_ (bw ax.gL l.ak az)),(rd bA l.aa.length 4 (l.aa.map bM.cells)),(rd sgA r.ab.length 2 (r.ab.map aG.cells))] (fun (x:(OA)×Nat)=>(vT [(vS x.1 ((hP l r).length) x.2),(vI (dN l r 0))])) (fun (x:(OA)×Nat)=>True) (fun (x:(OA)×Nat)=>[(own x.1 x.2 3 1 ((hP l r).map iC))]):=by
 have A4:=hin.te
 have AC:=hin.s_
 have w:=hin.oY
 have y:=hin.s7
 have A3:=hin.side
 refine gp kr Tryz.func23 U U fun w0 Q hQ hN=>?_
 try dsimp only
 refine WS fun _ g=>eK U fun b2=>eK U fun b3=>bI 2 U<|RK g<|WS fun _ P=>rP 2 [0,1] (mc 1 U (mc 0 U mn)) ?_
 refine cX (MA l kA kC az cA cC bA bC r sgA sgC hin hsl) (bq [2,3,4,5,6]) U fun y5 AA=>?_
 obtain ⟨V,v,e,d,F,Y,Z,a,B,AB,G,H,A,E,W,X⟩:=y5
 cases V
 ·obtain ⟨S,he⟩:=AA.2 rfl
  try dsimp only at S he
  subst S
  try dsimp only [cond_true,cond_false,List.cons_append,List.nil_append]
  refine bI 5 U<|RK P<|ao fun _ q=>WS fun _ K=>rP 2 [] mn ?_
  refine RK K<|bV U (br fun J=>?_) (bu fun J=>?_)
  ·exact absurd J he
  refine WS fun _ L=>lj 3 1 ?_
  rw [show (own none 0 3 1 ([]:List (List Value)))=own none 0 3 1 ((hP l r).map iC) from by rw [nv he]; rfl]
  refine bI 1 U<|rP 2 [] mn ?_
  refine RK L<|ar ?_
  refine LX hQ (none,0) [0] [] mn U U U ?_ ?_
  ·first|rfl|(rw [he]; rfl)|(rw [nv he]; rfl)
  ·trivial
 obtain ⟨he,C,R,i,h,k⟩:=AA.1 rfl
 try dsimp only [cond_true,cond_false,List.cons_append,List.nil_append]
 dsimp only at C R i h k
 obtain ⟨f,D,Ak,A0⟩:=iN he
 obtain ⟨m,T⟩:=dY f
 have j:=T.head
 unfold eV at j
 have o:=lI m T D
 have A2:=D.time
 have A1:=D.len
 have s:(cj l l.aa.length).length=l.aa.length:=cT
 have t:(cL l r.ab r.ab.length).length=l.aa.length:=gM
 have AO:B.length=l.aa.length+1:=by have:=C.len; rw [show (cb l r).n=l.aa.length from cT] at this; exact this
 have z:A.length=l.aa.length+1:=by have:=R.len; rw [show (cb l r).n=l.aa.length from cT] at this; exact this
 refine bI 5 U<|RK P<|ao fun _ M=>WS fun _ N=>bI 1 U<|rS (SX (gn (r:= .bool false) U U U xV) U U)<|RK N<|cp U<|WK M<|WS fun _ O=>rP 1 [] mn ?_
 refine cX (vc (ki l kA kC cA cC bA bC) (jE r sgA sgC) (cj l l.aa.length) (cL l r.ab r.ab.length) d F a Y Z B A AB G H E W X e (by exact o) sd (by exact cT.symm) (by exact C) sd) (aJ (aQ (n:=(cj l l.aa.length).length) 1 U sm)<|aJ (aQ (n:=(cL l r.ab r.ab.length).length) 2 U (by rw [List.length_zipWith]; omega))<|aJ (gQ 3 U lG)<|aJ (aQ (n:=B.length) 4 U (by rw [List.length_zipWith]; omega))<|aJ (gQ 5 U lG)<|aJ (aQ (n:=A.length) 6 U (by rw [List.length_zipWith]; omega))<|aJ (gQ 7 U lG)<|g_ 0 U U<|aK) U fun p u=>?_
 obtain ⟨b,c⟩:=p
 try dsimp only
 rw [show (ic (cS (ki l kA kC cA cC bA bC) (jE r sgA sgC) (cj l l.aa.length) (cL l r.ab r.ab.length)))=hP l r from (ky he).symm]
 refine rP 2 [] mn ?_
 refine RK O<|ar ?_
 refine LX hQ (b,c) [0] [] mn U U U ?_ ?_
 ·first|rfl|(rw [he]; rfl)|(rw [nv he]; rfl)
 ·trivial
end
section
open Go.RowKit
theorem Gg (ln:bT) (ri:cU) (e:List Int) (tms:List TM) (e_A:OA) (e_C:Nat) (tb:List Nat) (t_A:OA) (t_C:Nat) (fs:List FM) (bs:List FM) (fb:List Nat) (f_A:OA) (f_C:Nat) (bb:List Nat) (b_A:OA) (b_C gw:Nat) (b g1 g2:Nat) (mf:FM) (mb:FM) (hb:b<e.length) (hw:GH (cS ln ri e tms)) (htb:tb.length=tms.length) (hfw:vy (cS ln ri e tms) fs) (hfb:fb.length=fs.length) (hbw:sU (cS ln ri e tms) bs) (hbb:bb.length=bs.length) (hsg:ri.ab.n≤1000) (hm1:fs[b]? =some mf) (hm2:bs[b+1]? =some mb):
 KP Tryz.prog 70 [] [(vP g1),(vP g2)] [(rd e_A e.length 1 (e.map iC)),(rd t_A tms.length 1 (List.zipWith gE tms tb)),(d_ (bw pM tms tb)),(rd f_A fs.length 1 (List.zipWith gE fs fb)),(d_ (bw mY fs fb)),(rd b_A bs.length 1 (List.zipWith gE bs bb)),(d_ (bw mY bs bb)),(cw gw 150 (b_.cells (b_.mk ln ri (aR.mk e_A e.length e_C) (aR.mk t_A tms.length t_C) (aR.mk f_A fs.length f_C) (aR.mk b_A bs.length b_C)))),(cw g1 108 [(vP gw)]),(cw g2 3 [(vI (b:Int))])] ([]:List (Int×ag)) (fun ys x ys'=> ∃ q,q∈qu (cS ln ri e tms) b mf mb∧x=Ng q∧ys'=ys++[q]) (fun ys=> ∀ q∈qu (cS ln ri e tms) b mf mb,q∈ys):=by
 have K0:e.length≤6:=hw.n
 have K4:tms.length=e.length:=hw.times
 have J8:fs.length=e.length+1:=hfw.len
 have J7:bs.length=e.length+1:=hbw.len
 refine E1 kr Tryz.func70 U U fun l J Z A0 w0 Q hY Fd FS hQ hN=>?_
 try dsimp only
 refine WS fun _ Fn=>wu U U fun b2=>RK Fn<|WS fun _ F9=>rP 2 [0,1] (mr 10 U (mr 11 U mn)) ?_
 refine cX (uV gw b) (aK) U fun y4 K5=>?_
 obtain ⟨C3,Di⟩:=y4
 try dsimp only
 refine RK F9<|aF<|jr 4 U (by exact fun _ h=>h)<|jr 6 U (by exact fun _ h=>h)<|jr 8 U (by exact fun _ h=>h)<|jr 14 U (by exact fun _ h=>h) ?_
 refine tG (L0:=[(0,(Value.func (.yield l) #[] #[])),(1,(vP g1)),(2,(vP g2)),(3,(vP b2))]) (F:=[(rd e_A e.length 1 (e.map iC)).ro,(rd t_A tms.length 1 (List.zipWith gE tms tb)).ro,(d_ (bw pM tms tb)).ro,(cw gw 150 (b_.cells (b_.mk ln ri (aR.mk e_A e.length e_C) (aR.mk t_A tms.length t_C) (aR.mk f_A fs.length f_C) (aR.mk b_A bs.length b_C)))).ro,(cw C3 108 [(vP gw)]),(cw Di 3 [(vI (b:Int))])]) (fun k (y:(List (Int×ag))×aw)=>(lT (cS ln ri e tms) b mf mb k y.1)∧(J y.1 y.2)∧(Fo A0 w0 y.2)) (fun k y=>[(cw b2 155 [(Value.func (.yield l) #[] #[])]),y.2,(rd e_A e.length 1 (e.map iC)).ro,(rd t_A tms.length 1 (List.zipWith gE tms tb)).ro,(d_ (bw pM tms tb)).ro,(rd f_A fs.length 1 (List.zipWith gE fs fb)).ro,(d_ (bw mY fs fb)).ro,(rd b_A bs.length 1 (List.zipWith gE bs bb)).ro,(d_ (bw mY bs bb)).ro,(cw gw 150 (b_.cells (b_.mk ln ri (aR.mk e_A e.length e_C) (aR.mk t_A tms.length t_C) (aR.mk f_A fs.length f_C) (aR.mk b_A bs.length b_C)))).ro,(cw g1 108 [(vP gw)]).ro,(cw g2 3 [(vI (b:Int))]).ro]) (fun c (z:aw)=>(c= .ret∧(Z z)∧(Fo A0 w0 z))) (fun _ z=>[(cw b2 155 [(Value.func (.yield l) #[] #[])]),z,(rd e_A e.length 1 (e.map iC)).ro,(rd t_A tms.length 1 (List.zipWith gE tms tb)).ro,(d_ (bw pM tms tb)).ro,(rd f_A fs.length 1 (List.zipWith gE fs fb)).ro,(d_ (bw mY fs fb)).ro,(rd b_A bs.length 1 (List.zipWith gE bs bb)).ro,(d_ (bw mY bs bb)).ro,(cw gw 150 (b_.cells (b_.mk ln ri (aR.mk e_A e.length e_C) (aR.mk t_A tms.length t_C) (aR.mk f_A fs.length f_C) (aR.mk b_A bs.length b_C)))).ro,(cw g1 108 [(vP gw)]).ro,(cw g2 3 [(vI (b:Int))]).ro]) [6,7,8,9,10,11,12,13,14,15,16,17] [3,2,1,0,4,5] (([]:List (Int×ag)),A0) rfl rfl (sN ln ri e tms e_A e_C tb t_A t_C f_A fs.length f_C b_A bs.length b_C gw b C3 Di I I) rfl rfl rfl (by exact ⟨lT.nil,Fd,FS⟩) (by simp only [List.forall_mem_cons,List.not_mem_nil,false_imp_iff,implies_true,and_true]; exact ⟨⟨_,aP (i:=0) rfl,(dJ (bX _))⟩,⟨_,aP (i:=1) rfl,(dJ (bX _))⟩,⟨_,aP (i:=2) rfl,(dJ (bX _))⟩,⟨_,aP (i:=3) rfl,(dJ (bX _))⟩,⟨_,aP (i:=4) rfl,(bX _)⟩,⟨_,aP (i:=5) rfl,(bX _)⟩⟩) (by rintro k x k2 ⟨o,_,rfl,_⟩; rfl) rfl (bE rfl) ?_ ?_ ?_ ?_
 rotate_left 1
 ·rintro LE k ⟨ys,A⟩ Cp Ak
  obtain ⟨X,Y,a⟩:=Ak
  try dsimp only at X Y a
  try dsimp only
  refine aN ?_
  refine hN _ _ _ (rq 0 U U<|jZ (vs:=[]) trivial fun w hs=>O0 8 U (by exact lT.fin X Cp) Y a hs)
 ·rintro LT id A C1
  simp at C1
 ·rintro La A C2
  obtain ⟨hc,H1,IO⟩:=C2
  try dsimp only
  refine hQ _ _ _ (rq 0 U U<|jZ (vs:=[]) trivial fun w hs=>D8 8 U H1 IO hs)
 rintro k x k2 ⟨ys,A⟩ lr ra rb S w1 K8 Qr9 IR hx AO GE CM J2 Do
 obtain ⟨o,ho,rfl,rfl⟩:=hx
 obtain ⟨X,Y,a⟩:=AO
 try dsimp only at X Y a
 try dsimp only
 refine WS fun _ A5=>rP 1 [] mn ?_
 refine RK A5<|av<|AL U ed fun J3=>fK U c_ U<|aH<|jV (fun _ _ h=>h) (aU [1,0,2,3,4,5,6,7,8,9,10,11,12,13])<|bp (GE _ _ ?_)
 refine aF<|ao fun _ A6=>dw cx 7 kr<|lU 1 [] (mr 12 U mn) U<|dS (SX (cQ U U) U U)<|dP 3 [0,1] (mr 11 U (mr 13 U mn)) ?_
 obtain ⟨ga,s⟩:=aM fb b I
 have Cx:(List.zipWith gE fs fb)[b]? =some (gE mf ga):=er hm1 s
 refine dS (IA b U (aA 7 U) ov dc I I)<|dS (iK b 0 (Value.map (some ga)) U cq (aA 7 U) Cx U dc U)<|cK<|p9 (kV:=eu) (m:=cR iV mf) 8 U U o8 U ⟨⟨(kh eu ga (cR iV mf)),(bW hm1 s (by simp [mY])),U⟩,fun h=>h⟩ (show js _ (kh eu ga (cR iV mf)).holds from df 8 U (bW hm1 s (by simp [mY]))) U fun If=>?_
 try dsimp only
 refine RK A6<|aF ?_
 have C:(∀ p∈mf,p∈mf)∧(nx (cS ln ri e tms) b mf mb o mf ys)∧(lT (cS ln ri e tms) b mf mb k ys)∧(J ys A)∧(Fo A0 w0 A):=by exact ⟨fun p hp=>hp,nx.start,X,Y,a⟩
 refine bZ (ι:={z:FM×(List (Int×ag))×aw // (∀ p∈z.1,p∈mf)∧(nx (cS ln ri e tms) b mf mb o z.1 z.2.1)∧(lT (cS ln ri e tms) b mf mb k z.2.1)∧(J z.2.1 z.2.2)∧(Fo A0 w0 z.2.2)}) [0,1,2,3,4,5,23] [1,2,3,5,6,7,8,9,10,11,12,13,14] U U (fun z=>[]) (fun z=>[(Cr eu If ga (cR iV mf) (cR iV z.1.1) none),z.1.2.2]) (fun _=>rfl) (fun _=>rfl) (fun z=>z.1.1.length) ⟨(mf,ys,A),C⟩ (dG.nil _) (aU [1,2,3,5,6,7,8,9,10,11,12,13,14,0,4]) ?_
 clear C
 rintro ⟨⟨left,ys,A⟩,⟨K,M,N,O,P⟩⟩ J15 A4
 try dsimp only at K M N O P
 try dsimp only
 refine WS fun _ j=>oF pk.inj (f:=iV) 13 U U U U (fun EQ=>?_) (fun t v hm hn=>?_)
 ·refine rP 1 [] mn ?_
  refine RK j<|ao fun _ I8=>cp U<|bQ<|ai<|ai<|aI<|aN ?_
  exact CM (ys,A) _ _ (by exact ⟨lT.next N M EQ,O,P⟩) (aU [0,2,14,3,4,5,6,7,8,9,10,11,12])
 try dsimp only
 refine bI 1 U<|RK j<|ao fun _ A7=>aS U<|WK A7<|aF<|WS fun _ A8=>rS (SX (oh 13 U U U) U U)<|bI 2 U<|AL U tg fun J4=>fK U sB U<|bI 1 U<|RK A8<|ao fun _ A9=>dw cx 8 kr<|lU 1 [] (mr 12 U mn) U<|dS (SX (cQ U U) U U)<|dP 4 [0,1] (mr 11 U (mr 13 U mn)) ?_
 obtain ⟨gb,AC⟩:=aM bb (b+1) I
 have C0:(List.zipWith gE bs bb)[(b+1)]? =some (gE mb gb):=er hm2 AC
 refine dS (IA (b+1) U (aA 9 U) ov dc I I)<|dS (iK (b+1) 0 (Value.map (some gb)) U cq (aA 9 U) C0 U dc U)<|cK<|p9 (kV:=eu) (m:=cR iV mb) 10 U U o8 U ⟨⟨(kh eu gb (cR iV mb)),(bW hm2 AC (by simp [mY])),U⟩,fun h=>h⟩ (show js _ (kh eu gb (cR iV mb)).holds from df 10 U (bW hm2 AC (by simp [mY]))) U fun In=>?_
 try dsimp only
 refine RK A9<|aF ?_
 have C:(∀ p∈mb,p∈mb)∧(nP (cS ln ri e tms) b mb o (t,v) mb ys)∧(nx (cS ln ri e tms) b mf mb o left ys)∧(lT (cS ln ri e tms) b mf mb k ys)∧(J ys A)∧(Fo A0 w0 A):=by exact ⟨fun p hp=>hp,nP.start,M,N,O,P⟩
 refine bZ (ι:={z:FM×(List (Int×ag))×aw // (∀ p∈z.1,p∈mb)∧(nP (cS ln ri e tms) b mb o (t,v) z.1 z.2.1)∧(nx (cS ln ri e tms) b mf mb o left z.2.1)∧(lT (cS ln ri e tms) b mf mb k z.2.1)∧(J z.2.1 z.2.2)∧(Fo A0 w0 z.2.2)}) [0,1,2,3,4,5,6,7,23,37] [1,2,3,4,5,6,7,8,9,10,11,12,13,14,15] U U (fun z=>[]) (fun z=>[(Cr eu In gb (cR iV mb) (cR iV z.1.1) none),z.1.2.2]) (fun _=>rfl) (fun _=>rfl) (fun z=>z.1.1.length) ⟨(mb,ys,A),C⟩ (dG.nil _) (aU [1,2,3,4,5,6,7,8,9,10,11,12,13,14,15,0,16]) ?_
 clear C
 rintro ⟨⟨l2,T,A2⟩,⟨B,D,E,G,H,AB⟩⟩ J23 V
 try dsimp only at B D E G H AB
 try dsimp only
 refine WS fun _ r=>oF pk.inj (f:=iV) 15 U U U U (fun Eq=>?_) (fun u z L A1=>?_)
 ·refine rP 1 [] mn ?_
  refine RK r<|ao fun _ Ja=>cp U<|bQ<|ai<|ai<|aI<|aN<|ry 14 U py U ?_
  refine bp (A4 ⟨((eY left t),T,A2),⟨mA K,nx.next hn hm E D Eq,G,H,AB⟩⟩ _ _ _ U (mH hm) (bE U) (aU [1,2,3,4,5,6,7,8,9,10,11,12,13,14,16]))
 try dsimp only
 refine bI 1 U<|RK r<|ao fun _ BF=>aS U<|WK BF<|aF<|WS fun _ B3=>rS (SX (oh 15 U U U) U U)<|bI 2 U<|AL U tg fun J5=>fK U sB U<|rP 1 [] mn ?_
 refine RK B3<|ao fun _ B9=>dV cx [17,18] [] [] [0,1,2,3,4,5,6,7,8,9,10,11,12,13,14,15,16,17] [] U U U U U<|eS U (MV U)<|eS U (Uo 13 U cq U)<|eS U (SX (cQ U U) U U)<|eS U (FA 10 U fT U)<|eS U (HI (vS e_A e.length e_C) 12 U cq U U)<|eS U (Uo 14 U cq U) ?_
 obtain ⟨y,hy⟩:=aM e b I
 have Id:=bP iC hy
 refine eS U (IA b U (aA 5 U) dD dc I I)<|eS U (iK b 0 (vI y) U cq (aA 5 U) Id U dc U) ?_
 have J9:=hw.least y (aP hy)
 have Go:=Hf hw _ _ (hfw.mem hm1 (K _ hm))
 have GT:=Hv hw (hbw.mem hm2 (B _ L))
 have Ka:=uL o.1
 have Kh:=hw.opt ho
 dsimp only at Go GT
 refine eS U (BI U (ox ⟨I,I⟩))<|eS U (FA 0 U fT U)<|eS U (L1 (vI o.2.Lo) 3 U cq U U)<|eS U (MX U)<|eS U (MV U)<|eS U (FA 1 U fT U)<|eS U (L1 (vI o.2.Hi) 3 U cq U U)<|eS U (MN U)<|eS U (SX (bf (xs:=[(0,.tmp 54),(1,.tmp 58)]) (cs:=(ag.cells (ag.mk (max (v+y) o.2.Lo) (min z o.2.Hi)))) U U (bg gZ U)) U U)<|eJ U<|cv U fun T30 Ci=>AL U ed fun J6=>aH (Ci _ _ (aU [1,2,3,4,5,6,7,8,9,10,11,12,13,14,15,16,17,18]) ?_)
 refine cv U fun T32 Ck=>fK U c_ U<|aH (Ck _ _ (aU [1,2,3,4,5,6,7,8,9,10,11,12,13,14,15,16,17,18]) ?_)
 refine fY U<|KK B9<|ao fun _ R=>dw cx 19 kr<|dP 6 [] (mc 0 U mn) ?_
 refine jM (t:=65) U (aW fun d=>?_) (aV fun d=>?_)
 ·refine k7 3 U<|k7 10 U<|cK<|rP 3 [] mn ?_
  refine RK R<|cp U<|ct<|aN<|ry 17 U py U ?_
  refine bp (V ⟨((eY l2 u),T,A2),⟨mA B,nP.skip A1 L D (by exact F7 hy d),E,G,H,AB⟩⟩ _ _ _ U (mH L) (bE U) (aU [2,3,4,5,6,7,8,9,10,11,12,13,14,15,16,17,18]))
 refine dP 3 [0,1,2] (mr 14 U (mc 2 U (mc 1 U mn))) ?_
 have Kz:(0≤(dF t u).right∧(dF t u).right≤1000)∧0≤(dF t u).eQ∧(dF t u).eQ≤1000:=by simp only [dF]; omega
 have Kj:(0≤(dF (dF t u) (fB o.1)).right∧(dF (dF t u) (fB o.1)).right≤1000)∧0≤(dF (dF t u) (fB o.1)).eQ∧(dF (dF t u) (fB o.1)).eQ≤1000:=by simp only [dF]; omega
 refine dS (CL (wi t u I I) (aK) U)<|k7 1 U<|dS (CL (Ih o.1) (aK) U)<|dS (CL (wi (dF t u) (fB o.1) asm I) (aK) U)<|dS (CL (MS ln ri e tms e_A e_C tb t_A t_C fs bs fb f_A f_C bb b_A b_C gw (dF (dF t u) (fB o.1)) asm hsg) (bq [6,7,8,9,10,11,12,13]) U)<|dP 2 [] mn ?_
 refine jM (t:=75) U (fun g=>?_) (fun g=>?_)
 ·refine k7 3 U<|cK<|rP 3 [] mn ?_
  refine RK R<|cp U<|ct<|aN<|ry 17 U py U ?_
  refine bp (V ⟨((eY l2 u),T,A2),⟨mA B,nP.skip A1 L D (by exact Gm g),E,G,H,AB⟩⟩ _ _ _ U (mH L) (bE U) (aU [2,3,4,5,6,7,8,9,10,11,12,13,14,15,16,17,18]))
 refine dP 3 [0,1] (mc 5 U (mc 0 U mn)) ?_
 refine cK<|yc (k:=T) (k':=(T++[(o.1,(ag.mk (max (v+y) o.2.Lo) (min z o.2.Hi)))])) 18 (by first|exact IR|exact Nat.le_refl _) hY H AB U U U (by exact ⟨(o.1,_),iH.2 ⟨o,ho,(t,v),K _ hm,(u,z),B _ L,(BD hy d g)⟩,U,U⟩) U U (fun B34 W AA=>?_) (fun B34 W AA=>?_)
 rotate_left 1
 ·refine rP 2 [] mn ?_
  refine RK R<|aS U<|ar ?_
  exact Do B34 _ _ (by exact ⟨U,W,AA⟩) (aU [3,5,18,6,7,8,9,10,11,12,13,14,15])
 refine rP 2 [] mn ?_
 refine RK R<|cp U<|ct<|aN<|ry 17 U py U ?_
 refine bp (V ⟨((eY l2 u),(T++[(o.1,(ag.mk (max (v+y) o.2.Lo) (min z o.2.Hi)))]),B34),⟨mA B,nP.SY A1 L D (BD hy d g),E.app,G.app,W,AA⟩⟩ _ _ _ U (mH L) (bE U) (aU [2,3,4,5,6,7,8,9,10,11,12,13,14,15,16,17,18]))
end
section
open Go.RowKit
theorem Ln (l:bj) (kA:OA) (kC:Nat) (az:List RA) (cA:OA) (cC:Nat) (bA:OA) (bC:Nat) (r:cD) (sgA:OA) (sgC:Nat) (f:Value) (X:aw) (me:Int) (gm:Nat) (hf:CR Tryz.prog f [] [X] (.int .i64 me)) (hin:eH l az) (hsl:r.ab.length≤1000000):
 rU Tryz.prog 42 [(vA (bT.cells (ki l kA kC cA cC bA bC))),(vA (cU.cells (jE r sgA sgC))),(vS (some ⟨gm,0,none⟩) 1 1)] [(rd kA l.aL.length 9 (l.aL.map au.cells)),(rd cA l.ak.length 2 (List.zipWith ax.cells l.ak az)),(d_ (bw ax.gL l.ak az)),(rd bA l.aa.length 4 (l.aa.map bM.cells)),(rd sgA r.ab.length 2 (r.ab.map aG.cells)),X,(cw gm 111 [f])] (fun (x:Bool×Int×Nat×(OA)×Nat×(OA)×Nat×(List Nat)×(List FM)×(List Nat)×(OA)×Nat×(List FM)×(List Nat)×(OA)×Nat)=>bif x.1 then (vT [(Value.pointer (some ⟨x.2.2.1,0,none⟩)),(vI 0)]) else (vT [(Value.pointer none),(vI x.2.1)])) (fun (x:Bool×Int×Nat×(OA)×Nat×(OA)×Nat×(List Nat)×(List FM)×(List Nat)×(OA)×Nat×(List FM)×(List Nat)×(OA)×Nat)=>(x.1=true→(dN l r me=0∧vy (cb l r) x.2.2.2.2.2.2.2.2.1∧sU (cb l r) x.2.2.2.2.2.2.2.2.2.2.2.2.1∧x.2.2.2.2.2.2.2.2.2.1.length=x.2.2.2.2.2.2.2.2.1.length∧x.2.2.2.2.2.2.2.2.2.2.2.2.2.1.length=x.2.2.2.2.2.2.2.2.2.2.2.2.1.length∧x.2.2.2.2.2.2.2.1.length=(cL l r.ab r.ab.length).length))∧(x.1=false→(x.2.1=dN l r me∧ ¬ dN l r me=0))) (fun (x:Bool×Int×Nat×(OA)×Nat×(OA)×Nat×(List Nat)×(List FM)×(List Nat)×(OA)×Nat×(List FM)×(List Nat)×(OA)×Nat)=>bif x.1 then [(cw x.2.2.1 150 (b_.cells (b_.mk (ki l kA kC cA cC bA bC) (jE r sgA sgC) (aR.mk x.2.2.2.1 ((cj l l.aa.length).length) x.2.2.2.2.1) (aR.mk x.2.2.2.2.2.1 ((cL l r.ab r.ab.length).length) x.2.2.2.2.2.2.1) (aR.mk x.2.2.2.2.2.2.2.2.2.2.1 x.2.2.2.2.2.2.2.2.1.length x.2.2.2.2.2.2.2.2.2.2.2.1) (aR.mk x.2.2.2.2.2.2.2.2.2.2.2.2.2.2.1 x.2.2.2.2.2.2.2.2.2.2.2.2.1.length x.2.2.2.2.2.2.2.2.2.2.2.2.2.2.2)))),(own x.2.2.2.1 x.2.2.2.2.1 3 1 ((cj l l.aa.length).map iC)),(own x.2.2.2.2.2.1 x.2.2.2.2.2.2.1 153 1 (List.zipWith gE (cL l r.ab r.ab.length) x.2.2.2.2.2.2.2.1)),(cd (bw pM (cL l r.ab r.ab.length) x.2.2.2.2.2.2.2.1)),(own x.2.2.2.2.2.2.2.2.2.2.1 x.2.2.2.2.2.2.2.2.2.2.2.1 156 1 (List.zipWith gE x.2.2.2.2.2.2.2.2.1 x.2.2.2.2.2.2.2.2.2.1)),(cd (bw mY x.2.2.2.2.2.2.2.2.1 x.2.2.2.2.2.2.2.2.2.1)),(own x.2.2.2.2.2.2.2.2.2.2.2.2.2.2.1 x.2.2.2.2.2.2.2.2.2.2.2.2.2.2.2 156 1 (List.zipWith gE x.2.2.2.2.2.2.2.2.2.2.2.2.1 x.2.2.2.2.2.2.2.2.2.2.2.2.2.1)),(cd (bw mY x.2.2.2.2.2.2.2.2.2.2.2.2.1 x.2.2.2.2.2.2.2.2.2.2.2.2.2.1))] else []):=by
 have TK:=hin.te
 have S2:=hin.s_
 have Sz:=hin.oY
 have S1:=hin.s7
 have S9:=hin.side
 refine gp kr Tryz.func42 U U fun w0 Q hQ hN=>?_
 try dsimp only
 refine WS fun _ O2=>eK U fun b2=>eK U fun b3=>bI 2 U<|RK O2<|ao fun _ O3=>WS fun _ PI=>e7 1 [] (mc 1 U mn) U<|rS (CL (x3 l kA kC az cA cC bA bC hin) (bq [2,3,4,5]) U)<|bI 1 U<|RK PI<|WS fun _ PP=>rP 2 [] mn ?_
 refine RK PP<|cH U (bu fun h=>?_) (br fun h=>?_)
 ·refine WS fun _ Pa=>rP 3 [] mn ?_
  refine RK Pa<|ar<|LX hQ (false,(dI l),0,none,0,none,0,[],[],[],none,0,[],[],none,0) [] [] mn U (by rfl) U U ?_
  exact v8<|D7 (gD (r:=r) (me:=me) h) h
 refine WK O3<|ao fun _ Pi=>WS fun _ AO=>?_
 have C:dI l=0:=h
 obtain ⟨Lo,d⟩:=dY C
 have Qn:=d.head
 unfold eV at Qn
 refine rP 2 [] (mc 0 U mn) ?_
 refine ew (xs:=[.tmp 24]) (cs:=[(vI r.Start)]) U dD kl U U U U (by simp [Value.cells]) U U fun NE=>?_
 refine rS (CL (dH.eq (il 0 86400000 ([r.Start]) (some ⟨NE,0,none⟩) 1 (by (simp; done))) cz) (aJ (bo 0 U U (by simp [bO]) U)<|aK) U) ?_
 refine rP 2 [] mn ?_
 refine cg (t:=28) U (bu fun Nv=>?_) (br fun Nv=>?_)
 ·refine bI 14 U<|RK AO<|aS U<|WS fun _ A7=>rP 2 [] mn ?_
  refine RK A7<|ar<|LX hQ (false,51,0,none,0,none,0,[],[],[],none,0,[],[],none,0) [] [] mn U (by rfl) U U ?_
  exact v8<|nY (dk (me:=me) C (fun q:eh l r=>by have q1:=q.time; have q2:=q.len; omega))
 refine rP 4 [] (mc 1 U mn) ?_
 refine ew (xs:=[.tmp 32]) (cs:=[(vI r.gd)]) U dD kl U U U U (by simp [Value.cells]) U U fun NZ=>?_
 refine rS (CL (dH.eq (il r.Start 86400000 ([r.gd]) (some ⟨NZ,0,none⟩) 1 (by (simp; done))) cz) (aJ (bo 0 U U (by simp [bO]) U)<|aK) U) ?_
 refine rP 3 [] mn ?_
 refine cg (t:=37) U (bu fun Ok=>?_) (br fun Ok=>?_)
 ·refine bI 5 U<|RK AO<|aS U<|WS fun _ A8=>rP 2 [] mn ?_
  refine RK A8<|ar<|LX hQ (false,51,0,none,0,none,0,[],[],[],none,0,[],[],none,0) [] [] mn U (by rfl) U U ?_
  exact v8<|nY (dk (me:=me) C (fun q:eh l r=>by have q1:=q.time; have q2:=q.len; omega))
 refine rP 5 [] (mc 2 U mn) ?_
 refine RK AO<|cH U (aV fun Op=>?_) (aW fun Op=>?_)
 ·refine WS fun _ A9=>rP 2 [] mn ?_
  refine RK A9<|ar<|LX hQ (false,51,0,none,0,none,0,[],[],[],none,0,[],[],none,0) [] [] mn U (by rfl) U U ?_
  exact v8<|nY (dk (me:=me) C (fun q:eh l r=>by have q1:=q.time; have q2:=q.len; omega))
 refine WK Pi<|WS fun _ BF=>rS (SX (bf (xs:=[(0,.const (vI (-1)))]) (cs:=(aG.cells (aG.mk (-1) 0))) U U (bg Kg U)) U U)<|AL U Gw fun V=>fK U vb U<|RK BF<|ao fun _ B3=>dV cx [5,6,7,8] [] [] [0,1,2,3,4,5,6,7,8,9,10,11] [] U U U U U<|eS U (LW 4 U cq U U)<|eS U (LW 3 U cq U U)<|eS U (FA 3 U fT U)<|eS U (L1 (vS bA l.aa.length bC) 4 U cq U U)<|eS U (LN U OO)<|eJ U<|cv U fun T18 J2=>?_
 refine vW (n:=l.aa.length) (es:=(List.map oC (List.replicate l.aa.length (none:Option Nat)))) U U U Nn I I (by simp only [maxLen]; omega) (by rw [List.map_replicate]; rfl) U fun B=>?_
 try dsimp only
 refine aH (J2 _ _ (aU [1,2,3,4,5,6,7,8,9,10,11,12]) ?_)
 refine cv U fun T20 J3=>rS (SX (bf (xs:=[(0,.tmp 44),(1,.tmp 45),(3,.tmp 49)]) (cs:=(b_.cells (b_.mk (ki l kA kC cA cC bA bC) (jE r sgA sgC) (aR.mk none 0 0) (aR.mk (some ⟨B,0,none⟩) l.aa.length l.aa.length) (aR.mk none 0 0) (aR.mk none 0 0)))) U U (bg M1 U)) U U)<|aH (J3 _ _ (aU [1,2,3,4,5,6,7,8,9,10,11,12]) ?_)
 refine cv U fun T21 J4=>eK U fun AB=>aH (J4 _ _ (aU [2,3,4,5,6,7,8,9,10,11,12,13]) ?_)
 refine cv U fun T23 J5=>rS (AG U)<|aH (J5 _ _ (aU [2,3,4,5,6,7,8,9,10,11,12,13]) ?_)
 refine fY U<|KK B3<|ao fun _ B9=>WS fun _ CM=>rP 4 [] (mc 6 U mn) ?_
 refine RK CM<|aF ?_
 rw [vf]
 refine eL 3 1<|ru ?_
 have E:(0≤l.aa.length)∧(([]:List Nat).length=0):=by exact ⟨Nat.zero_le _,rfl⟩
 refine bZ (ι:={z:Nat×(OA)×Nat×(List Nat) // (z.1≤l.aa.length)∧(z.2.2.2.length=z.1)}) [2,3,4,6,7,9,10,54] [4,7,8,9,10,11,12,13,14,15] U U (fun z=>[(55,(vI (z.1.1:Int)))]) (fun z=>[(cd (bw pM (List.replicate z.1.1 ([]:TM)) z.1.2.2.2)),(own z.1.2.1 z.1.2.2.1 3 1 ((cj l z.1.1).map iC)),(cw AB 150 (b_.cells (b_.mk (ki l kA kC cA cC bA bC) (jE r sgA sgC) (aR.mk z.1.2.1 ((cj l z.1.1).length) z.1.2.2.1) (aR.mk (some ⟨B,0,none⟩) l.aa.length l.aa.length) (aR.mk none 0 0) (aR.mk none 0 0)))),(own (some ⟨B,0,none⟩) l.aa.length 153 1 (List.map oC (dB z.1.2.2.2 l.aa.length)))]) (fun _=>rfl) (fun _=>rfl) (fun z=>l.aa.length-z.1.1) ⟨(0,none,0,([]:List Nat)),E⟩ (bE U) (aU [4,7,8,9,10,11,12,13,14,15,0,1,2,3]) ?_
 clear E
 rintro ⟨⟨b,a,c,fb⟩,⟨Ak,Y⟩⟩ J26 A6
 try dsimp only at Ak Y
 try dsimp only
 have Qr:(dB fb l.aa.length).length=l.aa.length:=nq I
 refine WS fun _ Ci=>rP 1 [] mn ?_
 refine RK Ci<|ao fun _ Ck=>cH U (aV fun OR=>?_) (aW fun OR=>?_)
 ·refine WK Ck<|ao fun _ Cp=>aF<|WS fun _ Cx=>rP 2 [] mn ?_
  refine RK Cx<|ao fun _ C0=>dV cx [12,13,16] [4] [0] [0,1,2,3,4,5,6,7,8,9,10,13] [0,1,2,3,4,5,6,7,8,9,10,11,12,13] U U U U U<|eS U (MV U)<|eS U (MV U)<|eS U (SX (cQ U U) U U)<|eS U (FA 10 U fT U)<|fS U (L1 (vS a ((cj l b).length) c) 12 U cq U U)<|eS U (LW 2 U cq U U)<|eS U (MV U)<|eS U (CL (Hj l kA kC az cA cC bA bC (b:Int) hin asm (by exact d.ui) I) (bq [3,4,5,6]) U) ?_
  have Tg:=BY Lo d.ui b
  have To:=d.NW b I
  simp only [Int.toNat_natCast]
  refine eS U (BI U (qs ⟨I,I⟩))<|eS U (FA 1 U fT U)<|eS U (L1 (vI l.eI) 2 U cq U U) ?_
  refine eS U (CL (Iw (1000*(ly l (b:Int).toNat)) l.eI I (by (simp; omega))) (aK) U) ?_
  refine eS U (SX (cQ U U) U U)<|eS U (FA 10 U fT U)<|eJ U<|mw U fun T33 J6=>ew (xs:=[.tmp 69]) (cs:=[(vI (oZ (1000*(ly l (b:Int).toNat)) l.eI))]) U dD kl U U U U (by simp [Value.cells]) U U fun SO=>aH (J6 _ _ (aU [1,2,3,4,5,6,7,8,9,10,11,14]) (aU [1,2,3,4,5,6,7,8,9,10,11,12,13,14]) ?_)
  refine cv U fun T35 J7=>?_
  refine fF (es2:=(List.map iC (cj l (b+1)))) (m':=(cj l (b+1)).length) 12 U U U tx U U (by simp [cT]) (bo (es:=List.map iC [(oZ (1000*(ly l (b:Int).toNat)) l.eI)]) 0 U U (by simp [bO]) U) (lW _) (by have:=cT (l:=l) (n:=b); first|omega|(simp; omega)) (by simp only [maxLen,cT]; omega) (by rw [qI]; simp [ej]) (by simp [cT]) U fun e g=>?_
  try dsimp only
  refine aH (J7 _ _ (aU [1,2,3,4,5,6,7,8,9,10,11,14]) ?_)
  refine cv U fun T38 J8=>iD (vs:=[(vS e ((cj l (b+1)).length) g)]) (cs':=(b_.cells (b_.mk (ki l kA kC cA cC bA bC) (jE r sgA sgC) (aR.mk e ((cj l (b+1)).length) g) (aR.mk (some ⟨B,0,none⟩) l.aa.length l.aa.length) (aR.mk none 0 0) (aR.mk none 0 0)))) (C':=[_,_,_,_,_,_,_,_,_,_,_,_,_,(cw AB 150 (b_.cells (b_.mk (ki l kA kC cA cC bA bC) (jE r sgA sgC) (aR.mk e ((cj l (b+1)).length) g) (aR.mk (some ⟨B,0,none⟩) l.aa.length l.aa.length) (aR.mk none 0 0) (aR.mk none 0 0)))),_]) 13 U U U Mj U U U U U U U<|aH (J8 _ _ (aU [1,2,3,4,5,6,7,8,9,10,11,14]) ?_)
  refine fY U<|KK C0<|av<|bI 1 U<|rS (SX (cQ U U) U U)<|rP 3 [] (mc 13 U mn) ?_
  refine mJ (kV:=iV) U U fun J=>?_
  try dsimp only
  obtain ⟨R3,L0⟩:=aM (dB fb l.aa.length) b I
  have hx41m:(List.map oC (dB fb l.aa.length))[b]? =some (oC R3):=by rw [fO,L0]; rfl
  refine rS (IA b U (aQ (n:=l.aa.length) 15 U sq) xP dc I I) ?_
  have J9:((dB fb l.aa.length).set b (some J))=(dB (fb++[J]) l.aa.length):=by exact rI I I
  refine jg (k:=b) (o:=0) (vs:=[(Value.map (some J))]) (es':=(List.map oC (dB (fb++[J]) l.aa.length))) (C':=[_,_,_,_,_,_,_,_,_,_,_,_,_,_,_,(own (some ⟨B,0,none⟩) l.aa.length 153 1 (List.map oC (dB (fb++[J]) l.aa.length)))]) 15 U U U Ei U U U U hx41m U dc (by exact (List.map_set (f:=oC) (l:=(dB fb l.aa.length)) (i:=b) (a:=(some J))).symm.trans (congrArg _ J9)) U<|aH<|aN<|KK Cp<|av<|rP 2 [] mn ?_
  refine aH<|yr (X':=bw pM (List.replicate (b+1) ([]:TM)) (fb++[J])) 12 0 U U (Er Y) ?_
  try dsimp only
  have Ka:(vI (((b+1):Nat):Int))=(vI ((b:Int)+1)):=by exact cI I
  refine bp (A6 ⟨((b+1),e,g,(fb++[J])),⟨I,by simp; omega⟩⟩ _ _ _ U os (cY 8<|bk U Ka<|dG.nil _) (aU [2,3,4,5,6,7,8,9,10,11,0,12,13,14]))
 refine bQ<|ai<|ai<|aI<|KK B9<|ao fun _ C1=>WS fun _ C2=>rP 4 [] (mc 1 U mn) ?_
 refine RK C2<|aF ?_
 rw [show (List.replicate b ([]:TM))=cL l r.ab 0 from by rw [xI,show b=l.aa.length by omega]]
 rw [show cj l b=cj l l.aa.length from by rw [show b=l.aa.length by omega]]
 have E:(0≤r.ab.length)∧(oV l r.ab 0):=by exact ⟨Nat.zero_le _,uY⟩
 refine bZ (ι:={z:Nat // (z≤r.ab.length)∧(oV l r.ab z)}) [2,3,4,6,7,9,10,83,84] [1,2,3,4,5,6,7,8,9,11,12,13] U U (fun z=>[(85,(vI (z.1:Int)))]) (fun z=>[(cw V 78 (aG.cells (kT r.ab z.1))),(cd (bw pM (cL l r.ab z.1) fb))]) (fun _=>rfl) (fun _=>rfl) (fun z=>r.ab.length-z.1) ⟨0,E⟩ (bE U) (aU [1,2,3,4,5,6,7,8,9,11,12,13,0,10]) ?_
 clear E
 rintro ⟨i,⟨M2,A⟩⟩ J46 T
 try dsimp only
 have R0:(cL l r.ab i).length=l.aa.length:=gM
 have Qr:(dB fb l.aa.length).length=l.aa.length:=nq I
 refine WS fun _ C3=>rP 1 [] mn ?_
 refine RK C3<|ao fun _ Di=>bV U (aW fun Or=>?_) (aV fun Or=>?_)
 ·refine bQ<|ai<|ai<|aI<|KK C1<|ao fun _ GT=>ao fun _ Go=>?_
  have j:eh l r:=xu I I A I
  refine av<|bI 3 U<|RK Go<|aF<|qJ 2<|kW fun R81 Ja=>WS fun _ Hi=>rS (SX (gn (r:= .bool true) U U U qq) U U)<|RK Hi<|ao fun _ H1=>aS U<|WK H1<|ao fun _ IO=>aF<|WS fun _ IR=>rS (Uw 0 0 U MK U dc U)<|e7 2 [] (mr 8 U mn) U<|RK IR<|WS fun _ Id=>bI 1 U<|rS (SX (qk U U U (hf) (bq [7])) U U)<|bI 1 U<|RK Id<|WS fun _ Ie=>rP 2 [] mn ?_
  refine RK Ie<|cH U (bu fun K=>?_) (br fun K=>?_)
  ·refine WS fun _ If=>rP 3 [] mn ?_
   refine RK If<|ar<|LX hQ (false,me,0,none,0,none,0,[],[],[],none,0,[],[],none,0) [] [] mn U (by rfl) U U ?_
   exact v8<|D7 (rf C j K) K
  refine ct<|aN<|KK IO<|av<|rS (SX (gn (r:= .int .i64 1) U U U (ox ⟨dc,dc⟩)) U U)<|rP 1 [] mn ?_
  refine RK Ja<|kW fun R89 R7=>WS fun _ In=>rS (SX (gn (r:= .bool false) U U U qq) U U)<|RK In<|ao fun _ R6=>cp U<|bQ<|ai<|ai<|aI<|KK GT<|ao fun _ I8=>?_
  rw [show cL l r.ab i=cL l r.ab r.ab.length from by rw [show i=r.ab.length by omega]]
  have A1:(cL l r.ab r.ab.length).length=l.aa.length:=gM
  rw [show (List.map oC (dB fb l.aa.length))=(List.zipWith gE (cL l r.ab r.ab.length) fb) from P8 I A1]
  rw [show (cw AB 150 (b_.cells (b_.mk (ki l kA kC cA cC bA bC) (jE r sgA sgC) (aR.mk a ((cj l l.aa.length).length) c) (aR.mk (some ⟨B,0,none⟩) l.aa.length l.aa.length) (aR.mk none 0 0) (aR.mk none 0 0))))=(cw AB 150 (b_.cells (b_.mk (ki l kA kC cA cC bA bC) (jE r sgA sgC) (aR.mk a ((cj l l.aa.length).length) c) (aR.mk (some ⟨B,0,none⟩) ((cL l r.ab r.ab.length).length) l.aa.length) (aR.mk none 0 0) (aR.mk none 0 0)))) from by rw [A1]]
  have Lx:=lI Lo d j
  have R8:(cj l l.aa.length).length=l.aa.length:=cT
  refine av<|rP 1 [] mn ?_
  refine ou 10 U U U U (Ao (ki l kA kC cA cC bA bC) (jE r sgA sgC) (cj l l.aa.length) (cL l r.ab r.ab.length) a c fb (some ⟨B,0,none⟩) l.aa.length AB (by exact Lx) (by exact cT.symm) (by rw [A1]; omega)) U (ep 9 U U (jx sm) (ep 11 U U (jx (by rw [List.length_zipWith]; omega)) (ep 13 U U qS qR))) U (fun L2 Pl=>?_)
  obtain ⟨G,S,P,R,F,O,N,H⟩:=L2
  refine EZ (X:=[(cw AB 150 (b_.cells (b_.mk (ki l kA kC cA cC bA bC) (jE r sgA sgC) (aR.mk a ((cj l l.aa.length).length) c) (aR.mk (some ⟨B,0,none⟩) ((cL l r.ab r.ab.length).length) l.aa.length) (aR.mk P G.length R) (aR.mk N F.length H)))),(own P R 156 1 (List.zipWith gE G S)),(cd (bw mY G S)),(own N H 156 1 (List.zipWith gE F O)),(cd (bw mY F O))]) 10 U U ?_
  try dsimp only
  obtain ⟨A0,La,Li,Lk⟩:=Pl
  dsimp only at A0 La Li Lk
  refine RK I8<|ao fun _ v=>WS fun _ w=>rP 1 [] mn ?_
  refine cX (vc (ki l kA kC cA cC bA bC) (jE r sgA sgC) (cj l l.aa.length) (cL l r.ab r.ab.length) a c fb (some ⟨B,0,none⟩) l.aa.length G F S P R O N H AB (by exact Lx) (by (simp; omega)) (by exact cT.symm) (by exact A0) asm) (aJ (aQ (n:=(cj l l.aa.length).length) 14 U sm)<|aJ (aQ (n:=(cL l r.ab r.ab.length).length) 15 U (by rw [List.length_zipWith]; omega))<|aJ (gQ 17 U lG)<|aJ (aQ (n:=G.length) 1 U (by rw [List.length_zipWith]; omega))<|aJ (gQ 2 U lG)<|aJ (aQ (n:=F.length) 3 U (by rw [List.length_zipWith]; omega))<|aJ (gQ 4 U lG)<|g_ 0 U U<|aK) U fun L3 R2=>?_
  obtain ⟨R4,R5⟩:=L3
  try dsimp only
  refine rP 2 [] mn ?_
  refine RK w<|bV U (aW fun W=>?_) (aV fun W=>?_)
  ·refine WK v<|WS fun _ AC=>rP 3 [] mn ?_
   refine RK AC<|ar ?_
   refine LX hQ (true,0,AB,a,c,(some ⟨B,0,none⟩),l.aa.length,fb,G,S,P,R,F,O,N,H) [1,15,16,18,2,3,4,5] [] mn U (by (show List.all _ _=true; simp only [cond_true,fM,List.all_nil,pD,qG,Bool.and_true]; rfl)) U U ?_
   exact ⟨fun _=>⟨lv C j (by first|rfl|exact K) (fun q=>W (congrArg (fun z:List Int=>(z.length:Int)) q)),A0,La,Li,Lk,dso⟩,Pv⟩
  refine WS fun _ y=>rP 2 [] mn ?_
  refine RK y<|ar<|LX hQ (false,8,0,none,0,none,0,[],[],[],none,0,[],[],none,0) [] [] mn U (by rfl) U U ?_
  exact v8<|nY (g7 (me:=me) C j (by first|rfl|exact K) (show ic (cb l r)=[] from ir (Int.natCast_eq_zero.1 W)))
 refine WK Di<|ao fun _ AA=>aF<|WS fun _ Do=>rP 1 [] mn ?_
 obtain ⟨x,hx⟩:=aM r.ab i I
 have R1:=bP aG.cells hx
 refine rS (IA i U (aA 6 U) zK dc I I)<|rS (lQ i 0 (aG.cells x) U cq (aA 6 U) R1 U dc U U)<|AL U Gw fun ST=>bI 1 U<|fK U vb U<|RK Do<|ao fun _ p=>WS fun _ L=>rP 6 [0,1] (mc 2 U (mc 0 U mn)) ?_
 refine ew (xs:=[.tmp 95]) (cs:=[(vI x.fz)]) U dD kl U U U U (by simp [Value.cells]) U U fun Ne=>?_
 refine rS (CL (dH.eq (il 0 ((l.aa.length:Int)-1) ([x.fz]) (some ⟨Ne,0,none⟩) 1 (by (simp; done))) cz) (aJ (bo 0 U U (by simp [bO]) U)<|aK) U) ?_
 refine rP 2 [] mn ?_
 refine cg (t:=99) U (bu fun Os=>?_) (br fun Os=>?_)
 ·refine bI 27 U<|RK L<|aS U<|WS fun _ EP=>rP 2 [] mn ?_
  refine RK EP<|ar<|LX hQ (false,51,0,none,0,none,0,[],[],[],none,0,[],[],none,0) [] [] mn U (by rfl) U U ?_
  exact v8<|nY (dk (me:=me) C (ko hx (by unfold hO iF; omega)))
 refine rP 2 [] (mc 1 U mn) ?_
 refine ew (xs:=[.tmp 101]) (cs:=[(vI x.Read)]) U dD kl U U U U (by simp [Value.cells]) U U fun Nh=>?_
 refine rS (CL (dH.eq (il 0 86400000 ([x.Read]) (some ⟨Nh,0,none⟩) 1 (by (simp; done))) cz) (aJ (bo 0 U U (by simp [bO]) U)<|aK) U) ?_
 refine rP 3 [] mn ?_
 refine cg (t:=106) U (bu fun A2=>?_) (br fun A2=>?_)
 ·refine bI 20 U<|RK L<|aS U<|WS fun _ EQ=>rP 2 [] mn ?_
  refine RK EQ<|ar<|LX hQ (false,51,0,none,0,none,0,[],[],[],none,0,[],[],none,0) [] [] mn U (by rfl) U U ?_
  exact v8<|nY (dk (me:=me) C (ko hx (by unfold hO iF; omega)))
 refine rP 7 [0,1] (mc 2 U (mc 15 U mn)) ?_
 refine cg (t:=113) U (aV fun A3=>?_) (aW fun A3=>?_)
 ·refine bI 13 U<|RK L<|aS U<|WS fun _ Eq=>rP 2 [] mn ?_
  refine RK Eq<|ar<|LX hQ (false,51,0,none,0,none,0,[],[],[],none,0,[],[],none,0) [] [] mn U (by rfl) U U ?_
  exact v8<|nY (dk (me:=me) C (ko hx (by unfold hO iF; omega)))
 refine rP 6 [0,1] (mc 2 U (mc 15 U mn)) ?_
 refine cM (t:=119) U (aW fun A4=>?_) (aV fun A4=>?_)
 ·refine bI 7 U<|RK L<|cp U<|WK p<|ao fun _ u=>WS fun _ F9=>e7 2 [0,1] (mc 4 U (mc 2 U mn)) U<|rS (CL (zw l kA kC az cA cC bA bC x hin asm I) (bq [5,6,7,8]) U)<|AL U ed fun Se=>fK U c_ U<|RK F9<|WS fun _ GE=>rP 5 [] (mc 0 U mn) ?_
  refine RK GE<|bV U (aW fun D=>?_) (aV fun D=>?_)
  ·refine WK u<|av<|rP 1 [] (mc 3 U mn) ?_
   refine iD (vs:=(aG.cells x)) (cs':=(aG.cells x)) (C':=[_,_,_,_,_,_,_,_,_,_,_,_,_,_,_,_,(cw V 78 (aG.cells x)),_]) 16 U U U vb U U U U U U U<|aH<|aN<|KK AA ?_
   have K8:(aG.cells x)=(aG.cells (kT r.ab (i+1))):=by rw [ke hx]
   rw [K8]
   refine av<|rP 2 [] mn ?_
   refine aH ?_
   rw [show (cL l r.ab i)=(cL l r.ab (i+1)) from (pY hx D).symm]
   have LA:(vI (((i+1):Nat):Int))=(vI ((i:Int)+1)):=by exact cI I
   refine bp (T ⟨(i+1),⟨I,jv A hx (by unfold hO iF; omega)⟩⟩ _ _ _ U os (cY 9<|bk U LA<|dG.nil _) (aU [4,5,6,7,8,9,10,11,12,13,14,15,16,17]))
  obtain ⟨mb,Z⟩:=aM (cL l r.ab i) ((x.fz).toNat) I
  obtain ⟨ga,M⟩:=aM fb ((x.fz).toNat) I
  refine zg 17 Z M U U U ?_
  try dsimp only
  refine dw cx 10 kr<|k7 1 U<|dS (SX (cQ U U) U U)<|dP 4 [0,1] (mc 16 U (mc 5 U mn)) ?_
  have LT:(List.map oC (dB fb l.aa.length))[(x.fz).toNat]? =some (oC (some ga)):=qn (mL M)
  refine dS (IA ((x.fz).toNat) U (aQ (n:=l.aa.length) 17 U sq) xP dc I I) ?_
  refine dS (iK ((x.fz).toNat) 0 (Value.map (some ga)) U cq (aQ (n:=(dB fb l.aa.length).length) 17 U sm) LT U dc U)<|lU 2 [] (mc 2 U mn) U<|cK<|ja (kV:=iV) (x:=(i:Int)) (C':=[(kh iV ga (cR jY (eo mb (i:Int) (cO l x)))),_,_,_,_,_,_,_,_,_,_,_,_,_,_,_,_,_,_]) 0 U U U U su (iM s9) U (gN _ _ _ _).symm U<|RK u<|av<|rP 1 [] (mc 5 U mn) ?_
  refine iD (vs:=(aG.cells x)) (cs':=(aG.cells x)) (C':=[_,_,_,_,_,_,_,_,_,_,_,_,_,_,_,_,_,_,(cw V 78 (aG.cells x))]) 18 U U U vb U U U U U U U<|aH<|aN<|KK AA ?_
  have K4:(aG.cells x)=(aG.cells (kT r.ab (i+1))):=by rw [ke hx]
  rw [K4]
  refine av<|rP 2 [] mn ?_
  refine aH ?_
  refine Ai (f:=pM) (ms:=(cL l r.ab i)) (m:=(eo mb (i:Int) (cO l x))) 1 0 (by rw [gM]; omega) M U U U ?_
  rw [rQ hx I D Z]
  have K5:(vI (((i+1):Nat):Int))=(vI ((i:Int)+1)):=by exact cI I
  refine bp (T ⟨(i+1),⟨I,jv A hx (by unfold hO iF; omega)⟩⟩ _ _ _ U os (cY 9<|bk U K5<|dG.nil _) (aU [5,6,7,8,9,10,11,12,13,14,15,16,17,0]))
 refine rP 7 [0,1] (mc 2 U (mc 15 U mn)) ?_
 refine RK L<|cH U (aV fun A5=>?_) (aW fun A5=>?_)
 ·refine WS fun _ FS=>rP 2 [] mn ?_
  refine RK FS<|ar<|LX hQ (false,51,0,none,0,none,0,[],[],[],none,0,[],[],none,0) [] [] mn U (by rfl) U U ?_
  exact v8<|nY (dk (me:=me) C (ko hx (by unfold hO iF; omega)))
 refine WK p<|ao fun _ s=>WS fun _ Fd=>e7 2 [0,1] (mc 4 U (mc 2 U mn)) U<|rS (CL (zw l kA kC az cA cC bA bC x hin asm I) (bq [5,6,7,8]) U)<|AL U ed fun SY=>fK U c_ U<|RK Fd<|WS fun _ Fn=>rP 5 [] (mc 0 U mn) ?_
 refine RK Fn<|bV U (aW fun D=>?_) (aV fun D=>?_)
 ·refine WK s<|av<|rP 1 [] (mc 3 U mn) ?_
  refine iD (vs:=(aG.cells x)) (cs':=(aG.cells x)) (C':=[_,_,_,_,_,_,_,_,_,_,_,_,_,_,_,_,(cw V 78 (aG.cells x)),_]) 16 U U U vb U U U U U U U<|aH<|aN<|KK AA ?_
  have Kz:(aG.cells x)=(aG.cells (kT r.ab (i+1))):=by rw [ke hx]
  rw [Kz]
  refine av<|rP 2 [] mn ?_
  refine aH ?_
  rw [show (cL l r.ab i)=(cL l r.ab (i+1)) from (pY hx D).symm]
  have K0:(vI (((i+1):Nat):Int))=(vI ((i:Int)+1)):=by exact cI I
  refine bp (T ⟨(i+1),⟨I,jv A hx (by unfold hO iF; omega)⟩⟩ _ _ _ U os (cY 9<|bk U K0<|dG.nil _) (aU [4,5,6,7,8,9,10,11,12,13,14,15,16,17]))
 obtain ⟨mb,Z⟩:=aM (cL l r.ab i) ((x.fz).toNat) I
 obtain ⟨ga,M⟩:=aM fb ((x.fz).toNat) I
 refine zg 17 Z M U U U ?_
 try dsimp only
 refine dw cx 10 kr<|k7 1 U<|dS (SX (cQ U U) U U)<|dP 4 [0,1] (mc 16 U (mc 5 U mn)) ?_
 have LE:(List.map oC (dB fb l.aa.length))[(x.fz).toNat]? =some (oC (some ga)):=qn (mL M)
 refine dS (IA ((x.fz).toNat) U (aQ (n:=l.aa.length) 17 U sq) xP dc I I) ?_
 refine dS (iK ((x.fz).toNat) 0 (Value.map (some ga)) U cq (aQ (n:=(dB fb l.aa.length).length) 17 U sm) LE U dc U)<|lU 2 [] (mc 2 U mn) U<|cK<|ja (kV:=iV) (x:=(i:Int)) (C':=[(kh iV ga (cR jY (eo mb (i:Int) (cO l x)))),_,_,_,_,_,_,_,_,_,_,_,_,_,_,_,_,_,_]) 0 U U U U su (iM s9) U (gN _ _ _ _).symm U<|RK s<|av<|rP 1 [] (mc 5 U mn) ?_
 refine iD (vs:=(aG.cells x)) (cs':=(aG.cells x)) (C':=[_,_,_,_,_,_,_,_,_,_,_,_,_,_,_,_,_,_,(cw V 78 (aG.cells x))]) 18 U U U vb U U U U U U U<|aH<|aN<|KK AA ?_
 have Kh:(aG.cells x)=(aG.cells (kT r.ab (i+1))):=by rw [ke hx]
 rw [Kh]
 refine av<|rP 2 [] mn ?_
 refine aH ?_
 refine Ai (f:=pM) (ms:=(cL l r.ab i)) (m:=(eo mb (i:Int) (cO l x))) 1 0 (by rw [gM]; omega) M U U U ?_
 rw [rQ hx I D Z]
 have Kj:(vI (((i+1):Nat):Int))=(vI ((i:Int)+1)):=by exact cI I
 refine bp (T ⟨(i+1),⟨I,jv A hx (by unfold hO iF; omega)⟩⟩ _ _ _ U os (cY 9<|bk U Kj<|dG.nil _) (aU [5,6,7,8,9,10,11,12,13,14,15,16,17,0]))
end
section
open Go.RowKit
theorem BU (l:bj) (kA:OA) (kC:Nat) (az:List RA) (cA:OA) (cC:Nat) (bA:OA) (bC:Nat) (r:cD) (sgA:OA) (sgC:Nat) (bq_:Int) (hin:eH l az) (hsl:r.ab.length≤1000000):
 dH Tryz.prog 22 [(vA (bT.cells (ki l kA kC cA cC bA bC))),(vA (cU.cells (jE r sgA sgC))),(vI bq_)] [(rd kA l.aL.length 9 (l.aL.map au.cells)),(rd cA l.ak.length 2 (List.zipWith ax.cells l.ak az)),(d_ (bw ax.gL l.ak az)),(rd bA l.aa.length 4 (l.aa.map bM.cells)),(rd sgA r.ab.length 2 (r.ab.map aG.cells))] (vT [(vA (ag.cells (dK l r bq_))),(vI (dT l r bq_))]):=by
 have J9:=hin.te
 have J2:=hin.s_
 have Ie:=hin.oY
 have I8:=hin.s7
 have J7:=hin.side
 refine bH kr Tryz.func22 U U fun w0 Q hQ hN=>?_
 try dsimp only
 refine WS fun _ A2=>eK U fun b2=>eK U fun b3=>wu U U fun b4=>AL U ed fun b5=>bI 1 U<|RK A2<|WS fun _ p=>rP 2 [0,1] (mc 3 U (mc 2 U mn)) ?_
 refine rS (FU U)<|ew (xs:=[.tmp 17]) (cs:=[(Value.func (.func 43) [].toArray [(vP b2),(vP b4)].toArray)]) U MK Qa U U U U (by simp [Value.cells]) U U fun b7=>cX (Ln l kA kC az cA cC bA bC r sgA sgC (Value.func (.func 43) [].toArray [(vP b2),(vP b4)].toArray) (d_ [(rd kA l.aL.length 9 (l.aL.map au.cells)),(rd cA l.ak.length 2 (List.zipWith ax.cells l.ak az)),(d_ (bw ax.gL l.ak az)),(rd bA l.aa.length 4 (l.aa.map bM.cells)),(cw b2 28 (bT.cells (ki l kA kC cA cC bA bC))),(cw b4 3 [(vI bq_)])]) (jI l bq_) b7 (by exact lf (fi:=[]) (ca:=[(vP b2),(vP b4)]) (jX (DE l kA kC az cA cC bA bC b2 bq_ b4 (by first|assumption|omega)) (bq [0,1,2,3,4,5]))) hin hsl) (oK [5,6,7,8,9]<|aJ (jT (bq [5,6,7,8,4,2]))<|g_ 0 U U<|aK) U fun y8 C0=>?_
 obtain ⟨C1,Go,E,H,AB,g,j,m,B,L,J,K,A,G,d,f⟩:=y8
 cases C1
 ·obtain ⟨Ci,he⟩:=C0.2 rfl
  try dsimp only at Ci he
  subst Ci
  try dsimp only [cond_true,cond_false,List.cons_append,List.nil_append]
  refine bI 5 U<|RK p<|ao fun _ H1=>WS fun _ BF=>rP 2 [] mn ?_
  refine RK BF<|bV U (br fun A9=>?_) (bu fun A9=>?_)
  ·exact absurd A9 he
  refine WS fun _ B3=>rS (SX (bf (xs:=[]) (cs:=(ag.cells (ag.mk 0 0))) U U (bg gZ U)) U U)<|bI 1 U<|sr U c_ U<|rP 1 [] mn ?_
  refine RK B3<|ar<|mQ hQ [0] (mc 1 U mn) U ?_
  (have e:=ml (b:=bq_) he; rw [e.1,e.2]<;>rfl)
 obtain ⟨he,D,C,Do,Di,Eq⟩:=C0.1 rfl
 try dsimp only [cond_true,cond_false,List.cons_append,List.nil_append]
 dsimp only at D C Do Di Eq
 obtain ⟨C3,A6,EQ,J4⟩:=iN he
 obtain ⟨FS,Cp⟩:=dY C3
 have EP:=Cp.head
 unfold eV at EP
 have Fd:=lI FS Cp A6
 have J6:=A6.time
 have J5:=A6.len
 have Ck:(cj l l.aa.length).length=l.aa.length:=cT
 have Cx:(cL l r.ab r.ab.length).length=l.aa.length:=gM
 have J3:B.length=l.aa.length+1:=by have:=D.len; rw [show (cb l r).n=l.aa.length from cT] at this; exact this
 have Ja:A.length=l.aa.length+1:=by have:=C.len; rw [show (cb l r).n=l.aa.length from cT] at this; exact this
 obtain ⟨If,In⟩:=Dn EQ
 obtain ⟨b,A3⟩: ∃ b:Nat,bq_=(b:Int):=⟨bq_.toNat,I⟩
 rw [A3]
 refine bI 5 U<|RK p<|ao fun _ N=>WS fun _ O=>bI 1 U<|rS (SX (gn (r:= .bool false) U U U xV) U U)<|RK O<|cp U<|WK N<|WS fun _ P=>rS (SX (bf (xs:=[(0,.const (vI 1))]) (cs:=(ag.cells (ag.mk 1 0))) U U (bg gZ U)) U U)<|AL U ed fun A7=>fK U c_ U<|RK P<|WS fun _ R=>e7 1 [] (mc 0 U mn) U<|AL U ed fun A8=>fK U c_ U<|RK R<|ao fun _ T=>WS fun _ AA=>rP 2 [] (mc 12 U mn) ?_
 obtain ⟨mf,Y⟩:=aM B b I
 obtain ⟨mb,Z⟩:=aM A (b+1) I
 refine cX (IZ E b) (aK) U fun F9 IO=>?_
 obtain ⟨AC,AO⟩:=F9
 try dsimp only
 refine RK AA<|aF ?_
 refine tG (L0:=[(3,(vP b2)),(4,(vP b3)),(5,(vP b4)),(6,(vP b5)),(7,(vI 0)),(10,(vP A7)),(11,(vP A8))]) (F:=[(own H AB 3 1 ((cj l l.aa.length).map iC)),(own g j 153 1 (List.zipWith gE (cL l r.ab r.ab.length) m)),(cd (bw pM (cL l r.ab r.ab.length) m)),(own J K 156 1 (List.zipWith gE B L)),(cd (bw mY B L)),(own d f 156 1 (List.zipWith gE A G)),(cd (bw mY A G)),(cw E 150 (b_.cells (b_.mk (ki l kA kC cA cC bA bC) (jE r sgA sgC) (aR.mk H ((cj l l.aa.length).length) AB) (aR.mk g ((cL l r.ab r.ab.length).length) j) (aR.mk J B.length K) (aR.mk d A.length f)))),(cw AC 108 [(vP E)]),(cw AO 3 [(vI (b:Int))])]) (fun k (y:ag)=>(kJ k y)∧(∀ q∈k,q∈qu (cb l r) b mf mb)) (fun k y=>[(cw A8 53 (ag.cells y)),(cw A7 53 (ag.cells (ag.mk 1 0))),(cw b5 53 (ag.cells (ag.mk 0 0))),(cw b4 3 [(vI (b:Int))]),(cw b3 56 (cU.cells (jE r sgA sgC))),(cw b2 28 (bT.cells (ki l kA kC cA cC bA bC))),(rd kA l.aL.length 9 (l.aL.map au.cells)).ro,(rd cA l.ak.length 2 (List.zipWith ax.cells l.ak az)).ro,(d_ (bw ax.gL l.ak az)).ro,(rd bA l.aa.length 4 (l.aa.map bM.cells)).ro,(rd sgA r.ab.length 2 (r.ab.map aG.cells)).ro]) (fun _ (_:Unit)=>False) (fun _ _=>[]) [2,3,13,14,15,16,17,18,19,20,21] [5,6,7,8,9,10,11,4,0,1] mC rfl rfl (Gg (ki l kA kC cA cC bA bC) (jE r sgA sgC) (cj l l.aa.length) (cL l r.ab r.ab.length) H AB m g j B A L J K G d f E b AC AO mf mb (by rw [Ck]; omega) (by exact Fd) (by rw [Cx]; omega) (by exact D) I (by exact C) I (by show r.ab.length≤1000; omega) (by exact Y) (by exact Z)) rfl rfl rfl (by exact ⟨Bc,fun q hq=>by cases hq⟩) (by simp only [List.forall_mem_cons,List.not_mem_nil,false_imp_iff,implies_true,and_true]; exact ⟨⟨_,aP (i:=0) rfl,(jx sm)⟩,⟨_,aP (i:=1) rfl,(jx (by rw [List.length_zipWith]; omega))⟩,⟨_,aP (i:=2) rfl,qS⟩,⟨_,aP (i:=3) rfl,(jx (by rw [List.length_zipWith]; omega))⟩,⟨_,aP (i:=4) rfl,qS⟩,⟨_,aP (i:=5) rfl,(jx (by rw [List.length_zipWith]; omega))⟩,⟨_,aP (i:=6) rfl,qS⟩,⟨_,aP (i:=7) rfl,(bX _)⟩,⟨_,aP (i:=8) rfl,(bX _)⟩,⟨_,aP (i:=9) rfl,(bX _)⟩⟩) (by rintro k x k2 ⟨o,_,rfl,_⟩; rfl) rfl (bE rfl) ?_ ?_ (fun _ _ _ h=>h.elim) (fun _ _ h=>h.elim)
 ·rintro k x k2 h lr ra rb S w1 K41 Qr42 J8 hx A4 B9 X Fn GE
  obtain ⟨q,hq,rfl,rfl⟩:=hx
  obtain ⟨a,c⟩:=A4
  try dsimp only
  refine av<|AL U ed fun IR=>fK U c_ U<|aH<|jV (fun _ _ h=>h) (aU [1,0,2,3,4,5,6,7,8,9,10,11,12])<|bp (B9 _ _ ?_)
  refine aF<|ao fun _ s=>WS fun _ CM=>rP 2 [0,1] (mc 2 U (mc 3 U mn)) ?_
  refine rS (BI U (Rc _ _ h (ag.mk 1 0)))<|RK CM<|bV U (br fun M=>?_) (bu fun M=>?_)
  ·refine WK s<|av<|rP 1 [] (mc 1 U mn) ?_
   refine G3 U c_ U<|aH<|aN ?_
   exact X q.2 _ _ (by refine ⟨yK a (m8 hq) ?_,fun z hz=>?_⟩; (first|exact if_neg M|exact if_pos M); (rcases g0.1 hz with hz|hz; exact c z hz; (rw [cm.1 hz]; exact hq))) (aU [0,2,3,4,5,6,7,8,9,10,11,12])
  refine av<|e7 4 [0,1] (mc 1 U (mc 2 U mn)) U<|rS (MN U)<|e7 4 [0,1] (mc 1 U (mc 2 U mn)) U<|rS (MX U)<|rS (SX (bf (xs:=[(0,.tmp 40),(1,.tmp 45)]) (cs:=(ag.cells (ag.mk (min q.2.Lo h.Lo) (max q.2.Hi h.Hi)))) U U (bg gZ U)) U U)<|sr U c_ U<|RK s<|av<|rP 1 [] (mc 1 U mn) ?_
  refine G3 U c_ U<|aH<|aN ?_
  exact X (ag.mk (min q.2.Lo h.Lo) (max q.2.Hi h.Hi)) _ _ (by refine ⟨yK a (m8 hq) ?_,fun z hz=>?_⟩; (first|exact if_neg M|exact if_pos M); (rcases g0.1 hz with hz|hz; exact c z hz; (rw [cm.1 hz]; exact hq))) (aU [0,2,3,4,5,6,7,8,9,10,11,12])
 rintro Kh k h v A5
 obtain ⟨a,c⟩:=A5
 try dsimp only
 refine aN<|KK T<|ao fun _ V=>WS fun _ W=>rP 2 [0,1] (mc 11 U (mc 12 U mn)) ?_
 refine rS (BI U (xb _ _ h (ag.mk 1 0)))<|RK W<|bV U (aW fun A1=>?_) (aV fun A1=>?_)
 ·refine WK V<|WS fun _ u=>e7 1 [] (mc 11 U mn) U<|iD (vs:=(ag.cells h)) (cs':=(ag.cells h)) (C':=[_,_,_,_,_,_,_,_,_,_,_,_,_,(cw b5 53 (ag.cells h)),_,_,_,_,_,_,_,_]) 13 U U U c_ U U U U U U U<|rP 1 [] mn ?_
  refine RK u<|ar<|hQ _ _ _ (rq 0 U U<|jZ (vs:=[(vA (ag.cells h)),(vI 0)]) ⟨⟨_,U,.inl ⟨_,_,cq,p8 (vs:=(ag.cells h)) 13 U U,U,U⟩⟩,U,trivial⟩ fun w hs=>AE ?_ hs)
  show (vT [(vA (ag.cells h)),(vI 0)])=(vT [(vA (ag.cells (dK l r bq_))),(vI (dT l r bq_))])
  clear hs w hQ hN u W V AA T R P O N p A2
  (rw [A3] at he ⊢; have hh:h=mB l r b:=yX (D.min _ _ Y) (C.max _ _ Z) (D.keys _ _ Y) (C.keys _ _ Z) c v a; (have e:=oy he (fun q=>A1 (hh.trans q)); rw [e.1,e.2,hh]<;>rfl))
 refine WS fun _ t=>rS (SX (bf (xs:=[]) (cs:=(ag.cells (ag.mk 0 0))) U U (bg gZ U)) U U)<|iD (vs:=(ag.cells (ag.mk 0 0))) (cs':=(ag.cells (ag.mk 0 0))) (C':=[_,_,_,_,_,_,_,_,_,_,_,_,_,(cw b5 53 (ag.cells (ag.mk 0 0))),_,_,_,_,_,_,_,_]) 13 U U U c_ U U U U U U U<|rP 1 [] mn ?_
 refine RK t<|ar<|hQ _ _ _ (rq 0 U U<|jZ (vs:=[(vA (ag.cells (ag.mk 0 0))),(vI 6)]) ⟨⟨_,U,.inl ⟨_,_,cq,p8 (vs:=(ag.cells (ag.mk 0 0))) 13 U U,U,U⟩⟩,U,trivial⟩ fun w hs=>AE ?_ hs)
 show (vT [(vA (ag.cells (ag.mk 0 0))),(vI 6)])=(vT [(vA (ag.cells (dK l r bq_))),(vI (dT l r bq_))])
 clear hs w hQ hN t W V AA T R P O N p A2
 (rw [A3] at he ⊢; have hh:h=mB l r b:=yX (D.min _ _ Y) (C.max _ _ Z) (D.keys _ _ Y) (C.keys _ _ Z) c v a; (have e:=qP he (hh.symm.trans A1); rw [e.1,e.2]<;>rfl))
theorem RN (l:bj) (kA:OA) (kC:Nat) (az:List RA) (cA:OA) (cC:Nat) (bA:OA) (bC:Nat) (r:cD) (sgA:OA) (sgC:Nat) (hin:eH l az) (hsl:r.ab.length≤1000000):
 dH Tryz.prog 213 [(vA (bT.cells (ki l kA kC cA cC bA bC))),(vA (cU.cells (jE r sgA sgC)))] [(rd kA l.aL.length 9 (l.aL.map au.cells)),(rd cA l.ak.length 2 (List.zipWith ax.cells l.ak az)),(d_ (bw ax.gL l.ak az)),(rd bA l.aa.length 4 (l.aa.map bM.cells)),(rd sgA r.ab.length 2 (r.ab.map aG.cells))] (vT [(vA (ag.cells (z9 l r))),(vI (dT l r l.bK))]):=by
 have N:=hin.te
 have J:=hin.s_
 have H:=hin.oY
 have AA:=hin.s7
 have M:=hin.side
 refine bH kr Tryz.func213 U U fun T Q hQ hN=>?_
 try dsimp only
 refine WS fun _ C=>eK U fun O=>eK U fun P=>AL U ed fun R=>bI 1 U<|RK C<|WS fun _ D=>e7 4 [0,1] (mc 2 U (mc 1 U mn)) U<|rS (CL (BU l kA kC az cA cC bA bC r sgA sgC l.bK hin hsl) (bq [3,4,5,6,7]) U)<|bI 3 U<|AL U ed fun S=>fK U c_ U<|bI 1 U<|RK D<|ao fun _ E=>WS fun _ F=>rP 2 [] mn ?_
 refine RK F<|cH U (bu fun A=>?_) (br fun A=>?_)
 ·refine WS fun _ G=>rS (SX (bf (xs:=[]) (cs:=(ag.cells (ag.mk 0 0))) U U (bg gZ U)) U U)<|bI 1 U<|sr U c_ U<|rP 1 [] mn ?_
  refine RK G<|ar<|mQ hQ [0] (mc 1 U mn) U ?_
  (rw [Ds A]<;>rfl)
 refine WK E<|WS fun _ B=>rP 4 [0,1] (mc 0 U (mc 2 U mn)) ?_
 have K:=tT A
 have L:=(vV A).time
 refine e7 6 [0,1] (mc 0 U (mc 2 U mn)) U<|rS (SX (bf (xs:=[(0,.tmp 24),(1,.tmp 29)]) (cs:=(ag.cells (ag.mk (((dK l r l.bK).Lo)-r.Start) (((dK l r l.bK).Hi)-r.Start)))) U U (bg gZ U)) U U)<|sr U c_ U<|rP 1 [] mn ?_
 refine RK B<|ar<|mQ hQ [0] (mc 1 U mn) U ?_
 (rw [zm A,A]<;>rfl)
end
section
open Go.RowKit
theorem l9 (j:cV) (kA:OA) (kC:Nat) (az:List RA) (cA:OA) (cC:Nat) (bA:OA) (bC:Nat) (slA:OA) (slC:Nat) (drA:OA) (drC:Nat) (ha:List dQ) (heA:OA) (heC:Nat) (faA:OA) (faC:Nat) (prA:OA) (prC:Nat) (r:cD) (sgA:OA) (sgC:Nat) (b:Int) (hin:hH j az ha) (hsl:r.ab.length≤1000000):
 dH Tryz.prog 57 [(vA (db.cells (db.mk (dh.mk (di.mk (bT.mk (bG.mk (aR.mk kA j.Race.aj.aL.length kC)) j.Race.aj.eI (aR.mk cA j.Race.aj.ak.length cC) (aR.mk bA j.Race.aj.aa.length bC) j.Race.aj.bK j.Race.aj.dj j.Race.aj.ck) (aR.mk slA j.Race.aT.length slC) (aR.mk drA j.Race.bS.length drC) j.Race.f_ (aR.mk heA j.Race.aB.length heC)) (aR.mk faA j.aC.length faC) (aR.mk prA j.aq.length prC) j.cu j.j2)))),(vA (cU.cells (jE r sgA sgC))),(vI b)] [(rd kA j.Race.aj.aL.length 9 (j.Race.aj.aL.map au.cells)),(rd cA j.Race.aj.ak.length 2 (List.zipWith ax.cells j.Race.aj.ak az)),(d_ (bw ax.gL j.Race.aj.ak az)),(rd bA j.Race.aj.aa.length 4 (j.Race.aj.aa.map bM.cells)),(rd slA j.Race.aT.length 1 (j.Race.aT.map iC)),(rd drA j.Race.bS.length 1 (j.Race.bS.map iC)),(rd heA j.Race.aB.length 1 (List.zipWith dz j.Race.aB ha)),(d_ (bw fy j.Race.aB ha)),(rd faA j.aC.length 4 (j.aC.map aX.cells)),(rd prA j.aq.length 5 (j.aq.map a_.cells)),(rd sgA r.ab.length 2 (r.ab.map aG.cells))] (vA (kE.cells (kE.mk (ag.mk ((cP j.Race.aj r b).Lo) ((cP j.Race.aj r b).Hi)) ((cP j.Race.aj r b).each) ((cP j.Race.aj r b).never)))):=by
 have Y:=hin.race
 have AA:=hin.race.line
 have c:=hin.race.jd
 have d:=hin.race.has
 have Z:=hin.race.ji
 have W:=hin.nf
 have X:=hin.np
 refine bH kr Tryz.func57 U U fun i Q hQ hN=>?_
 try dsimp only
 refine WS fun _ O=>eK U fun e=>eK U fun f=>AL U og fun g=>RK O<|ao fun _ P=>WS fun _ R=>rP 2 [] mn ?_
 refine RK R<|cH U (aV fun B=>?_) (aW fun B=>?_)
 ·refine WS fun _ S=>rP 4 [] (mc 1 U mn) ?_
  refine rS (SX (bf (xs:=[(0,.tmp 15),(1,.tmp 17)]) (cs:=(ag.cells (ag.mk r.Start r.Start))) U U (bg gZ U)) U U)<|rS (SX (bf (xs:=[(0,.tmp 18),(1,.const (vB true)),(2,.const (vB false))]) (cs:=(kE.cells (kE.mk (ag.mk r.Start r.Start) true false))) U U (bg EU U)) U U)<|fK U mG U<|RK S<|ar<|Cs hQ [0] (mc 0 U mn) U ?_
  first|(rw [rT B])|(rw [qN B A])|(rw [pq B A (by rw [mF (ks A I)]; exact c8 C),c8 C])|(rw [nX B A (by rw [mF (ks A I)]; exact bx C),bx C])
 refine WK P<|WS fun _ T=>bI 3 U<|rS (LP (bT.cells (bT.mk (bG.mk (aR.mk kA j.Race.aj.aL.length kC)) j.Race.aj.eI (aR.mk cA j.Race.aj.ak.length cC) (aR.mk bA j.Race.aj.aa.length bC) j.Race.aj.bK j.Race.aj.dj j.Race.aj.ck)) 2 U cq U U U)<|rP 2 [] (mc 1 U mn) ?_
 refine rS (CL (BU j.Race.aj kA kC az cA cC bA bC r sgA sgC b sd hsl) (bq [3,4,5,6,13]) U) ?_
 refine bI 3 U<|AL U ed fun h=>fK U c_ U<|bI 1 U<|RK T<|ao fun _ E=>WS fun _ F=>rP 2 [] mn ?_
 refine RK F<|cH U (bu fun A=>?_) (br fun A=>?_)
 ·refine WS fun _ G=>rS (SX (bf (xs:=[(0,.const (vI 86400000)),(1,.const (vI 86400000))]) (cs:=(ag.cells (ag.mk 86400000 86400000))) U U (bg gZ U)) U U)<|rS (SX (bf (xs:=[(0,.tmp 32),(1,.const (vB false)),(2,.const (vB true))]) (cs:=(kE.cells (kE.mk (ag.mk 86400000 86400000) false true))) U U (bg EU U)) U U)<|sr U mG U<|RK G<|ar<|Cs hQ [0] (mc 1 U mn) U ?_
  first|(rw [rT B])|(rw [qN B A])|(rw [pq B A (by rw [mF (ks A I)]; exact c8 C),c8 C])|(rw [nX B A (by rw [mF (ks A I)]; exact bx C),bx C])
 refine WK E<|WS fun _ H=>bI 3 U<|rS (LP (bT.cells (bT.mk (bG.mk (aR.mk kA j.Race.aj.aL.length kC)) j.Race.aj.eI (aR.mk cA j.Race.aj.ak.length cC) (aR.mk bA j.Race.aj.aa.length bC) j.Race.aj.bK j.Race.aj.dj j.Race.aj.ck)) 3 U cq U U U)<|rP 1 [] (mc 2 U mn) ?_
 refine cX (Me j.Race.aj kA kC az cA cC bA bC r sgA sgC sd hsl) (bq [4,5,6,7,14]) U fun V a=>?_
 obtain ⟨M,N⟩:=V
 try dsimp only
 refine bI 5 U<|RK H<|WS fun _ AB=>rP 1 [] mn ?_
 refine rS (CL (PQ (hP j.Race.aj r) M N (by exact DM (ks A I)) (by have:=Dg (l:=j.Race.aj) (r:=r); omega)) (aJ (aQ (n:=(hP j.Race.aj r).length) 0 U sm)<|aK) U) ?_
 refine bI 3 U<|RK AB<|ao fun _ D=>WS fun _ J=>rP 2 [] mn ?_
 refine RK J<|bV U (br fun C=>?_) (bu fun C=>?_)
 ·refine WK D<|WS fun _ L=>rP 2 [] (mc 1 U mn) ?_
  refine rS (SX (bf (xs:=[(0,.tmp 50),(1,.tmp 51),(2,.const (vB false))]) (cs:=(kE.cells (kE.mk (dK j.Race.aj r b) (decide (b<(nB (hP j.Race.aj r)))) false))) U U (bg EU U)) U U)<|G3 U mG U<|RK L<|ar<|Cs hQ [0] (mc 2 U mn) U ?_
  first|(rw [rT B])|(rw [qN B A])|(rw [pq B A (by rw [mF (ks A I)]; exact c8 C),c8 C])|(rw [nX B A (by rw [mF (ks A I)]; exact bx C),bx C])
 refine av<|bI 1 U<|Uv (ag.cells (ag.mk ((dK j.Race.aj r b).Lo) 86400000)) U Eg U U<|RK D<|WS fun _ K=>rP 2 [] (mc 1 U mn) ?_
 refine rS (SX (bf (xs:=[(0,.tmp 50),(1,.tmp 51),(2,.const (vB false))]) (cs:=(kE.cells (kE.mk (ag.mk ((dK j.Race.aj r b).Lo) 86400000) (decide (b<(nB (hP j.Race.aj r)))) false))) U U (bg EU U)) U U)<|G3 U mG U<|RK K<|ar<|Cs hQ [0] (mc 2 U mn) U ?_
 first|(rw [rT B])|(rw [qN B A])|(rw [pq B A (by rw [mF (ks A I)]; exact c8 C),c8 C])|(rw [nX B A (by rw [mF (ks A I)]; exact bx C),bx C])
end
section
open Go.RowKit
theorem IH (j:cV) (kA:OA) (kC:Nat) (az:List RA) (cA:OA) (cC:Nat) (bA:OA) (bC:Nat) (slA:OA) (slC:Nat) (drA:OA) (drC:Nat) (ha:List dQ) (heA:OA) (heC:Nat) (faA:OA) (faC:Nat) (prA:OA) (prC:Nat) (fw ff ft:Int) (d:ay) (sgA:OA) (sgC:Nat) (hin:hH j az ha) (hw:0≤fw∧fw≤1000000) (hsl:d.bD.ab.length≤1000000):
 dH Tryz.prog 34 [(vA (db.cells (db.mk (dh.mk (di.mk (bT.mk (bG.mk (aR.mk kA j.Race.aj.aL.length kC)) j.Race.aj.eI (aR.mk cA j.Race.aj.ak.length cC) (aR.mk bA j.Race.aj.aa.length bC) j.Race.aj.bK j.Race.aj.dj j.Race.aj.ck) (aR.mk slA j.Race.aT.length slC) (aR.mk drA j.Race.bS.length drC) j.Race.f_ (aR.mk heA j.Race.aB.length heC)) (aR.mk faA j.aC.length faC) (aR.mk prA j.aq.length prC) j.cu j.j2)))),(vA (aX.cells (aX.mk 1 fw ff ft))),(vA (aO.cells (aO.mk d.Out d.dx d.Time (jE d.bD sgA sgC))))] [(rd kA j.Race.aj.aL.length 9 (j.Race.aj.aL.map au.cells)),(rd cA j.Race.aj.ak.length 2 (List.zipWith ax.cells j.Race.aj.ak az)),(d_ (bw ax.gL j.Race.aj.ak az)),(rd bA j.Race.aj.aa.length 4 (j.Race.aj.aa.map bM.cells)),(rd slA j.Race.aT.length 1 (j.Race.aT.map iC)),(rd drA j.Race.bS.length 1 (j.Race.bS.map iC)),(rd heA j.Race.aB.length 1 (List.zipWith dz j.Race.aB ha)),(d_ (bw fy j.Race.aB ha)),(rd faA j.aC.length 4 (j.aC.map aX.cells)),(rd prA j.aq.length 5 (j.aq.map a_.cells)),(rd sgA d.bD.ab.length 2 (d.bD.ab.map aG.cells))] (Value.int .u8 (g4 j.Race.aj (aX.mk 1 fw ff ft) d)):=by
 have l:=hin.race
 have h:=hin.race.line
 have r:=hin.race.jd
 have s:=hin.race.has
 have m:=hin.race.ji
 have i:=hin.nf
 have k:=hin.np
 refine bH kr Tryz.func34 U U fun u Q hQ hN=>?_
 try dsimp only
 refine WS fun _ a=>eK U fun n=>eK U fun o=>eK U fun p=>bI 1 U<|RK a<|ao fun _ b=>WS fun _ c=>e7 1 [] (mc 0 U mn) U<|rS (CL (tL d.Out d.dx d.Time (jE d.bD sgA sgC)) (aK) U)<|rP 1 [] mn ?_
 refine RK c<|cH U (bu fun F=>?_) (br fun F=>?_)
 ·refine WS fun _ e=>rP 1 [] mn ?_
  refine RK e<|ar<|Q1 hQ U U U ?_
  first|(rw [cN (fun q=>F q)]; done)|(rw [jy rfl F]; first|(rw [a7 (.inl B)]; done)|(rw [a7 (.inr (.inl C))]; done)|(rw [a7 (.inr (.inr A))]; done)|(rw [dp (gS (by simpa using B) (by first|exact C|(simp only []; omega)) (by first|exact A|(simp only []; omega))) E ((cZ (show ¬ (1:Int)=3 by decide)).2 D)]; done)|(rw [bL (gS (by simpa using B) (by first|exact C|(simp only []; omega)) (by first|exact A|(simp only []; omega))) (fun q=>by rw [E] at q; exact Bool.noConfusion q.1)]; done)|(rw [bL (gS (by simpa using B) (by first|exact C|(simp only []; omega)) (by first|exact A|(simp only []; omega))) (fun q=>D ((cZ (show ¬ (1:Int)=3 by decide)).1 q.2))]; done))
 refine WK b<|ao fun _ f=>dV cx [4,5] [] [] [0,1,2,3,4,5,6,7,8,9,10,11,12,13] [] U U U U U<|eS U (CL xr (aK) U)<|eS U (FA 0 U fT U)<|eS U (L1 (Value.int .u8 1) 1 U cq U U)<|eS U (SX (uA (vs:=(eW.cells (eW.mk (Value.func (.func 84) [].toArray [].toArray) (Value.func (.func 83) [].toArray [].toArray)))) 1 U U U Hw cq U dc U) U U)<|eJ U<|cv U fun T9 g=>AL U JZ fun X=>aH (g _ _ (aU [1,2,3,4,5,6,7,8,9,10,11,12,13,14]) ?_)
 refine cv U fun T11 W=>fK U I5 U<|aH (W _ _ (aU [1,2,3,4,5,6,7,8,9,10,11,12,13,14]) ?_)
 refine fY U<|KK f<|WS fun _ V=>e7 4 [0,1,2] (mc 0 U (mc 3 U (mc 2 U mn))) U<|rS (CL (PB j kA kC cA cC bA bC slA slC drA drC heA heC faA faC prA prC 1 fw ff ft) (aK) U)<|rP 5 [] mn ?_
 refine RK V<|ao fun _ AA=>mx cx [0,1,2,3,4,5,6,7,8,9] [10,11,12,13] [false,false,false,false,false,false,false,false,false,false] [] [(cw X 132 (eW.cells (eW.mk (Value.func (.func 84) [].toArray [].toArray) (Value.func (.func 83) [].toArray [].toArray)))),(cw p 58 (aO.cells (aO.mk d.Out d.dx d.Time (jE d.bD sgA sgC)))),(cw o 80 (aX.cells (aX.mk 1 fw ff ft))),(cw n 93 (db.cells (db.mk (dh.mk (di.mk (bT.mk (bG.mk (aR.mk kA j.Race.aj.aL.length kC)) j.Race.aj.eI (aR.mk cA j.Race.aj.ak.length cC) (aR.mk bA j.Race.aj.aa.length bC) j.Race.aj.bK j.Race.aj.dj j.Race.aj.ck) (aR.mk slA j.Race.aT.length slC) (aR.mk drA j.Race.bS.length drC) j.Race.f_ (aR.mk heA j.Race.aB.length heC)) (aR.mk faA j.aC.length faC) (aR.mk prA j.aq.length prC) j.cu j.j2)))),(rd kA j.Race.aj.aL.length 9 (j.Race.aj.aL.map au.cells)).ro,(rd cA j.Race.aj.ak.length 2 (List.zipWith ax.cells j.Race.aj.ak az)).ro,(d_ (bw ax.gL j.Race.aj.ak az)).ro,(rd bA j.Race.aj.aa.length 4 (j.Race.aj.aa.map bM.cells)).ro,(rd slA j.Race.aT.length 1 (j.Race.aT.map iC)).ro,(rd drA j.Race.bS.length 1 (j.Race.bS.map iC)).ro,(rd heA j.Race.aB.length 1 (List.zipWith dz j.Race.aB ha)).ro,(d_ (bw fy j.Race.aB ha)).ro,(rd faA j.aC.length 4 (j.aC.map aX.cells)).ro,(rd prA j.aq.length 5 (j.aq.map a_.cells)).ro,(rd sgA d.bD.ab.length 2 (d.bD.ab.map aG.cells)).ro] [] kr (aU [0,1,2,3,4,5,6,7,8,9,10,11,12,13,14]) (aU [])<|eS U (LW 3 U cq U U)<|eS U (FA 4 U fT U)<|eS U (LP (cU.cells (jE d.bD sgA sgC)) 1 U cq U U U)<|eS U (MV U)<|eS U (CL (l9 j kA kC az cA cC bA bC slA slC drA drC ha heA heC faA faC prA prC d.bD sgA sgC (-1) hin hsl) (bq [4,5,6,7,8,9,10,11,12,13,14]) U)<|eS U (LW 3 U cq U U)<|eS U (FA 4 U fT U)<|eS U (LP (cU.cells (jE d.bD sgA sgC)) 1 U cq U U U)<|eS U (MV U)<|eS U (CL (l9 j kA kC az cA cC bA bC slA slC drA drC ha heA heC faA faC prA prC d.bD sgA sgC j.Race.aj.bK hin hsl) (bq [4,5,6,7,8,9,10,11,12,13,14]) U)<|eJ U<|mS [10,11] kr (iO ?_<|iO ?_<|qm)
 rotate_left 1
 ·refine NO U U [10,12,13] fun T14 P=>AL U og fun Y=>RD P 1 U<|N1 10<|NO U U [12,13] fun T16 R=>AL U og fun Z=>RD R 2 U<|N1 12<|NO U U [13] fun T18 S=>fK U mG U<|RD S 2 U<|N1 13<|NO U U [] fun T19 T=>sr U mG U<|RD T 2 U<|lS<|KK AA<|ao fun _ H=>aF<|WS fun _ G=>rP 3 [] (mc 0 U mn) ?_
  refine cg (t:=40) U (fun B=>?_) (fun B=>?_)
  ·refine bI 16 U<|RK G<|aS U<|WS fun _ J=>rP 1 [] mn ?_
   refine RK J<|ar<|Q1 hQ U U U ?_
   first|(rw [cN (fun q=>F q)]; done)|(rw [jy rfl F]; first|(rw [a7 (.inl B)]; done)|(rw [a7 (.inr (.inl C))]; done)|(rw [a7 (.inr (.inr A))]; done)|(rw [dp (gS (by simpa using B) (by first|exact C|(simp only []; omega)) (by first|exact A|(simp only []; omega))) E ((cZ (show ¬ (1:Int)=3 by decide)).2 D)]; done)|(rw [bL (gS (by simpa using B) (by first|exact C|(simp only []; omega)) (by first|exact A|(simp only []; omega))) (fun q=>by rw [E] at q; exact Bool.noConfusion q.1)]; done)|(rw [bL (gS (by simpa using B) (by first|exact C|(simp only []; omega)) (by first|exact A|(simp only []; omega))) (fun q=>D ((cZ (show ¬ (1:Int)=3 by decide)).1 q.2))]; done))
  refine rP 8 [0,1] (mc 0 U (mc 4 U mn)) ?_
  refine cg (t:=48) U (aV fun C=>?_) (aW fun C=>?_)
  ·refine bI 8 U<|RK G<|aS U<|WS fun _ K=>rP 1 [] mn ?_
   refine RK K<|ar<|Q1 hQ U U U ?_
   first|(rw [cN (fun q=>F q)]; done)|(rw [jy rfl F]; first|(rw [a7 (.inl B)]; done)|(rw [a7 (.inr (.inl C))]; done)|(rw [a7 (.inr (.inr A))]; done)|(rw [dp (gS (by simpa using B) (by first|exact C|(simp only []; omega)) (by first|exact A|(simp only []; omega))) E ((cZ (show ¬ (1:Int)=3 by decide)).2 D)]; done)|(rw [bL (gS (by simpa using B) (by first|exact C|(simp only []; omega)) (by first|exact A|(simp only []; omega))) (fun q=>by rw [E] at q; exact Bool.noConfusion q.1)]; done)|(rw [bL (gS (by simpa using B) (by first|exact C|(simp only []; omega)) (by first|exact A|(simp only []; omega))) (fun q=>D ((cZ (show ¬ (1:Int)=3 by decide)).1 q.2))]; done))
  refine rP 8 [0,1] (mc 1 U (mc 4 U mn)) ?_
  refine RK G<|cH U (aV fun A=>?_) (aW fun A=>?_)
  ·refine WS fun _ L=>rP 1 [] mn ?_
   refine RK L<|ar<|Q1 hQ U U U ?_
   first|(rw [cN (fun q=>F q)]; done)|(rw [jy rfl F]; first|(rw [a7 (.inl B)]; done)|(rw [a7 (.inr (.inl C))]; done)|(rw [a7 (.inr (.inr A))]; done)|(rw [dp (gS (by simpa using B) (by first|exact C|(simp only []; omega)) (by first|exact A|(simp only []; omega))) E ((cZ (show ¬ (1:Int)=3 by decide)).2 D)]; done)|(rw [bL (gS (by simpa using B) (by first|exact C|(simp only []; omega)) (by first|exact A|(simp only []; omega))) (fun q=>by rw [E] at q; exact Bool.noConfusion q.1)]; done)|(rw [bL (gS (by simpa using B) (by first|exact C|(simp only []; omega)) (by first|exact A|(simp only []; omega))) (fun q=>D ((cZ (show ¬ (1:Int)=3 by decide)).1 q.2))]; done))
  refine WS fun _ AB=>rP 3 [] (mc 0 U mn) ?_
  refine cM (t:=59) U (fun E=>?_) (fun E=>?_)
  ·refine bI 8 U<|RK AB<|cp U<|ct<|aN<|KK H<|WS fun _ O=>rP 1 [] mn ?_
   refine RK O<|ar<|Q1 hQ U U U ?_
   first|(rw [cN (fun q=>F q)]; done)|(rw [jy rfl F]; first|(rw [a7 (.inl B)]; done)|(rw [a7 (.inr (.inl C))]; done)|(rw [a7 (.inr (.inr A))]; done)|(rw [dp (gS (by simpa using B) (by first|exact C|(simp only []; omega)) (by first|exact A|(simp only []; omega))) E ((cZ (show ¬ (1:Int)=3 by decide)).2 D)]; done)|(rw [bL (gS (by simpa using B) (by first|exact C|(simp only []; omega)) (by first|exact A|(simp only []; omega))) (fun q=>by rw [E] at q; exact Bool.noConfusion q.1)]; done)|(rw [bL (gS (by simpa using B) (by first|exact C|(simp only []; omega)) (by first|exact A|(simp only []; omega))) (fun q=>D ((cZ (show ¬ (1:Int)=3 by decide)).1 q.2))]; done))
  refine e7 5 [0,1,2,3] (mc 2 U (mc 4 U (mc 0 U (mc 1 U mn)))) U<|rS (CL (tM 1 fw ff ft ((cP j.Race.aj d.bD (-1)).Lo) ((cP j.Race.aj d.bD (-1)).Hi) ((cP j.Race.aj d.bD (-1)).each) ((cP j.Race.aj d.bD (-1)).never) ((cP j.Race.aj d.bD j.Race.aj.bK).Lo) ((cP j.Race.aj d.bD j.Race.aj.bK).Hi) ((cP j.Race.aj d.bD j.Race.aj.bK).each) ((cP j.Race.aj d.bD j.Race.aj.bK).never)) (aK) U)<|rP 2 [] mn ?_
  refine RK AB<|cH U (aV fun D=>?_) (aW fun D=>?_)
  ·refine WS fun _ M=>rP 1 [] mn ?_
   refine RK M<|ar<|Q1 hQ U U U ?_
   first|(rw [cN (fun q=>F q)]; done)|(rw [jy rfl F]; first|(rw [a7 (.inl B)]; done)|(rw [a7 (.inr (.inl C))]; done)|(rw [a7 (.inr (.inr A))]; done)|(rw [dp (gS (by simpa using B) (by first|exact C|(simp only []; omega)) (by first|exact A|(simp only []; omega))) E ((cZ (show ¬ (1:Int)=3 by decide)).2 D)]; done)|(rw [bL (gS (by simpa using B) (by first|exact C|(simp only []; omega)) (by first|exact A|(simp only []; omega))) (fun q=>by rw [E] at q; exact Bool.noConfusion q.1)]; done)|(rw [bL (gS (by simpa using B) (by first|exact C|(simp only []; omega)) (by first|exact A|(simp only []; omega))) (fun q=>D ((cZ (show ¬ (1:Int)=3 by decide)).1 q.2))]; done))
  refine ct<|aN<|KK H<|WS fun _ N=>rP 1 [] mn ?_
  refine RK N<|ar<|Q1 hQ U U U ?_
  first|(rw [cN (fun q=>F q)]; done)|(rw [jy rfl F]; first|(rw [a7 (.inl B)]; done)|(rw [a7 (.inr (.inl C))]; done)|(rw [a7 (.inr (.inr A))]; done)|(rw [dp (gS (by simpa using B) (by first|exact C|(simp only []; omega)) (by first|exact A|(simp only []; omega))) E ((cZ (show ¬ (1:Int)=3 by decide)).2 D)]; done)|(rw [bL (gS (by simpa using B) (by first|exact C|(simp only []; omega)) (by first|exact A|(simp only []; omega))) (fun q=>by rw [E] at q; exact Bool.noConfusion q.1)]; done)|(rw [bL (gS (by simpa using B) (by first|exact C|(simp only []; omega)) (by first|exact A|(simp only []; omega))) (fun q=>D ((cZ (show ¬ (1:Int)=3 by decide)).1 q.2))]; done))
 refine NO U U [11,12,13] fun T14 P=>AL U og fun Y=>RD P 1 U<|N1 11<|NO U U [12,13] fun T16 R=>AL U og fun Z=>RD R 2 U<|N1 12<|NO U U [13] fun T18 S=>sr U mG U<|RD S 2 U<|N1 13<|NO U U [] fun T19 T=>fK U mG U<|RD T 2 U<|lS<|KK AA<|ao fun _ H=>aF<|WS fun _ G=>rP 3 [] (mc 1 U mn) ?_
 refine cg (t:=40) U (fun B=>?_) (fun B=>?_)
 ·refine bI 16 U<|RK G<|aS U<|WS fun _ J=>rP 1 [] mn ?_
  refine RK J<|ar<|Q1 hQ U U U ?_
  first|(rw [cN (fun q=>F q)]; done)|(rw [jy rfl F]; first|(rw [a7 (.inl B)]; done)|(rw [a7 (.inr (.inl C))]; done)|(rw [a7 (.inr (.inr A))]; done)|(rw [dp (gS (by simpa using B) (by first|exact C|(simp only []; omega)) (by first|exact A|(simp only []; omega))) E ((cZ (show ¬ (1:Int)=3 by decide)).2 D)]; done)|(rw [bL (gS (by simpa using B) (by first|exact C|(simp only []; omega)) (by first|exact A|(simp only []; omega))) (fun q=>by rw [E] at q; exact Bool.noConfusion q.1)]; done)|(rw [bL (gS (by simpa using B) (by first|exact C|(simp only []; omega)) (by first|exact A|(simp only []; omega))) (fun q=>D ((cZ (show ¬ (1:Int)=3 by decide)).1 q.2))]; done))
 refine rP 8 [0,1] (mc 1 U (mc 4 U mn)) ?_
 refine cg (t:=48) U (aV fun C=>?_) (aW fun C=>?_)
 ·refine bI 8 U<|RK G<|aS U<|WS fun _ K=>rP 1 [] mn ?_
  refine RK K<|ar<|Q1 hQ U U U ?_
  first|(rw [cN (fun q=>F q)]; done)|(rw [jy rfl F]; first|(rw [a7 (.inl B)]; done)|(rw [a7 (.inr (.inl C))]; done)|(rw [a7 (.inr (.inr A))]; done)|(rw [dp (gS (by simpa using B) (by first|exact C|(simp only []; omega)) (by first|exact A|(simp only []; omega))) E ((cZ (show ¬ (1:Int)=3 by decide)).2 D)]; done)|(rw [bL (gS (by simpa using B) (by first|exact C|(simp only []; omega)) (by first|exact A|(simp only []; omega))) (fun q=>by rw [E] at q; exact Bool.noConfusion q.1)]; done)|(rw [bL (gS (by simpa using B) (by first|exact C|(simp only []; omega)) (by first|exact A|(simp only []; omega))) (fun q=>D ((cZ (show ¬ (1:Int)=3 by decide)).1 q.2))]; done))
 refine rP 8 [0,1] (mc 0 U (mc 4 U mn)) ?_
 refine RK G<|cH U (aV fun A=>?_) (aW fun A=>?_)
 ·refine WS fun _ L=>rP 1 [] mn ?_
  refine RK L<|ar<|Q1 hQ U U U ?_
  first|(rw [cN (fun q=>F q)]; done)|(rw [jy rfl F]; first|(rw [a7 (.inl B)]; done)|(rw [a7 (.inr (.inl C))]; done)|(rw [a7 (.inr (.inr A))]; done)|(rw [dp (gS (by simpa using B) (by first|exact C|(simp only []; omega)) (by first|exact A|(simp only []; omega))) E ((cZ (show ¬ (1:Int)=3 by decide)).2 D)]; done)|(rw [bL (gS (by simpa using B) (by first|exact C|(simp only []; omega)) (by first|exact A|(simp only []; omega))) (fun q=>by rw [E] at q; exact Bool.noConfusion q.1)]; done)|(rw [bL (gS (by simpa using B) (by first|exact C|(simp only []; omega)) (by first|exact A|(simp only []; omega))) (fun q=>D ((cZ (show ¬ (1:Int)=3 by decide)).1 q.2))]; done))
 refine WS fun _ AB=>rP 3 [] (mc 1 U mn) ?_
 refine cM (t:=59) U (fun E=>?_) (fun E=>?_)
 ·refine bI 8 U<|RK AB<|cp U<|ct<|aN<|KK H<|WS fun _ O=>rP 1 [] mn ?_
  refine RK O<|ar<|Q1 hQ U U U ?_
  first|(rw [cN (fun q=>F q)]; done)|(rw [jy rfl F]; first|(rw [a7 (.inl B)]; done)|(rw [a7 (.inr (.inl C))]; done)|(rw [a7 (.inr (.inr A))]; done)|(rw [dp (gS (by simpa using B) (by first|exact C|(simp only []; omega)) (by first|exact A|(simp only []; omega))) E ((cZ (show ¬ (1:Int)=3 by decide)).2 D)]; done)|(rw [bL (gS (by simpa using B) (by first|exact C|(simp only []; omega)) (by first|exact A|(simp only []; omega))) (fun q=>by rw [E] at q; exact Bool.noConfusion q.1)]; done)|(rw [bL (gS (by simpa using B) (by first|exact C|(simp only []; omega)) (by first|exact A|(simp only []; omega))) (fun q=>D ((cZ (show ¬ (1:Int)=3 by decide)).1 q.2))]; done))
 refine e7 5 [0,1,2,3] (mc 2 U (mc 4 U (mc 1 U (mc 0 U mn)))) U<|rS (CL (tM 1 fw ff ft ((cP j.Race.aj d.bD (-1)).Lo) ((cP j.Race.aj d.bD (-1)).Hi) ((cP j.Race.aj d.bD (-1)).each) ((cP j.Race.aj d.bD (-1)).never) ((cP j.Race.aj d.bD j.Race.aj.bK).Lo) ((cP j.Race.aj d.bD j.Race.aj.bK).Hi) ((cP j.Race.aj d.bD j.Race.aj.bK).each) ((cP j.Race.aj d.bD j.Race.aj.bK).never)) (aK) U)<|rP 2 [] mn ?_
 refine RK AB<|cH U (aV fun D=>?_) (aW fun D=>?_)
 ·refine WS fun _ M=>rP 1 [] mn ?_
  refine RK M<|ar<|Q1 hQ U U U ?_
  first|(rw [cN (fun q=>F q)]; done)|(rw [jy rfl F]; first|(rw [a7 (.inl B)]; done)|(rw [a7 (.inr (.inl C))]; done)|(rw [a7 (.inr (.inr A))]; done)|(rw [dp (gS (by simpa using B) (by first|exact C|(simp only []; omega)) (by first|exact A|(simp only []; omega))) E ((cZ (show ¬ (1:Int)=3 by decide)).2 D)]; done)|(rw [bL (gS (by simpa using B) (by first|exact C|(simp only []; omega)) (by first|exact A|(simp only []; omega))) (fun q=>by rw [E] at q; exact Bool.noConfusion q.1)]; done)|(rw [bL (gS (by simpa using B) (by first|exact C|(simp only []; omega)) (by first|exact A|(simp only []; omega))) (fun q=>D ((cZ (show ¬ (1:Int)=3 by decide)).1 q.2))]; done))
 refine ct<|aN<|KK H<|WS fun _ N=>rP 1 [] mn ?_
 refine RK N<|ar<|Q1 hQ U U U ?_
 first|(rw [cN (fun q=>F q)]; done)|(rw [jy rfl F]; first|(rw [a7 (.inl B)]; done)|(rw [a7 (.inr (.inl C))]; done)|(rw [a7 (.inr (.inr A))]; done)|(rw [dp (gS (by simpa using B) (by first|exact C|(simp only []; omega)) (by first|exact A|(simp only []; omega))) E ((cZ (show ¬ (1:Int)=3 by decide)).2 D)]; done)|(rw [bL (gS (by simpa using B) (by first|exact C|(simp only []; omega)) (by first|exact A|(simp only []; omega))) (fun q=>by rw [E] at q; exact Bool.noConfusion q.1)]; done)|(rw [bL (gS (by simpa using B) (by first|exact C|(simp only []; omega)) (by first|exact A|(simp only []; omega))) (fun q=>D ((cZ (show ¬ (1:Int)=3 by decide)).1 q.2))]; done))
theorem Ju (j:cV) (kA:OA) (kC:Nat) (az:List RA) (cA:OA) (cC:Nat) (bA:OA) (bC:Nat) (slA:OA) (slC:Nat) (drA:OA) (drC:Nat) (ha:List dQ) (heA:OA) (heC:Nat) (faA:OA) (faC:Nat) (prA:OA) (prC:Nat) (fw ff ft:Int) (d:ay) (sgA:OA) (sgC:Nat) (hin:hH j az ha) (hw:0≤fw∧fw≤1000000) (hsl:d.bD.ab.length≤1000000):
 dH Tryz.prog 34 [(vA (db.cells (db.mk (dh.mk (di.mk (bT.mk (bG.mk (aR.mk kA j.Race.aj.aL.length kC)) j.Race.aj.eI (aR.mk cA j.Race.aj.ak.length cC) (aR.mk bA j.Race.aj.aa.length bC) j.Race.aj.bK j.Race.aj.dj j.Race.aj.ck) (aR.mk slA j.Race.aT.length slC) (aR.mk drA j.Race.bS.length drC) j.Race.f_ (aR.mk heA j.Race.aB.length heC)) (aR.mk faA j.aC.length faC) (aR.mk prA j.aq.length prC) j.cu j.j2)))),(vA (aX.cells (aX.mk 2 fw ff ft))),(vA (aO.cells (aO.mk d.Out d.dx d.Time (jE d.bD sgA sgC))))] [(rd kA j.Race.aj.aL.length 9 (j.Race.aj.aL.map au.cells)),(rd cA j.Race.aj.ak.length 2 (List.zipWith ax.cells j.Race.aj.ak az)),(d_ (bw ax.gL j.Race.aj.ak az)),(rd bA j.Race.aj.aa.length 4 (j.Race.aj.aa.map bM.cells)),(rd slA j.Race.aT.length 1 (j.Race.aT.map iC)),(rd drA j.Race.bS.length 1 (j.Race.bS.map iC)),(rd heA j.Race.aB.length 1 (List.zipWith dz j.Race.aB ha)),(d_ (bw fy j.Race.aB ha)),(rd faA j.aC.length 4 (j.aC.map aX.cells)),(rd prA j.aq.length 5 (j.aq.map a_.cells)),(rd sgA d.bD.ab.length 2 (d.bD.ab.map aG.cells))] (Value.int .u8 (g4 j.Race.aj (aX.mk 2 fw ff ft) d)):=by
 have l:=hin.race
 have h:=hin.race.line
 have r:=hin.race.jd
 have s:=hin.race.has
 have m:=hin.race.ji
 have i:=hin.nf
 have k:=hin.np
 refine bH kr Tryz.func34 U U fun u Q hQ hN=>?_
 try dsimp only
 refine WS fun _ a=>eK U fun n=>eK U fun o=>eK U fun p=>bI 1 U<|RK a<|ao fun _ b=>WS fun _ c=>e7 1 [] (mc 0 U mn) U<|rS (CL (tL d.Out d.dx d.Time (jE d.bD sgA sgC)) (aK) U)<|rP 1 [] mn ?_
 refine RK c<|cH U (bu fun F=>?_) (br fun F=>?_)
 ·refine WS fun _ e=>rP 1 [] mn ?_
  refine RK e<|ar<|Q1 hQ U U U ?_
  first|(rw [cN (fun q=>F q)]; done)|(rw [jD rfl F]; first|(rw [a7 (.inl B)]; done)|(rw [a7 (.inr (.inl C))]; done)|(rw [a7 (.inr (.inr A))]; done)|(rw [dp (gS (by simpa using B) (by first|exact C|(simp only []; omega)) (by first|exact A|(simp only []; omega))) E ((cZ (show ¬ (2:Int)=3 by decide)).2 D)]; done)|(rw [bL (gS (by simpa using B) (by first|exact C|(simp only []; omega)) (by first|exact A|(simp only []; omega))) (fun q=>by rw [E] at q; exact Bool.noConfusion q.1)]; done)|(rw [bL (gS (by simpa using B) (by first|exact C|(simp only []; omega)) (by first|exact A|(simp only []; omega))) (fun q=>D ((cZ (show ¬ (2:Int)=3 by decide)).1 q.2))]; done))
 refine WK b<|ao fun _ f=>dV cx [4,5] [] [] [0,1,2,3,4,5,6,7,8,9,10,11,12,13] [] U U U U U<|eS U (CL xr (aK) U)<|eS U (FA 0 U fT U)<|eS U (L1 (Value.int .u8 2) 1 U cq U U)<|eS U (SX (uA (vs:=(eW.cells (eW.mk (Value.func (.func 85) [].toArray [].toArray) (Value.func (.func 83) [].toArray [].toArray)))) 2 U U U Hw cq U dc U) U U)<|eJ U<|cv U fun T9 g=>AL U JZ fun X=>aH (g _ _ (aU [1,2,3,4,5,6,7,8,9,10,11,12,13,14]) ?_)
 refine cv U fun T11 W=>fK U I5 U<|aH (W _ _ (aU [1,2,3,4,5,6,7,8,9,10,11,12,13,14]) ?_)
 refine fY U<|KK f<|WS fun _ V=>e7 4 [0,1,2] (mc 0 U (mc 3 U (mc 2 U mn))) U<|rS (CL (RP j kA kC cA cC bA bC slA slC drA drC heA heC faA faC prA prC 2 fw ff ft hw) (aK) U)<|rP 5 [] mn ?_
 refine RK V<|ao fun _ AA=>mx cx [0,1,2,3,4,5,6,7,8,9] [10,11,12,13] [false,false,false,false,false,false,false,false,false,false] [] [(cw X 132 (eW.cells (eW.mk (Value.func (.func 85) [].toArray [].toArray) (Value.func (.func 83) [].toArray [].toArray)))),(cw p 58 (aO.cells (aO.mk d.Out d.dx d.Time (jE d.bD sgA sgC)))),(cw o 80 (aX.cells (aX.mk 2 fw ff ft))),(cw n 93 (db.cells (db.mk (dh.mk (di.mk (bT.mk (bG.mk (aR.mk kA j.Race.aj.aL.length kC)) j.Race.aj.eI (aR.mk cA j.Race.aj.ak.length cC) (aR.mk bA j.Race.aj.aa.length bC) j.Race.aj.bK j.Race.aj.dj j.Race.aj.ck) (aR.mk slA j.Race.aT.length slC) (aR.mk drA j.Race.bS.length drC) j.Race.f_ (aR.mk heA j.Race.aB.length heC)) (aR.mk faA j.aC.length faC) (aR.mk prA j.aq.length prC) j.cu j.j2)))),(rd kA j.Race.aj.aL.length 9 (j.Race.aj.aL.map au.cells)).ro,(rd cA j.Race.aj.ak.length 2 (List.zipWith ax.cells j.Race.aj.ak az)).ro,(d_ (bw ax.gL j.Race.aj.ak az)).ro,(rd bA j.Race.aj.aa.length 4 (j.Race.aj.aa.map bM.cells)).ro,(rd slA j.Race.aT.length 1 (j.Race.aT.map iC)).ro,(rd drA j.Race.bS.length 1 (j.Race.bS.map iC)).ro,(rd heA j.Race.aB.length 1 (List.zipWith dz j.Race.aB ha)).ro,(d_ (bw fy j.Race.aB ha)).ro,(rd faA j.aC.length 4 (j.aC.map aX.cells)).ro,(rd prA j.aq.length 5 (j.aq.map a_.cells)).ro,(rd sgA d.bD.ab.length 2 (d.bD.ab.map aG.cells)).ro] [] kr (aU [0,1,2,3,4,5,6,7,8,9,10,11,12,13,14]) (aU [])<|eS U (LW 3 U cq U U)<|eS U (FA 4 U fT U)<|eS U (LP (cU.cells (jE d.bD sgA sgC)) 1 U cq U U U)<|eS U (MV U)<|eS U (CL (l9 j kA kC az cA cC bA bC slA slC drA drC ha heA heC faA faC prA prC d.bD sgA sgC (fw-1) hin hsl) (bq [4,5,6,7,8,9,10,11,12,13,14]) U)<|eS U (LW 3 U cq U U)<|eS U (FA 4 U fT U)<|eS U (LP (cU.cells (jE d.bD sgA sgC)) 1 U cq U U U)<|eS U (MV U)<|eS U (CL (l9 j kA kC az cA cC bA bC slA slC drA drC ha heA heC faA faC prA prC d.bD sgA sgC fw hin hsl) (bq [4,5,6,7,8,9,10,11,12,13,14]) U)<|eJ U<|mS [10,11] kr (iO ?_<|iO ?_<|qm)
 rotate_left 1
 ·refine NO U U [10,12,13] fun T14 P=>AL U og fun Y=>RD P 1 U<|N1 10<|NO U U [12,13] fun T16 R=>AL U og fun Z=>RD R 2 U<|N1 12<|NO U U [13] fun T18 S=>fK U mG U<|RD S 2 U<|N1 13<|NO U U [] fun T19 T=>sr U mG U<|RD T 2 U<|lS<|KK AA<|ao fun _ H=>aF<|WS fun _ G=>rP 3 [] (mc 0 U mn) ?_
  refine cg (t:=40) U (fun B=>?_) (fun B=>?_)
  ·refine bI 16 U<|RK G<|aS U<|WS fun _ J=>rP 1 [] mn ?_
   refine RK J<|ar<|Q1 hQ U U U ?_
   first|(rw [cN (fun q=>F q)]; done)|(rw [jD rfl F]; first|(rw [a7 (.inl B)]; done)|(rw [a7 (.inr (.inl C))]; done)|(rw [a7 (.inr (.inr A))]; done)|(rw [dp (gS (by simpa using B) (by first|exact C|(simp only []; omega)) (by first|exact A|(simp only []; omega))) E ((cZ (show ¬ (2:Int)=3 by decide)).2 D)]; done)|(rw [bL (gS (by simpa using B) (by first|exact C|(simp only []; omega)) (by first|exact A|(simp only []; omega))) (fun q=>by rw [E] at q; exact Bool.noConfusion q.1)]; done)|(rw [bL (gS (by simpa using B) (by first|exact C|(simp only []; omega)) (by first|exact A|(simp only []; omega))) (fun q=>D ((cZ (show ¬ (2:Int)=3 by decide)).1 q.2))]; done))
  refine rP 8 [0,1] (mc 0 U (mc 4 U mn)) ?_
  refine cg (t:=48) U (aV fun C=>?_) (aW fun C=>?_)
  ·refine bI 8 U<|RK G<|aS U<|WS fun _ K=>rP 1 [] mn ?_
   refine RK K<|ar<|Q1 hQ U U U ?_
   first|(rw [cN (fun q=>F q)]; done)|(rw [jD rfl F]; first|(rw [a7 (.inl B)]; done)|(rw [a7 (.inr (.inl C))]; done)|(rw [a7 (.inr (.inr A))]; done)|(rw [dp (gS (by simpa using B) (by first|exact C|(simp only []; omega)) (by first|exact A|(simp only []; omega))) E ((cZ (show ¬ (2:Int)=3 by decide)).2 D)]; done)|(rw [bL (gS (by simpa using B) (by first|exact C|(simp only []; omega)) (by first|exact A|(simp only []; omega))) (fun q=>by rw [E] at q; exact Bool.noConfusion q.1)]; done)|(rw [bL (gS (by simpa using B) (by first|exact C|(simp only []; omega)) (by first|exact A|(simp only []; omega))) (fun q=>D ((cZ (show ¬ (2:Int)=3 by decide)).1 q.2))]; done))
  refine rP 8 [0,1] (mc 1 U (mc 4 U mn)) ?_
  refine RK G<|cH U (aV fun A=>?_) (aW fun A=>?_)
  ·refine WS fun _ L=>rP 1 [] mn ?_
   refine RK L<|ar<|Q1 hQ U U U ?_
   first|(rw [cN (fun q=>F q)]; done)|(rw [jD rfl F]; first|(rw [a7 (.inl B)]; done)|(rw [a7 (.inr (.inl C))]; done)|(rw [a7 (.inr (.inr A))]; done)|(rw [dp (gS (by simpa using B) (by first|exact C|(simp only []; omega)) (by first|exact A|(simp only []; omega))) E ((cZ (show ¬ (2:Int)=3 by decide)).2 D)]; done)|(rw [bL (gS (by simpa using B) (by first|exact C|(simp only []; omega)) (by first|exact A|(simp only []; omega))) (fun q=>by rw [E] at q; exact Bool.noConfusion q.1)]; done)|(rw [bL (gS (by simpa using B) (by first|exact C|(simp only []; omega)) (by first|exact A|(simp only []; omega))) (fun q=>D ((cZ (show ¬ (2:Int)=3 by decide)).1 q.2))]; done))
  refine WS fun _ AB=>rP 3 [] (mc 0 U mn) ?_
  refine cM (t:=59) U (fun E=>?_) (fun E=>?_)
  ·refine bI 8 U<|RK AB<|cp U<|ct<|aN<|KK H<|WS fun _ O=>rP 1 [] mn ?_
   refine RK O<|ar<|Q1 hQ U U U ?_
   first|(rw [cN (fun q=>F q)]; done)|(rw [jD rfl F]; first|(rw [a7 (.inl B)]; done)|(rw [a7 (.inr (.inl C))]; done)|(rw [a7 (.inr (.inr A))]; done)|(rw [dp (gS (by simpa using B) (by first|exact C|(simp only []; omega)) (by first|exact A|(simp only []; omega))) E ((cZ (show ¬ (2:Int)=3 by decide)).2 D)]; done)|(rw [bL (gS (by simpa using B) (by first|exact C|(simp only []; omega)) (by first|exact A|(simp only []; omega))) (fun q=>by rw [E] at q; exact Bool.noConfusion q.1)]; done)|(rw [bL (gS (by simpa using B) (by first|exact C|(simp only []; omega)) (by first|exact A|(simp only []; omega))) (fun q=>D ((cZ (show ¬ (2:Int)=3 by decide)).1 q.2))]; done))
  refine e7 5 [0,1,2,3] (mc 2 U (mc 4 U (mc 0 U (mc 1 U mn)))) U<|rS (CL (tM 2 fw ff ft ((cP j.Race.aj d.bD (fw-1)).Lo) ((cP j.Race.aj d.bD (fw-1)).Hi) ((cP j.Race.aj d.bD (fw-1)).each) ((cP j.Race.aj d.bD (fw-1)).never) ((cP j.Race.aj d.bD fw).Lo) ((cP j.Race.aj d.bD fw).Hi) ((cP j.Race.aj d.bD fw).each) ((cP j.Race.aj d.bD fw).never)) (aK) U)<|rP 2 [] mn ?_
  refine RK AB<|cH U (aV fun D=>?_) (aW fun D=>?_)
  ·refine WS fun _ M=>rP 1 [] mn ?_
   refine RK M<|ar<|Q1 hQ U U U ?_
   first|(rw [cN (fun q=>F q)]; done)|(rw [jD rfl F]; first|(rw [a7 (.inl B)]; done)|(rw [a7 (.inr (.inl C))]; done)|(rw [a7 (.inr (.inr A))]; done)|(rw [dp (gS (by simpa using B) (by first|exact C|(simp only []; omega)) (by first|exact A|(simp only []; omega))) E ((cZ (show ¬ (2:Int)=3 by decide)).2 D)]; done)|(rw [bL (gS (by simpa using B) (by first|exact C|(simp only []; omega)) (by first|exact A|(simp only []; omega))) (fun q=>by rw [E] at q; exact Bool.noConfusion q.1)]; done)|(rw [bL (gS (by simpa using B) (by first|exact C|(simp only []; omega)) (by first|exact A|(simp only []; omega))) (fun q=>D ((cZ (show ¬ (2:Int)=3 by decide)).1 q.2))]; done))
  refine ct<|aN<|KK H<|WS fun _ N=>rP 1 [] mn ?_
  refine RK N<|ar<|Q1 hQ U U U ?_
  first|(rw [cN (fun q=>F q)]; done)|(rw [jD rfl F]; first|(rw [a7 (.inl B)]; done)|(rw [a7 (.inr (.inl C))]; done)|(rw [a7 (.inr (.inr A))]; done)|(rw [dp (gS (by simpa using B) (by first|exact C|(simp only []; omega)) (by first|exact A|(simp only []; omega))) E ((cZ (show ¬ (2:Int)=3 by decide)).2 D)]; done)|(rw [bL (gS (by simpa using B) (by first|exact C|(simp only []; omega)) (by first|exact A|(simp only []; omega))) (fun q=>by rw [E] at q; exact Bool.noConfusion q.1)]; done)|(rw [bL (gS (by simpa using B) (by first|exact C|(simp only []; omega)) (by first|exact A|(simp only []; omega))) (fun q=>D ((cZ (show ¬ (2:Int)=3 by decide)).1 q.2))]; done))
 refine NO U U [11,12,13] fun T14 P=>AL U og fun Y=>RD P 1 U<|N1 11<|NO U U [12,13] fun T16 R=>AL U og fun Z=>RD R 2 U<|N1 12<|NO U U [13] fun T18 S=>sr U mG U<|RD S 2 U<|N1 13<|NO U U [] fun T19 T=>fK U mG U<|RD T 2 U<|lS<|KK AA<|ao fun _ H=>aF<|WS fun _ G=>rP 3 [] (mc 1 U mn) ?_
 refine cg (t:=40) U (fun B=>?_) (fun B=>?_)
 ·refine bI 16 U<|RK G<|aS U<|WS fun _ J=>rP 1 [] mn ?_
  refine RK J<|ar<|Q1 hQ U U U ?_
  first|(rw [cN (fun q=>F q)]; done)|(rw [jD rfl F]; first|(rw [a7 (.inl B)]; done)|(rw [a7 (.inr (.inl C))]; done)|(rw [a7 (.inr (.inr A))]; done)|(rw [dp (gS (by simpa using B) (by first|exact C|(simp only []; omega)) (by first|exact A|(simp only []; omega))) E ((cZ (show ¬ (2:Int)=3 by decide)).2 D)]; done)|(rw [bL (gS (by simpa using B) (by first|exact C|(simp only []; omega)) (by first|exact A|(simp only []; omega))) (fun q=>by rw [E] at q; exact Bool.noConfusion q.1)]; done)|(rw [bL (gS (by simpa using B) (by first|exact C|(simp only []; omega)) (by first|exact A|(simp only []; omega))) (fun q=>D ((cZ (show ¬ (2:Int)=3 by decide)).1 q.2))]; done))
 refine rP 8 [0,1] (mc 1 U (mc 4 U mn)) ?_
 refine cg (t:=48) U (aV fun C=>?_) (aW fun C=>?_)
 ·refine bI 8 U<|RK G<|aS U<|WS fun _ K=>rP 1 [] mn ?_
  refine RK K<|ar<|Q1 hQ U U U ?_
  first|(rw [cN (fun q=>F q)]; done)|(rw [jD rfl F]; first|(rw [a7 (.inl B)]; done)|(rw [a7 (.inr (.inl C))]; done)|(rw [a7 (.inr (.inr A))]; done)|(rw [dp (gS (by simpa using B) (by first|exact C|(simp only []; omega)) (by first|exact A|(simp only []; omega))) E ((cZ (show ¬ (2:Int)=3 by decide)).2 D)]; done)|(rw [bL (gS (by simpa using B) (by first|exact C|(simp only []; omega)) (by first|exact A|(simp only []; omega))) (fun q=>by rw [E] at q; exact Bool.noConfusion q.1)]; done)|(rw [bL (gS (by simpa using B) (by first|exact C|(simp only []; omega)) (by first|exact A|(simp only []; omega))) (fun q=>D ((cZ (show ¬ (2:Int)=3 by decide)).1 q.2))]; done))
 refine rP 8 [0,1] (mc 0 U (mc 4 U mn)) ?_
 refine RK G<|cH U (aV fun A=>?_) (aW fun A=>?_)
 ·refine WS fun _ L=>rP 1 [] mn ?_
  refine RK L<|ar<|Q1 hQ U U U ?_
  first|(rw [cN (fun q=>F q)]; done)|(rw [jD rfl F]; first|(rw [a7 (.inl B)]; done)|(rw [a7 (.inr (.inl C))]; done)|(rw [a7 (.inr (.inr A))]; done)|(rw [dp (gS (by simpa using B) (by first|exact C|(simp only []; omega)) (by first|exact A|(simp only []; omega))) E ((cZ (show ¬ (2:Int)=3 by decide)).2 D)]; done)|(rw [bL (gS (by simpa using B) (by first|exact C|(simp only []; omega)) (by first|exact A|(simp only []; omega))) (fun q=>by rw [E] at q; exact Bool.noConfusion q.1)]; done)|(rw [bL (gS (by simpa using B) (by first|exact C|(simp only []; omega)) (by first|exact A|(simp only []; omega))) (fun q=>D ((cZ (show ¬ (2:Int)=3 by decide)).1 q.2))]; done))
 refine WS fun _ AB=>rP 3 [] (mc 1 U mn) ?_
 refine cM (t:=59) U (fun E=>?_) (fun E=>?_)
 ·refine bI 8 U<|RK AB<|cp U<|ct<|aN<|KK H<|WS fun _ O=>rP 1 [] mn ?_
  refine RK O<|ar<|Q1 hQ U U U ?_
  first|(rw [cN (fun q=>F q)]; done)|(rw [jD rfl F]; first|(rw [a7 (.inl B)]; done)|(rw [a7 (.inr (.inl C))]; done)|(rw [a7 (.inr (.inr A))]; done)|(rw [dp (gS (by simpa using B) (by first|exact C|(simp only []; omega)) (by first|exact A|(simp only []; omega))) E ((cZ (show ¬ (2:Int)=3 by decide)).2 D)]; done)|(rw [bL (gS (by simpa using B) (by first|exact C|(simp only []; omega)) (by first|exact A|(simp only []; omega))) (fun q=>by rw [E] at q; exact Bool.noConfusion q.1)]; done)|(rw [bL (gS (by simpa using B) (by first|exact C|(simp only []; omega)) (by first|exact A|(simp only []; omega))) (fun q=>D ((cZ (show ¬ (2:Int)=3 by decide)).1 q.2))]; done))
 refine e7 5 [0,1,2,3] (mc 2 U (mc 4 U (mc 1 U (mc 0 U mn)))) U<|rS (CL (tM 2 fw ff ft ((cP j.Race.aj d.bD (fw-1)).Lo) ((cP j.Race.aj d.bD (fw-1)).Hi) ((cP j.Race.aj d.bD (fw-1)).each) ((cP j.Race.aj d.bD (fw-1)).never) ((cP j.Race.aj d.bD fw).Lo) ((cP j.Race.aj d.bD fw).Hi) ((cP j.Race.aj d.bD fw).each) ((cP j.Race.aj d.bD fw).never)) (aK) U)<|rP 2 [] mn ?_
 refine RK AB<|cH U (aV fun D=>?_) (aW fun D=>?_)
 ·refine WS fun _ M=>rP 1 [] mn ?_
  refine RK M<|ar<|Q1 hQ U U U ?_
  first|(rw [cN (fun q=>F q)]; done)|(rw [jD rfl F]; first|(rw [a7 (.inl B)]; done)|(rw [a7 (.inr (.inl C))]; done)|(rw [a7 (.inr (.inr A))]; done)|(rw [dp (gS (by simpa using B) (by first|exact C|(simp only []; omega)) (by first|exact A|(simp only []; omega))) E ((cZ (show ¬ (2:Int)=3 by decide)).2 D)]; done)|(rw [bL (gS (by simpa using B) (by first|exact C|(simp only []; omega)) (by first|exact A|(simp only []; omega))) (fun q=>by rw [E] at q; exact Bool.noConfusion q.1)]; done)|(rw [bL (gS (by simpa using B) (by first|exact C|(simp only []; omega)) (by first|exact A|(simp only []; omega))) (fun q=>D ((cZ (show ¬ (2:Int)=3 by decide)).1 q.2))]; done))
 refine ct<|aN<|KK H<|WS fun _ N=>rP 1 [] mn ?_
 refine RK N<|ar<|Q1 hQ U U U ?_
 first|(rw [cN (fun q=>F q)]; done)|(rw [jD rfl F]; first|(rw [a7 (.inl B)]; done)|(rw [a7 (.inr (.inl C))]; done)|(rw [a7 (.inr (.inr A))]; done)|(rw [dp (gS (by simpa using B) (by first|exact C|(simp only []; omega)) (by first|exact A|(simp only []; omega))) E ((cZ (show ¬ (2:Int)=3 by decide)).2 D)]; done)|(rw [bL (gS (by simpa using B) (by first|exact C|(simp only []; omega)) (by first|exact A|(simp only []; omega))) (fun q=>by rw [E] at q; exact Bool.noConfusion q.1)]; done)|(rw [bL (gS (by simpa using B) (by first|exact C|(simp only []; omega)) (by first|exact A|(simp only []; omega))) (fun q=>D ((cZ (show ¬ (2:Int)=3 by decide)).1 q.2))]; done))
theorem Jr (j:cV) (kA:OA) (kC:Nat) (az:List RA) (cA:OA) (cC:Nat) (bA:OA) (bC:Nat) (slA:OA) (slC:Nat) (drA:OA) (drC:Nat) (ha:List dQ) (heA:OA) (heC:Nat) (faA:OA) (faC:Nat) (prA:OA) (prC:Nat) (fw ff ft:Int) (d:ay) (sgA:OA) (sgC:Nat) (hin:hH j az ha) (hw:0≤fw∧fw≤1000000) (hsl:d.bD.ab.length≤1000000):
 dH Tryz.prog 34 [(vA (db.cells (db.mk (dh.mk (di.mk (bT.mk (bG.mk (aR.mk kA j.Race.aj.aL.length kC)) j.Race.aj.eI (aR.mk cA j.Race.aj.ak.length cC) (aR.mk bA j.Race.aj.aa.length bC) j.Race.aj.bK j.Race.aj.dj j.Race.aj.ck) (aR.mk slA j.Race.aT.length slC) (aR.mk drA j.Race.bS.length drC) j.Race.f_ (aR.mk heA j.Race.aB.length heC)) (aR.mk faA j.aC.length faC) (aR.mk prA j.aq.length prC) j.cu j.j2)))),(vA (aX.cells (aX.mk 3 fw ff ft))),(vA (aO.cells (aO.mk d.Out d.dx d.Time (jE d.bD sgA sgC))))] [(rd kA j.Race.aj.aL.length 9 (j.Race.aj.aL.map au.cells)),(rd cA j.Race.aj.ak.length 2 (List.zipWith ax.cells j.Race.aj.ak az)),(d_ (bw ax.gL j.Race.aj.ak az)),(rd bA j.Race.aj.aa.length 4 (j.Race.aj.aa.map bM.cells)),(rd slA j.Race.aT.length 1 (j.Race.aT.map iC)),(rd drA j.Race.bS.length 1 (j.Race.bS.map iC)),(rd heA j.Race.aB.length 1 (List.zipWith dz j.Race.aB ha)),(d_ (bw fy j.Race.aB ha)),(rd faA j.aC.length 4 (j.aC.map aX.cells)),(rd prA j.aq.length 5 (j.aq.map a_.cells)),(rd sgA d.bD.ab.length 2 (d.bD.ab.map aG.cells))] (Value.int .u8 (g4 j.Race.aj (aX.mk 3 fw ff ft) d)):=by
 have l:=hin.race
 have h:=hin.race.line
 have r:=hin.race.jd
 have s:=hin.race.has
 have m:=hin.race.ji
 have i:=hin.nf
 have k:=hin.np
 refine bH kr Tryz.func34 U U fun u Q hQ hN=>?_
 try dsimp only
 refine WS fun _ a=>eK U fun n=>eK U fun o=>eK U fun p=>bI 1 U<|RK a<|ao fun _ b=>WS fun _ c=>e7 1 [] (mc 0 U mn) U<|rS (CL (tL d.Out d.dx d.Time (jE d.bD sgA sgC)) (aK) U)<|rP 1 [] mn ?_
 refine RK c<|cH U (bu fun F=>?_) (br fun F=>?_)
 ·refine WS fun _ e=>rP 1 [] mn ?_
  refine RK e<|ar<|Q1 hQ U U U ?_
  first|(rw [cN (fun q=>F q)]; done)|(rw [jz rfl F]; first|(rw [a7 (.inl B)]; done)|(rw [a7 (.inr (.inl C))]; done)|(rw [a7 (.inr (.inr A))]; done)|(rw [dp (gS (by simpa using B) (by first|exact C|(simp only []; omega)) (by first|exact A|(simp only []; omega))) E ((ib rfl).2 D)]; done)|(rw [bL (gS (by simpa using B) (by first|exact C|(simp only []; omega)) (by first|exact A|(simp only []; omega))) (fun q=>by rw [E] at q; exact Bool.noConfusion q.1)]; done)|(rw [bL (gS (by simpa using B) (by first|exact C|(simp only []; omega)) (by first|exact A|(simp only []; omega))) (fun q=>D ((ib rfl).1 q.2))]; done))
 refine WK b<|ao fun _ f=>dV cx [4,5] [] [] [0,1,2,3,4,5,6,7,8,9,10,11,12,13] [] U U U U U<|eS U (CL xr (aK) U)<|eS U (FA 0 U fT U)<|eS U (L1 (Value.int .u8 3) 1 U cq U U)<|eS U (SX (uA (vs:=(eW.cells (eW.mk (Value.func (.func 86) [].toArray [].toArray) (Value.func (.func 87) [].toArray [].toArray)))) 3 U U U Hw cq U dc U) U U)<|eJ U<|cv U fun T9 g=>AL U JZ fun X=>aH (g _ _ (aU [1,2,3,4,5,6,7,8,9,10,11,12,13,14]) ?_)
 refine cv U fun T11 W=>fK U I5 U<|aH (W _ _ (aU [1,2,3,4,5,6,7,8,9,10,11,12,13,14]) ?_)
 refine fY U<|KK f<|WS fun _ V=>e7 4 [0,1,2] (mc 0 U (mc 3 U (mc 2 U mn))) U<|rS (CL (RI j kA kC cA cC bA bC slA slC drA drC heA heC faA faC prA prC 3 fw ff ft) (aK) U)<|rP 5 [] mn ?_
 refine RK V<|ao fun _ AA=>mx cx [0,1,2,3,4,5,6,7,8,9] [10,11,12,13] [false,false,false,false,false,false,false,false,false,false] [] [(cw X 132 (eW.cells (eW.mk (Value.func (.func 86) [].toArray [].toArray) (Value.func (.func 87) [].toArray [].toArray)))),(cw p 58 (aO.cells (aO.mk d.Out d.dx d.Time (jE d.bD sgA sgC)))),(cw o 80 (aX.cells (aX.mk 3 fw ff ft))),(cw n 93 (db.cells (db.mk (dh.mk (di.mk (bT.mk (bG.mk (aR.mk kA j.Race.aj.aL.length kC)) j.Race.aj.eI (aR.mk cA j.Race.aj.ak.length cC) (aR.mk bA j.Race.aj.aa.length bC) j.Race.aj.bK j.Race.aj.dj j.Race.aj.ck) (aR.mk slA j.Race.aT.length slC) (aR.mk drA j.Race.bS.length drC) j.Race.f_ (aR.mk heA j.Race.aB.length heC)) (aR.mk faA j.aC.length faC) (aR.mk prA j.aq.length prC) j.cu j.j2)))),(rd kA j.Race.aj.aL.length 9 (j.Race.aj.aL.map au.cells)).ro,(rd cA j.Race.aj.ak.length 2 (List.zipWith ax.cells j.Race.aj.ak az)).ro,(d_ (bw ax.gL j.Race.aj.ak az)).ro,(rd bA j.Race.aj.aa.length 4 (j.Race.aj.aa.map bM.cells)).ro,(rd slA j.Race.aT.length 1 (j.Race.aT.map iC)).ro,(rd drA j.Race.bS.length 1 (j.Race.bS.map iC)).ro,(rd heA j.Race.aB.length 1 (List.zipWith dz j.Race.aB ha)).ro,(d_ (bw fy j.Race.aB ha)).ro,(rd faA j.aC.length 4 (j.aC.map aX.cells)).ro,(rd prA j.aq.length 5 (j.aq.map a_.cells)).ro,(rd sgA d.bD.ab.length 2 (d.bD.ab.map aG.cells)).ro] [] kr (aU [0,1,2,3,4,5,6,7,8,9,10,11,12,13,14]) (aU [])<|eS U (LW 3 U cq U U)<|eS U (FA 4 U fT U)<|eS U (LP (cU.cells (jE d.bD sgA sgC)) 1 U cq U U U)<|eS U (MV U)<|eS U (CL (l9 j kA kC az cA cC bA bC slA slC drA drC ha heA heC faA faC prA prC d.bD sgA sgC fw hin hsl) (bq [4,5,6,7,8,9,10,11,12,13,14]) U)<|eS U (LW 3 U cq U U)<|eS U (FA 4 U fT U)<|eS U (LP (cU.cells (jE d.bD sgA sgC)) 1 U cq U U U)<|eS U (MV U)<|eS U (CL (l9 j kA kC az cA cC bA bC slA slC drA drC ha heA heC faA faC prA prC d.bD sgA sgC fw hin hsl) (bq [4,5,6,7,8,9,10,11,12,13,14]) U)<|eJ U<|mS [10,11] kr (iO ?_<|iO ?_<|qm)
 rotate_left 1
 ·refine NO U U [10,12,13] fun T14 P=>AL U og fun Y=>RD P 1 U<|N1 10<|NO U U [12,13] fun T16 R=>AL U og fun Z=>RD R 2 U<|N1 12<|NO U U [13] fun T18 S=>fK U mG U<|RD S 2 U<|N1 13<|NO U U [] fun T19 T=>sr U mG U<|RD T 2 U<|lS<|KK AA<|ao fun _ H=>aF<|WS fun _ G=>rP 3 [] (mc 0 U mn) ?_
  refine cg (t:=40) U (fun B=>?_) (fun B=>?_)
  ·refine bI 16 U<|RK G<|aS U<|WS fun _ J=>rP 1 [] mn ?_
   refine RK J<|ar<|Q1 hQ U U U ?_
   first|(rw [cN (fun q=>F q)]; done)|(rw [jz rfl F]; first|(rw [a7 (.inl B)]; done)|(rw [a7 (.inr (.inl C))]; done)|(rw [a7 (.inr (.inr A))]; done)|(rw [dp (gS (by simpa using B) (by first|exact C|(simp only []; omega)) (by first|exact A|(simp only []; omega))) E ((ib rfl).2 D)]; done)|(rw [bL (gS (by simpa using B) (by first|exact C|(simp only []; omega)) (by first|exact A|(simp only []; omega))) (fun q=>by rw [E] at q; exact Bool.noConfusion q.1)]; done)|(rw [bL (gS (by simpa using B) (by first|exact C|(simp only []; omega)) (by first|exact A|(simp only []; omega))) (fun q=>D ((ib rfl).1 q.2))]; done))
  refine rP 8 [0,1] (mc 0 U (mc 4 U mn)) ?_
  refine cg (t:=48) U (aV fun C=>?_) (aW fun C=>?_)
  ·refine bI 8 U<|RK G<|aS U<|WS fun _ K=>rP 1 [] mn ?_
   refine RK K<|ar<|Q1 hQ U U U ?_
   first|(rw [cN (fun q=>F q)]; done)|(rw [jz rfl F]; first|(rw [a7 (.inl B)]; done)|(rw [a7 (.inr (.inl C))]; done)|(rw [a7 (.inr (.inr A))]; done)|(rw [dp (gS (by simpa using B) (by first|exact C|(simp only []; omega)) (by first|exact A|(simp only []; omega))) E ((ib rfl).2 D)]; done)|(rw [bL (gS (by simpa using B) (by first|exact C|(simp only []; omega)) (by first|exact A|(simp only []; omega))) (fun q=>by rw [E] at q; exact Bool.noConfusion q.1)]; done)|(rw [bL (gS (by simpa using B) (by first|exact C|(simp only []; omega)) (by first|exact A|(simp only []; omega))) (fun q=>D ((ib rfl).1 q.2))]; done))
  refine rP 8 [0,1] (mc 1 U (mc 4 U mn)) ?_
  refine RK G<|cH U (aV fun A=>?_) (aW fun A=>?_)
  ·refine WS fun _ L=>rP 1 [] mn ?_
   refine RK L<|ar<|Q1 hQ U U U ?_
   first|(rw [cN (fun q=>F q)]; done)|(rw [jz rfl F]; first|(rw [a7 (.inl B)]; done)|(rw [a7 (.inr (.inl C))]; done)|(rw [a7 (.inr (.inr A))]; done)|(rw [dp (gS (by simpa using B) (by first|exact C|(simp only []; omega)) (by first|exact A|(simp only []; omega))) E ((ib rfl).2 D)]; done)|(rw [bL (gS (by simpa using B) (by first|exact C|(simp only []; omega)) (by first|exact A|(simp only []; omega))) (fun q=>by rw [E] at q; exact Bool.noConfusion q.1)]; done)|(rw [bL (gS (by simpa using B) (by first|exact C|(simp only []; omega)) (by first|exact A|(simp only []; omega))) (fun q=>D ((ib rfl).1 q.2))]; done))
  refine WS fun _ AB=>rP 3 [] (mc 0 U mn) ?_
  refine cM (t:=59) U (fun E=>?_) (fun E=>?_)
  ·refine bI 8 U<|RK AB<|cp U<|ct<|aN<|KK H<|WS fun _ O=>rP 1 [] mn ?_
   refine RK O<|ar<|Q1 hQ U U U ?_
   first|(rw [cN (fun q=>F q)]; done)|(rw [jz rfl F]; first|(rw [a7 (.inl B)]; done)|(rw [a7 (.inr (.inl C))]; done)|(rw [a7 (.inr (.inr A))]; done)|(rw [dp (gS (by simpa using B) (by first|exact C|(simp only []; omega)) (by first|exact A|(simp only []; omega))) E ((ib rfl).2 D)]; done)|(rw [bL (gS (by simpa using B) (by first|exact C|(simp only []; omega)) (by first|exact A|(simp only []; omega))) (fun q=>by rw [E] at q; exact Bool.noConfusion q.1)]; done)|(rw [bL (gS (by simpa using B) (by first|exact C|(simp only []; omega)) (by first|exact A|(simp only []; omega))) (fun q=>D ((ib rfl).1 q.2))]; done))
  refine e7 5 [0,1,2,3] (mc 2 U (mc 4 U (mc 0 U (mc 1 U mn)))) U<|rS (CL (Ea 3 fw ff ft ((cP j.Race.aj d.bD fw).Lo) ((cP j.Race.aj d.bD fw).Hi) ((cP j.Race.aj d.bD fw).each) ((cP j.Race.aj d.bD fw).never) ((cP j.Race.aj d.bD fw).Lo) ((cP j.Race.aj d.bD fw).Hi) ((cP j.Race.aj d.bD fw).each) ((cP j.Race.aj d.bD fw).never)) (aK) U)<|rP 2 [] mn ?_
  refine RK AB<|cH U (aV fun D=>?_) (aW fun D=>?_)
  ·refine WS fun _ M=>rP 1 [] mn ?_
   refine RK M<|ar<|Q1 hQ U U U ?_
   first|(rw [cN (fun q=>F q)]; done)|(rw [jz rfl F]; first|(rw [a7 (.inl B)]; done)|(rw [a7 (.inr (.inl C))]; done)|(rw [a7 (.inr (.inr A))]; done)|(rw [dp (gS (by simpa using B) (by first|exact C|(simp only []; omega)) (by first|exact A|(simp only []; omega))) E ((ib rfl).2 D)]; done)|(rw [bL (gS (by simpa using B) (by first|exact C|(simp only []; omega)) (by first|exact A|(simp only []; omega))) (fun q=>by rw [E] at q; exact Bool.noConfusion q.1)]; done)|(rw [bL (gS (by simpa using B) (by first|exact C|(simp only []; omega)) (by first|exact A|(simp only []; omega))) (fun q=>D ((ib rfl).1 q.2))]; done))
  refine ct<|aN<|KK H<|WS fun _ N=>rP 1 [] mn ?_
  refine RK N<|ar<|Q1 hQ U U U ?_
  first|(rw [cN (fun q=>F q)]; done)|(rw [jz rfl F]; first|(rw [a7 (.inl B)]; done)|(rw [a7 (.inr (.inl C))]; done)|(rw [a7 (.inr (.inr A))]; done)|(rw [dp (gS (by simpa using B) (by first|exact C|(simp only []; omega)) (by first|exact A|(simp only []; omega))) E ((ib rfl).2 D)]; done)|(rw [bL (gS (by simpa using B) (by first|exact C|(simp only []; omega)) (by first|exact A|(simp only []; omega))) (fun q=>by rw [E] at q; exact Bool.noConfusion q.1)]; done)|(rw [bL (gS (by simpa using B) (by first|exact C|(simp only []; omega)) (by first|exact A|(simp only []; omega))) (fun q=>D ((ib rfl).1 q.2))]; done))
 refine NO U U [11,12,13] fun T14 P=>AL U og fun Y=>RD P 1 U<|N1 11<|NO U U [12,13] fun T16 R=>AL U og fun Z=>RD R 2 U<|N1 12<|NO U U [13] fun T18 S=>sr U mG U<|RD S 2 U<|N1 13<|NO U U [] fun T19 T=>fK U mG U<|RD T 2 U<|lS<|KK AA<|ao fun _ H=>aF<|WS fun _ G=>rP 3 [] (mc 1 U mn) ?_
 refine cg (t:=40) U (fun B=>?_) (fun B=>?_)
 ·refine bI 16 U<|RK G<|aS U<|WS fun _ J=>rP 1 [] mn ?_
  refine RK J<|ar<|Q1 hQ U U U ?_
  first|(rw [cN (fun q=>F q)]; done)|(rw [jz rfl F]; first|(rw [a7 (.inl B)]; done)|(rw [a7 (.inr (.inl C))]; done)|(rw [a7 (.inr (.inr A))]; done)|(rw [dp (gS (by simpa using B) (by first|exact C|(simp only []; omega)) (by first|exact A|(simp only []; omega))) E ((ib rfl).2 D)]; done)|(rw [bL (gS (by simpa using B) (by first|exact C|(simp only []; omega)) (by first|exact A|(simp only []; omega))) (fun q=>by rw [E] at q; exact Bool.noConfusion q.1)]; done)|(rw [bL (gS (by simpa using B) (by first|exact C|(simp only []; omega)) (by first|exact A|(simp only []; omega))) (fun q=>D ((ib rfl).1 q.2))]; done))
 refine rP 8 [0,1] (mc 1 U (mc 4 U mn)) ?_
 refine cg (t:=48) U (aV fun C=>?_) (aW fun C=>?_)
 ·refine bI 8 U<|RK G<|aS U<|WS fun _ K=>rP 1 [] mn ?_
  refine RK K<|ar<|Q1 hQ U U U ?_
  first|(rw [cN (fun q=>F q)]; done)|(rw [jz rfl F]; first|(rw [a7 (.inl B)]; done)|(rw [a7 (.inr (.inl C))]; done)|(rw [a7 (.inr (.inr A))]; done)|(rw [dp (gS (by simpa using B) (by first|exact C|(simp only []; omega)) (by first|exact A|(simp only []; omega))) E ((ib rfl).2 D)]; done)|(rw [bL (gS (by simpa using B) (by first|exact C|(simp only []; omega)) (by first|exact A|(simp only []; omega))) (fun q=>by rw [E] at q; exact Bool.noConfusion q.1)]; done)|(rw [bL (gS (by simpa using B) (by first|exact C|(simp only []; omega)) (by first|exact A|(simp only []; omega))) (fun q=>D ((ib rfl).1 q.2))]; done))
 refine rP 8 [0,1] (mc 0 U (mc 4 U mn)) ?_
 refine RK G<|cH U (aV fun A=>?_) (aW fun A=>?_)
 ·refine WS fun _ L=>rP 1 [] mn ?_
  refine RK L<|ar<|Q1 hQ U U U ?_
  first|(rw [cN (fun q=>F q)]; done)|(rw [jz rfl F]; first|(rw [a7 (.inl B)]; done)|(rw [a7 (.inr (.inl C))]; done)|(rw [a7 (.inr (.inr A))]; done)|(rw [dp (gS (by simpa using B) (by first|exact C|(simp only []; omega)) (by first|exact A|(simp only []; omega))) E ((ib rfl).2 D)]; done)|(rw [bL (gS (by simpa using B) (by first|exact C|(simp only []; omega)) (by first|exact A|(simp only []; omega))) (fun q=>by rw [E] at q; exact Bool.noConfusion q.1)]; done)|(rw [bL (gS (by simpa using B) (by first|exact C|(simp only []; omega)) (by first|exact A|(simp only []; omega))) (fun q=>D ((ib rfl).1 q.2))]; done))
 refine WS fun _ AB=>rP 3 [] (mc 1 U mn) ?_
 refine cM (t:=59) U (fun E=>?_) (fun E=>?_)
 ·refine bI 8 U<|RK AB<|cp U<|ct<|aN<|KK H<|WS fun _ O=>rP 1 [] mn ?_
  refine RK O<|ar<|Q1 hQ U U U ?_
  first|(rw [cN (fun q=>F q)]; done)|(rw [jz rfl F]; first|(rw [a7 (.inl B)]; done)|(rw [a7 (.inr (.inl C))]; done)|(rw [a7 (.inr (.inr A))]; done)|(rw [dp (gS (by simpa using B) (by first|exact C|(simp only []; omega)) (by first|exact A|(simp only []; omega))) E ((ib rfl).2 D)]; done)|(rw [bL (gS (by simpa using B) (by first|exact C|(simp only []; omega)) (by first|exact A|(simp only []; omega))) (fun q=>by rw [E] at q; exact Bool.noConfusion q.1)]; done)|(rw [bL (gS (by simpa using B) (by first|exact C|(simp only []; omega)) (by first|exact A|(simp only []; omega))) (fun q=>D ((ib rfl).1 q.2))]; done))
 refine e7 5 [0,1,2,3] (mc 2 U (mc 4 U (mc 1 U (mc 0 U mn)))) U<|rS (CL (Ea 3 fw ff ft ((cP j.Race.aj d.bD fw).Lo) ((cP j.Race.aj d.bD fw).Hi) ((cP j.Race.aj d.bD fw).each) ((cP j.Race.aj d.bD fw).never) ((cP j.Race.aj d.bD fw).Lo) ((cP j.Race.aj d.bD fw).Hi) ((cP j.Race.aj d.bD fw).each) ((cP j.Race.aj d.bD fw).never)) (aK) U)<|rP 2 [] mn ?_
 refine RK AB<|cH U (aV fun D=>?_) (aW fun D=>?_)
 ·refine WS fun _ M=>rP 1 [] mn ?_
  refine RK M<|ar<|Q1 hQ U U U ?_
  first|(rw [cN (fun q=>F q)]; done)|(rw [jz rfl F]; first|(rw [a7 (.inl B)]; done)|(rw [a7 (.inr (.inl C))]; done)|(rw [a7 (.inr (.inr A))]; done)|(rw [dp (gS (by simpa using B) (by first|exact C|(simp only []; omega)) (by first|exact A|(simp only []; omega))) E ((ib rfl).2 D)]; done)|(rw [bL (gS (by simpa using B) (by first|exact C|(simp only []; omega)) (by first|exact A|(simp only []; omega))) (fun q=>by rw [E] at q; exact Bool.noConfusion q.1)]; done)|(rw [bL (gS (by simpa using B) (by first|exact C|(simp only []; omega)) (by first|exact A|(simp only []; omega))) (fun q=>D ((ib rfl).1 q.2))]; done))
 refine ct<|aN<|KK H<|WS fun _ N=>rP 1 [] mn ?_
 refine RK N<|ar<|Q1 hQ U U U ?_
 first|(rw [cN (fun q=>F q)]; done)|(rw [jz rfl F]; first|(rw [a7 (.inl B)]; done)|(rw [a7 (.inr (.inl C))]; done)|(rw [a7 (.inr (.inr A))]; done)|(rw [dp (gS (by simpa using B) (by first|exact C|(simp only []; omega)) (by first|exact A|(simp only []; omega))) E ((ib rfl).2 D)]; done)|(rw [bL (gS (by simpa using B) (by first|exact C|(simp only []; omega)) (by first|exact A|(simp only []; omega))) (fun q=>by rw [E] at q; exact Bool.noConfusion q.1)]; done)|(rw [bL (gS (by simpa using B) (by first|exact C|(simp only []; omega)) (by first|exact A|(simp only []; omega))) (fun q=>D ((ib rfl).1 q.2))]; done))
theorem zJ (j:cV) (kA:OA) (kC:Nat) (az:List RA) (cA:OA) (cC:Nat) (bA:OA) (bC:Nat) (slA:OA) (slC:Nat) (drA:OA) (drC:Nat) (ha:List dQ) (heA:OA) (heC:Nat) (faA:OA) (faC:Nat) (prA:OA) (prC:Nat) (f:aX) (d:ay) (sgA:OA) (sgC:Nat) (hin:hH j az ha) (hk:1≤f.Kind∧f.Kind≤3) (hw:0≤f.ik∧f.ik≤1000000) (hsl:d.bD.ab.length≤1000000):
 dH Tryz.prog 34 [(vA (db.cells (db.mk (dh.mk (di.mk (bT.mk (bG.mk (aR.mk kA j.Race.aj.aL.length kC)) j.Race.aj.eI (aR.mk cA j.Race.aj.ak.length cC) (aR.mk bA j.Race.aj.aa.length bC) j.Race.aj.bK j.Race.aj.dj j.Race.aj.ck) (aR.mk slA j.Race.aT.length slC) (aR.mk drA j.Race.bS.length drC) j.Race.f_ (aR.mk heA j.Race.aB.length heC)) (aR.mk faA j.aC.length faC) (aR.mk prA j.aq.length prC) j.cu j.j2)))),(vA (aX.cells f)),(vA (aO.cells (aO.mk d.Out d.dx d.Time (jE d.bD sgA sgC))))] [(rd kA j.Race.aj.aL.length 9 (j.Race.aj.aL.map au.cells)),(rd cA j.Race.aj.ak.length 2 (List.zipWith ax.cells j.Race.aj.ak az)),(d_ (bw ax.gL j.Race.aj.ak az)),(rd bA j.Race.aj.aa.length 4 (j.Race.aj.aa.map bM.cells)),(rd slA j.Race.aT.length 1 (j.Race.aT.map iC)),(rd drA j.Race.bS.length 1 (j.Race.bS.map iC)),(rd heA j.Race.aB.length 1 (List.zipWith dz j.Race.aB ha)),(d_ (bw fy j.Race.aB ha)),(rd faA j.aC.length 4 (j.aC.map aX.cells)),(rd prA j.aq.length 5 (j.aq.map a_.cells)),(rd sgA d.bD.ab.length 2 (d.bD.ab.map aG.cells))] (Value.int .u8 (g4 j.Race.aj f d)):=by
 obtain ⟨fk,fw,ff,ft⟩:=f
 have A:fk=1∨fk=2∨fk=3:=by have:=hk; simp only at this; omega
 rcases A with rfl|rfl|rfl
 ·exact IH j kA kC az cA cC bA bC slA slC drA drC ha heA heC faA faC prA prC fw ff ft d sgA sgC hin hw hsl
 ·exact Ju j kA kC az cA cC bA bC slA slC drA drC ha heA heC faA faC prA prC fw ff ft d sgA sgC hin hw hsl
 ·exact Jr j kA kC az cA cC bA bC slA slC drA drC ha heA heC faA faC prA prC fw ff ft d sgA sgC hin hw hsl
end
section
open Go.RowKit
theorem IP (j:cV) (kA:OA) (kC:Nat) (az:List RA) (cA:OA) (cC:Nat) (bA:OA) (bC:Nat) (slA:OA) (slC:Nat) (drA:OA) (drC:Nat) (ha:List dQ) (heA:OA) (heC:Nat) (faA:OA) (faC:Nat) (prA:OA) (prC:Nat) (p:a_) (hin:hH j az ha) (hok:dU j=0) (hp: ∃ i:Nat,j.aq[i]? =some p):
 dH Tryz.prog 35 [(vA (db.cells (db.mk (dh.mk (di.mk (bT.mk (bG.mk (aR.mk kA j.Race.aj.aL.length kC)) j.Race.aj.eI (aR.mk cA j.Race.aj.ak.length cC) (aR.mk bA j.Race.aj.aa.length bC) j.Race.aj.bK j.Race.aj.dj j.Race.aj.ck) (aR.mk slA j.Race.aT.length slC) (aR.mk drA j.Race.bS.length drC) j.Race.f_ (aR.mk heA j.Race.aB.length heC)) (aR.mk faA j.aC.length faC) (aR.mk prA j.aq.length prC) j.cu j.j2)))),(vA (a_.cells p))] [(rd kA j.Race.aj.aL.length 9 (j.Race.aj.aL.map au.cells)),(rd cA j.Race.aj.ak.length 2 (List.zipWith ax.cells j.Race.aj.ak az)),(d_ (bw ax.gL j.Race.aj.ak az)),(rd bA j.Race.aj.aa.length 4 (j.Race.aj.aa.map bM.cells)),(rd slA j.Race.aT.length 1 (j.Race.aT.map iC)),(rd drA j.Race.bS.length 1 (j.Race.bS.map iC)),(rd heA j.Race.aB.length 1 (List.zipWith dz j.Race.aB ha)),(d_ (bw fy j.Race.aB ha)),(rd faA j.aC.length 4 (j.aC.map aX.cells)),(rd prA j.aq.length 5 (j.aq.map a_.cells))] (Value.int .u8 (mO j p)):=by
 have S:=hin.race
 have e:=hin.race.line
 have s:=hin.race.jd
 have t:=hin.race.has
 have q:=hin.race.ji
 have k:=hin.nf
 have o:=hin.np
 have R:=(eZ hok).1
 have P:=(eZ hok).2
 have c:=(e8 R).1
 have h:=(e8 R).2
 have a:=(dY c).2.head
 unfold eV at a
 obtain ⟨pi,f⟩:=hp
 have G:=P.hG pi p f
 have x:=G.fZ
 have g:=G.jF
 simp only [oa] at g
 have w:=G.fault
 have u:=P.min_
 refine bH kr Tryz.func35 U U fun w0 Q hQ hN=>?_
 try dsimp only
 refine WS fun _ T=>eK U fun z=>eK U fun b3=>rP 1 [] mn ?_
 refine RK T<|ao fun _ AA=>dV cx [20,21] [] [] [0,1,2,3,4,5,6,7,8,9,10,11] [] U U U U U<|eS U (LW 1 U cq U U)<|eS U (FA 0 U fT U)<|eS U (FA 0 U fT U)<|eS U (FA 10 U fT U)<|eS U (L1 (vS heA j.Race.aB.length heC) 1 U cq U U)<|eS U (FA 2 U fT U)<|eS U (L1 (vI p.jt) 0 U cq U U) ?_
 obtain ⟨ht,E⟩:=aM j.Race.aB ((p.jt).toNat) I
 obtain ⟨B,D⟩:=aM ha ((p.jt).toNat) I
 have O:(List.zipWith dz j.Race.aB ha)[(p.jt).toNat]? =some (dz ht B):=er E D
 refine eS U (IA ((p.jt).toNat) U (aA 8 U) sT dc I I)<|eS U (iK ((p.jt).toNat) 0 (vS B.1.1 ht.length B.1.2) U cq (aA 8 U) O U dc U)<|eS U (FA 1 U fT U)<|eS U (L1 (vI p.iu) 0 U cq U U) ?_
 have N:=S.fZ _ _ _ E D
 have m:=N.oY
 have n:=(h.fZ ht (aP E)).1
 obtain ⟨d,hd⟩:=aM ht ((p.iu).toNat) I
 obtain ⟨da,M⟩:=aM B.2 ((p.iu).toNat) I
 have Z:(List.zipWith ay.cells ht B.2)[(p.iu).toNat]? =some (ay.cells d da):=er hd M
 refine eS U (IA ((p.iu).toNat) U (show js _ (rd B.1.1 ht.length 7 (List.zipWith ay.cells ht B.2)).holds from (df 9 U (bW E D cJ))) vn dc I I)<|eS U (qA ((((p.iu).toNat)*7)+4) U (show js _ (rd B.1.1 ht.length 7 (List.zipWith ay.cells ht B.2)).holds from (df 9 U (bW E D cJ))) (Nat.mul_pos I dc) fT U) ?_
 have A:=pE (j:=j) (p:=p) E hd
 have y:=N.sig d (aP hd)
 have v:=My (l:=j.Race.aj) (r:=d.bD) (b:=j.Race.aj.bK) I
 refine eS U (lQ ((p.iu).toNat) 4 (cU.cells (cU.mk d.bD.Start d.bD.gd (aR.mk da.1 d.bD.ab.length da.2))) U cq (show js _ (rd B.1.1 ht.length 7 (List.zipWith ay.cells ht B.2)).holds from (df 9 U (bW E D cJ))) Z U dc U U)<|eS U (FA 0 U fT U)<|eS U (FA 0 U fT U)<|eS U (FA 0 U fT U)<|eS U (FA 4 U fT U)<|eS U (L1 (vI j.Race.aj.bK) 1 U cq U U) ?_
 refine eS U (CL (l9 j kA kC az cA cC bA bC slA slC drA drC ha heA heC faA faC prA prC d.bD da.1 da.2 j.Race.aj.bK hin sd) (oK [2,3,4,5,6,7,8,9,10,11]<|aJ (show js _ (rd da.1 d.bD.ab.length 2 (d.bD.ab.map aG.cells)).holds from (df 9 U (bW E D (dW _ (bW hd M (by simp [ay.gL]))))))<|aK) U) ?_
 refine eJ U<|cv U fun T5 X=>AL U og fun b6=>aH (X _ _ (aU [1,2,3,4,5,6,7,8,9,10,11,12]) ?_)
 refine cv U fun T7 Y=>fK U mG U<|aH (Y _ _ (aU [1,2,3,4,5,6,7,8,9,10,11,12]) ?_)
 refine fY U<|KK AA<|WS fun _ V=>e7 3 [] (mc 2 U mn) U<|rS (BI U (qs ⟨I,I⟩))<|bI 1 U<|RK V<|ao fun _ W=>aF<|WS fun _ H=>rP 9 [0,1] (mc 1 U (mc 0 U mn)) ?_
 refine RK H<|cH U (aV fun C=>?_) (aW fun C=>?_)
 ·refine WS fun _ AB=>rP 1 [] mn ?_
  refine RK AB<|ar<|Q1 hQ U U U ?_
  first|(rw [DA A C]; done)|(rw [CG A C F]; done)|(rw [Dm A C F]; done)
 refine WS fun _ J=>rP 9 [0,1] (mc 1 U (mc 0 U mn)) ?_
 refine RK J<|cH U (aV fun F=>?_) (aW fun F=>?_)
 ·refine WS fun _ K=>rP 1 [] mn ?_
  refine RK K<|ar<|Q1 hQ U U U ?_
  first|(rw [DA A C]; done)|(rw [CG A C F]; done)|(rw [Dm A C F]; done)
 refine ct<|aN<|KK W<|WS fun _ L=>rP 1 [] mn ?_
 refine RK L<|ar<|Q1 hQ U U U ?_
 first|(rw [DA A C]; done)|(rw [CG A C F]; done)|(rw [Dm A C F]; done)
theorem ve (j:cV) (kA:OA) (kC:Nat) (az:List RA) (cA:OA) (cC:Nat) (bA:OA) (bC:Nat) (slA:OA) (slC:Nat) (drA:OA) (drC:Nat) (ha:List dQ) (heA:OA) (heC:Nat) (faA:OA) (faC:Nat) (prA:OA) (prC:Nat) (i:Int) (p:a_) (hin:hH j az ha) (hok:dU j=0) (hp: ∃ i:Nat,j.aq[i]? =some p):
 dH Tryz.prog 31 [(vA (db.cells (db.mk (dh.mk (di.mk (bT.mk (bG.mk (aR.mk kA j.Race.aj.aL.length kC)) j.Race.aj.eI (aR.mk cA j.Race.aj.ak.length cC) (aR.mk bA j.Race.aj.aa.length bC) j.Race.aj.bK j.Race.aj.dj j.Race.aj.ck) (aR.mk slA j.Race.aT.length slC) (aR.mk drA j.Race.bS.length drC) j.Race.f_ (aR.mk heA j.Race.aB.length heC)) (aR.mk faA j.aC.length faC) (aR.mk prA j.aq.length prC) j.cu j.j2)))),(vI i),(vA (a_.cells p))] [(rd kA j.Race.aj.aL.length 9 (j.Race.aj.aL.map au.cells)),(rd cA j.Race.aj.ak.length 2 (List.zipWith ax.cells j.Race.aj.ak az)),(d_ (bw ax.gL j.Race.aj.ak az)),(rd bA j.Race.aj.aa.length 4 (j.Race.aj.aa.map bM.cells)),(rd slA j.Race.aT.length 1 (j.Race.aT.map iC)),(rd drA j.Race.bS.length 1 (j.Race.bS.map iC)),(rd heA j.Race.aB.length 1 (List.zipWith dz j.Race.aB ha)),(d_ (bw fy j.Race.aB ha)),(rd faA j.aC.length 4 (j.aC.map aX.cells)),(rd prA j.aq.length 5 (j.aq.map a_.cells))] (vB (gu j p)):=by
 have O:=hin.race
 have V:=hin.race.line
 have h:=hin.race.jd
 have k:=hin.race.has
 have c:=hin.race.ji
 have Y:=hin.nf
 have b:=hin.np
 have M:=(eZ hok).1
 have F:=(eZ hok).2
 have AA:=(e8 M).1
 have X:=(e8 M).2
 have T:=(dY AA).2.head
 unfold eV at T
 obtain ⟨pi,N⟩:=hp
 have G:=F.hG pi p N
 have n:=G.fZ
 have W:=G.jF
 simp only [oa] at W
 have m:=G.fault
 have l:=F.min_
 refine bH kr Tryz.func31 U U fun u Q hQ hN=>?_
 try dsimp only
 refine WS fun _ P=>eK U fun r=>eK U fun s=>bI 1 U<|RK P<|ao fun _ H=>dw cx 29 kr<|lU 2 [0,1] (mc 1 U (mc 0 U mn)) U<|dS (CL (IP j kA kC az cA cC bA bC slA slC drA drC ha heA heC faA faC prA prC p hin hok (by exact ⟨pi,N⟩)) (bq [2,3,4,5,6,7,8,9,10,11]) U)<|dS (BI U xV)<|dP 1 [] mn ?_
 refine jM (t:=11) U (br fun D=>?_) (bu fun D=>?_)
 ·refine k7 17 U<|k7 2 U<|dP 5 [] mn ?_
  refine cK<|RK H<|ar<|Q1 hQ U U U ?_
  first|(rw [AJ E hf (fun q=>D q)]; done)|(rw [Cg D]; done)
 refine dP 6 [0,0,1] (mc 1 U (mc 0 U mn)) ?_
 obtain ⟨f,hf⟩:=aM j.aC ((p.jU).toNat) I
 have S:=bP aX.cells hf
 refine dS (IA ((p.jU).toNat) U (aA 10 U) BC dc I I)<|dS (lQ ((p.jU).toNat) 0 (aX.cells f) U cq (aA 10 U) S U dc U U)<|dP 6 [0,1] (mc 1 U (mc 0 U mn)) ?_
 obtain ⟨ht,C⟩:=aM j.Race.aB ((p.jt).toNat) I
 obtain ⟨A,B⟩:=aM ha ((p.jt).toNat) I
 have L:(List.zipWith dz j.Race.aB ha)[(p.jt).toNat]? =some (dz ht A):=er C B
 refine dS (IA ((p.jt).toNat) U (aA 8 U) sT dc I I)<|dS (iK ((p.jt).toNat) 0 (vS A.1.1 ht.length A.1.2) U cq (aA 8 U) L U dc U)<|dP 1 [] mn ?_
 have K:=O.fZ _ _ _ C B
 have Z:=K.oY
 have a:=(X.fZ ht (aP C)).1
 refine dP 1 [] (mc 0 U mn) ?_
 obtain ⟨d,hd⟩:=aM ht ((p.iu).toNat) I
 obtain ⟨da,AB⟩:=aM A.2 ((p.iu).toNat) I
 have R:(List.zipWith ay.cells ht A.2)[(p.iu).toNat]? =some (ay.cells d da):=er hd AB
 refine dS (IA ((p.iu).toNat) U (show js _ (rd A.1.1 ht.length 7 (List.zipWith ay.cells ht A.2)).holds from (df 9 U (bW C B cJ))) vn dc I I) ?_
 have E:=pE (j:=j) (p:=p) C hd
 have o:=K.sig d (aP hd)
 have J:=F.fault f (aP hf)
 have g:0≤f.ik∧f.ik≤1000000:=by have e:=J.2.2; split at e<;>omega
 refine dS (lQ ((p.iu).toNat) 0 (aO.cells (aO.mk d.Out d.dx d.Time (cU.mk d.bD.Start d.bD.gd (aR.mk da.1 d.bD.ab.length da.2)))) U cq (show js _ (rd A.1.1 ht.length 7 (List.zipWith ay.cells ht A.2)).holds from (df 9 U (bW C B cJ))) R U dc U U) ?_
 refine dS (CL (zJ j kA kC az cA cC bA bC slA slC drA drC ha heA heC faA faC prA prC f d da.1 da.2 hin (by exact J.1) sd sd) (oK [2,3,4,5,6,7,8,9,10,11]<|aJ (show js _ (rd da.1 d.bD.ab.length 2 (d.bD.ab.map aG.cells)).holds from (df 9 U (bW C B (dW _ (bW hd AB (by simp [ay.gL]))))))<|aK) U) ?_
 refine dS (BI U xV)<|dP 2 [] mn ?_
 refine cK<|RK H<|ar<|Q1 hQ U U U ?_
 first|(rw [AJ E hf (fun q=>D q)]; done)|(rw [Cg D]; done)
end
section
open Go.RowKit
section
variable {P:Program} {t:TypeId} {x y:Operand}
end
section
variable {E:e9} {ops:Array Oper} {Q:dq} {rest:List Oper} {D:List Deferred} {L:List (Nat×Value)} {C:List aw}
variable {dst:Option Tmp} {d:Nat} {ty:TypeId} {ps:String} {af:Array Edge} {g:Option (Nat×Bool)}
theorem Mr {A:aw} (i:Nat) (h:C[i]? =some A.ro):js C A.holds:=fun w hw=>by
 have B:=hw A.ro (aP h)
 exact B
end
end
section
open Go.RowKit
section
variable {K:Type} [DecidableEq K] {kV:K→Value}
variable {E:e9} {ops:Array Oper} {Q:dq} {rest:List Oper} {D:List Deferred} {L:List (Nat×Value)} {C:List aw}
variable {ty:TypeId} {ps:String} {af:Array Edge} {g:Option (Nat×Bool)}
theorem sQ {t kt et:TypeId} {xm xk:Operand} {ts:Array TypeId} {b:Nat} {x:K} {m m':List (K×Value)} {C':List aw} (i:Nat) (hg:kj ops L g=true) (hm:ev L xm=some (.map (some b))) (hk:ev L xk=some (kV x)) (hts:ts[0]? =some t)
 (ht:E.P.underlying t=some (.map kt et)) (hkt:uU E.P kt kV) (hC:C[i]? =some (kh kV b m)) (hm':eY m x=m') (hC':C.set i (kh kV b m')=C') (k:RJ E ops Q rest D L C'):
 RJ E ops Q (⟨none,.call {callee:= .builtin .delete,args:= #[xm,xk],argTypes:=ts},ty,ps,af,g⟩::rest) D L C:=by
 subst hm' hC'
 intro a w A hs
 unfold sG
 rw [if_pos (eB A hg)]
 obtain ⟨es,c,he,hi⟩:=hs.holds _ (aP hC)
 have B:(getObj b).run E.P w= .ok (.map es c) w:=MapKept.run_getObj_map he
 rcases o4 (P:=E.P) (w:=w) (x:=x) hkt hi with ⟨F,G⟩|⟨j,AA,F,G,H⟩
 ·refine jh (v:= .tuple #[]) (w':={w with heap:=w.heap.setIfInBounds b (.map es c)}) sm ?_ ?_
  ·simp [execOp,resolve,invoke,builtin,A.ev hm,A.ev hk,Builtin.delete_,hts,run_underlying ht,B,jn hkt,F,MapKept.run_setObj_map _ he]
  ·refine k _ _ ⟨A.defers,A.size,A.at_⟩ (hs.y7 (b:=b) i hC U U (nk _) (fun _ h=>h) ⟨_,_,pJ he,?_⟩)
   rw [DO G]; exact hi
 ·refine jh (v:= .tuple #[]) (w':={w with heap:=w.heap.setIfInBounds b (.map (es.eraseIdxIfInBounds j) c)}) sm ?_ ?_
  ·simp [execOp,resolve,invoke,builtin,A.ev hm,A.ev hk,Builtin.delete_,hts,run_underlying ht,B,jn hkt,F,MapKept.run_setObj_map _ he]
  ·exact k _ _ ⟨A.defers,A.size,A.at_⟩ (hs.y7 (b:=b) i hC U U (nk _) (fun _ h=>h) ⟨_,_,pJ he,hi.del G⟩)
end
end
section
open Go.RowKit
theorem Ik (n lo hi:Int) (g1 g2:Nat):
 dH Tryz.prog 147 [(vI n),(vP g1),(vP g2)] [(cw g1 3 [(vI lo)]),(cw g2 3 [(vI hi)])] (vB (decide (n<lo∨hi<n))):=by
 refine bH kr Tryz.func147 U U fun D Q hQ hN=>?_
 try dsimp only
 refine WS fun _ B=>bI 1 U<|RK B<|WS fun _ A=>rP 4 [] (mr 0 U mn) ?_
 refine cg (t:=8) U (aV fun C=>?_) (aW fun C=>?_)
 ·refine rP 5 [] mn ?_
  refine RK A<|ar<|Q1 hQ U U U ?_
  exact cB (c8 I).symm
 refine rP 5 [] (mr 1 U mn) ?_
 refine RK A<|ar<|Q1 hQ U U U ?_
 exact cB (fu.2 I)
theorem uh (lo hi:Int) (l:List Int) (lA:OA) (lC:Nat) (hlen:l.length≤1000000):
 dH Tryz.prog 126 [(vI lo),(vI hi),(vS lA l.length lC)] [(rd lA l.length 1 (l.map iC))] (vB (qw lo hi l)):=by
 refine bH kr Tryz.func126 U U fun F Q hQ hN=>?_
 try dsimp only
 refine WS fun _ D=>wu U U fun A=>wu U U fun B=>bI 1 U<|RK D<|WS fun _ E=>rP 1 [] mn ?_
 refine rS (FU U) ?_
 refine rS (CL (pO l lA lC (Value.func (.func 147) [].toArray [(vP A),(vP B)].toArray) (fun C=>(decide (C<lo∨hi<C))) (d_ [(cw A 3 [(vI lo)]),(cw B 3 [(vI hi)])]) (by intro C _; exact lf (fi:=[]) (ca:=[(vP A),(vP B)]) (jX (Ik C lo hi A B) (bq [0,1]))) hlen) (g_ 2 U U<|aJ (jT (bq [1,0]))<|aK) U) ?_
 refine rP 2 [] mn ?_
 refine RK E<|ar ?_
 exact Q1 hQ U U U U
theorem LF (s:ag):
 dH Tryz.prog 210 [(vA (ag.cells s))] [] (vB (decide (l5 s))):=by
 refine bH kr Tryz.func210 U U fun F Q hQ hN=>?_
 try dsimp only
 refine WS fun _ B=>eK U fun E=>bI 1 U<|RK B<|WS fun _ A=>rP 4 [] (mc 0 U mn) ?_
 refine ew (xs:=[.tmp 4,.tmp 6]) (cs:=[(vI s.Lo),(vI s.Hi)]) U dD kl U U U U (by simp [Value.cells]) U U fun C=>?_
 refine rS (CL (dH.eq (uh 1 600000 ([s.Lo,s.Hi]) (some ⟨C,0,none⟩) 2 (by (simp; done))) o5) (aJ (bo 0 U U (by simp [bO]) U)<|aK) U) ?_
 refine rP 1 [] mn ?_
 refine cM (t:=9) U (aW fun D=>?_) (aV fun D=>?_)
 ·refine rP 7 [] mn ?_
  refine RK A<|ar<|Q1 hQ U U U ?_
  simp only [l5]
  exact cB (bx I).symm
 refine rP 7 [] (mc 1 U mn) ?_
 refine RK A<|ar<|Q1 hQ U U U ?_
 simp only [l5]
 exact cB (fu.2 I)
theorem HO (d:ay) (sgA:OA) (sgC:Nat):
 dH Tryz.prog 207 [(vA (aO.cells (aO.mk d.Out d.dx d.Time (jE d.bD sgA sgC))))] [(rd sgA d.bD.ab.length 2 (d.bD.ab.map aG.cells))] (vB (decide (mW d.bD))):=by
 refine bH kr Tryz.func207 U U fun F Q hQ hN=>?_
 try dsimp only
 refine WS fun _ B=>eK U fun E=>bI 1 U<|RK B<|WS fun _ A=>rP 5 [] (mc 0 U mn) ?_
 refine cM (t:=7) U (aW fun C=>?_) (aV fun C=>?_)
 ·refine rP 13 [] mn ?_
  refine RK A<|ar<|Q1 hQ U U U ?_
  simp only [mW]
  exact cB (bx I).symm
 refine rP 6 [] (mc 0 U mn) ?_
 refine cM (t:=13) U (aW fun D=>?_) (aV fun D=>?_)
 ·refine rP 7 [] mn ?_
  refine RK A<|ar<|Q1 hQ U U U ?_
  simp only [mW]
  exact cB (bx I).symm
 refine rP 7 [] (mc 0 U mn) ?_
 refine RK A<|ar<|Q1 hQ U U U ?_
 simp only [mW]
 exact cB (fu.2 I)
theorem RX (d:ay) (sgA:OA) (sgC:Nat):
 dH Tryz.prog 205 [(vA (aO.cells (aO.mk d.Out d.dx d.Time (jE d.bD sgA sgC))))] [(rd sgA d.bD.ab.length 2 (d.bD.ab.map aG.cells))] (vB d.Out):=by
 refine bH kr Tryz.func205 U U fun D Q hQ hN=>?_
 try dsimp only
 refine WS fun _ A=>eK U fun C=>bI 1 U<|RK A<|WS fun _ B=>rP 3 [] (mc 0 U mn) ?_
 refine RK B<|ar<|Q1 hQ U U U ?_
 rfl
theorem Ra (d:ay) (sgA:OA) (sgC:Nat):
 dH Tryz.prog 208 [(vA (aO.cells (aO.mk d.Out d.dx d.Time (jE d.bD sgA sgC))))] [(rd sgA d.bD.ab.length 2 (d.bD.ab.map aG.cells))] (vB d.dx):=by
 refine bH kr Tryz.func208 U U fun D Q hQ hN=>?_
 try dsimp only
 refine WS fun _ A=>eK U fun C=>bI 1 U<|RK A<|WS fun _ B=>rP 3 [] (mc 0 U mn) ?_
 refine RK B<|ar<|Q1 hQ U U U ?_
 rfl
theorem Rx (d:ay) (sgA:OA) (sgC:Nat):
 dH Tryz.prog 211 [(vA (aO.cells (aO.mk d.Out d.dx d.Time (jE d.bD sgA sgC))))] [(rd sgA d.bD.ab.length 2 (d.bD.ab.map aG.cells))] (vB true):=by
 refine bH kr Tryz.func211 U U fun D Q hQ hN=>?_
 try dsimp only
 refine WS fun _ A=>eK U fun C=>bI 1 U<|RK A<|WS fun _ B=>rP 1 [] mn ?_
 refine RK B<|ar<|Q1 hQ U U U ?_
 rfl
end
section
open Go.RowKit
theorem MC (l:bj) (kA:OA) (kC:Nat) (az:List RA) (cA:OA) (cC:Nat) (bA:OA) (bC:Nat) (d:ay) (sgA:OA) (sgC:Nat) (hin:eH l az):
 dH Tryz.prog 206 [(vA (bT.cells (ki l kA kC cA cC bA bC))),(vA (aO.cells (aO.mk d.Out d.dx d.Time (jE d.bD sgA sgC))))] [(rd kA l.aL.length 9 (l.aL.map au.cells)),(rd cA l.ak.length 2 (List.zipWith ax.cells l.ak az)),(d_ (bw ax.gL l.ak az)),(rd bA l.aa.length 4 (l.aa.map bM.cells)),(rd sgA d.bD.ab.length 2 (d.bD.ab.map aG.cells))] (vT [(vA (ag.cells d.Time)),(vB (decide (d.dx=false∧d.Time=gU∧mW d.bD)))]):=by
 refine bH kr Tryz.func206 U U fun K Q hQ hN=>?_
 try dsimp only
 refine WS fun _ B=>eK U fun H=>eK U fun AA=>AL U ed fun J=>rP 1 [] mn ?_
 refine RK B<|ao fun _ A=>dV cx [15] [] [] [1,2,3,4,5,6,7] [] U U U U U<|eS U (FA 2 U fT U)<|eS U (LP (ag.cells d.Time) 0 U cq U U U)<|eS U (FA 1 U fT U)<|eS U (L1 (vB d.dx) 0 U cq U U)<|eS U (NT U)<|eS U (MV U)<|r9 (t:=11) U (fun G=>?_) (fun G=>?_)
 rotate_left 1
 ·rw [Bool.not_eq_false'] at G
  refine eS U (OX U)<|eS U (OX U)<|eS U (OX U)<|eS U (OX U)<|eS U (PK U)<|eS U (MV U)<|eS U (OX U)<|eS U (OX U)<|eS U (PK U)<|eS U (AG U)<|eJ U<|cv U fun T10 C=>fK U c_ U<|aH (C _ _ (aU [1,2,3,4,5,6,7]) ?_)
  refine fY U<|KK A<|ar<|mQ hQ [0] (mc 0 U mn) U ?_
  clear hQ hN C T10 A B
  refine congrArg (fun z=>Value.tuple #[_,vB z]) ?_
  first|rfl|(simp_all [gU]; done)
 rw [Bool.not_eq_true'] at G
 refine eS U (FA 2 U fT U)<|eS U (LP (ag.cells d.Time) 0 U cq U U U)<|eS U (SX (bf (xs:=[]) (cs:=(ag.cells (ag.mk 0 0))) U U (bg gZ U)) U U)<|eS U (BI U (xb _ _ d.Time (ag.mk 0 0)))<|eS U (PK U)<|eS U (MV U)<|r9 (t:=17) U (fun D=>?_) (fun D=>?_)
 rotate_left 1
 ·replace D:=DF D
  refine eS U (OX U)<|eS U (OX U)<|eS U (PK U)<|eS U (AG U)<|eJ U<|cv U fun T9 F=>fK U c_ U<|aH (F _ _ (aU [1,2,3,4,5,6,7]) ?_)
  refine fY U<|KK A<|ar<|mQ hQ [0] (mc 0 U mn) U ?_
  clear hQ hN F T9 A B
  refine congrArg (fun z=>Value.tuple #[_,vB z]) ?_
  first|rfl|(simp_all [gU]; done)
 replace D:=DT D
 refine eS U (LW 0 U cq U U)<|eS U (CL (HO d sgA sgC) (bq [6]) U)<|eS U (PK U)<|eS U (AG U)<|eJ U<|cv U fun T8 E=>fK U c_ U<|aH (E _ _ (aU [1,2,3,4,5,6,7]) ?_)
 refine fY U<|KK A<|ar<|mQ hQ [0] (mc 0 U mn) U ?_
 clear hQ hN E T8 A B
 refine congrArg (fun z=>Value.tuple #[_,vB z]) ?_
 first|rfl|(simp_all [gU]; done)
theorem KV (l:bj) (kA:OA) (kC:Nat) (az:List RA) (cA:OA) (cC:Nat) (bA:OA) (bC:Nat) (d:ay) (sgA:OA) (sgC:Nat) (hin:eH l az):
 dH Tryz.prog 209 [(vA (bT.cells (ki l kA kC cA cC bA bC))),(vA (aO.cells (aO.mk d.Out d.dx d.Time (jE d.bD sgA sgC))))] [(rd kA l.aL.length 9 (l.aL.map au.cells)),(rd cA l.ak.length 2 (List.zipWith ax.cells l.ak az)),(d_ (bw ax.gL l.ak az)),(rd bA l.aa.length 4 (l.aa.map bM.cells)),(rd sgA d.bD.ab.length 2 (d.bD.ab.map aG.cells))] (vT [(vA (ag.cells d.Time)),(vB (decide (l5 d.Time∧mW d.bD)))]):=by
 refine bH kr Tryz.func209 U U fun AA Q hQ hN=>?_
 try dsimp only
 refine WS fun _ B=>eK U fun F=>eK U fun G=>AL U ed fun H=>rP 1 [] mn ?_
 refine RK B<|ao fun _ A=>dV cx [9] [] [] [1,2,3,4,5,6,7] [] U U U U U<|eS U (FA 2 U fT U)<|eS U (LP (ag.cells d.Time) 0 U cq U U U)<|eS U (FA 2 U fT U)<|eS U (LP (ag.cells d.Time) 0 U cq U U U)<|eS U (CL (LF d.Time) (aK) U)<|eS U (MV U)<|r9 (t:=11) U (fun C=>?_) (fun C=>?_)
 rotate_left 1
 ·replace C:=DF C
  refine eS U (OX U)<|eS U (OX U)<|eS U (PK U)<|eS U (AG U)<|eJ U<|cv U fun T8 E=>fK U c_ U<|aH (E _ _ (aU [1,2,3,4,5,6,7]) ?_)
  refine fY U<|KK A<|ar<|mQ hQ [0] (mc 0 U mn) U ?_
  clear hQ hN E T8 A B
  refine congrArg (fun z=>Value.tuple #[_,vB z]) ?_
  first|rfl|(simp_all; done)
 replace C:=DT C
 refine eS U (LW 0 U cq U U)<|eS U (CL (HO d sgA sgC) (bq [6]) U)<|eS U (PK U)<|eS U (AG U)<|eJ U<|cv U fun T7 D=>fK U c_ U<|aH (D _ _ (aU [1,2,3,4,5,6,7]) ?_)
 refine fY U<|KK A<|ar<|mQ hQ [0] (mc 0 U mn) U ?_
 clear hQ hN D T7 A B
 refine congrArg (fun z=>Value.tuple #[_,vB z]) ?_
 first|rfl|(simp_all; done)
theorem Lu (l:bj) (kA:OA) (kC:Nat) (az:List RA) (cA:OA) (cC:Nat) (bA:OA) (bC:Nat) (d:ay) (sgA:OA) (sgC:Nat) (hin:eH l az) (hsl:d.bD.ab.length≤1000000):
 dH Tryz.prog 212 [(vA (bT.cells (ki l kA kC cA cC bA bC))),(vA (aO.cells (aO.mk d.Out d.dx d.Time (jE d.bD sgA sgC))))] [(rd kA l.aL.length 9 (l.aL.map au.cells)),(rd cA l.ak.length 2 (List.zipWith ax.cells l.ak az)),(d_ (bw ax.gL l.ak az)),(rd bA l.aa.length 4 (l.aa.map bM.cells)),(rd sgA d.bD.ab.length 2 (d.bD.ab.map aG.cells))] (vT [(vA (ag.cells (z9 l d.bD))),(vB (decide (dT l d.bD l.bK=0∧d.Time=gU)))]):=by
 have K:=hin.te
 have AA:=hin.s_
 have G:=hin.oY
 have H:=hin.s7
 have J:=hin.side
 refine bH kr Tryz.func212 U U fun P Q hQ hN=>?_
 try dsimp only
 refine WS fun _ C=>eK U fun L=>eK U fun M=>AL U ed fun N=>bI 1 U<|RK C<|WS fun _ D=>e7 2 [] (mc 2 U mn) U<|rS (LP (cU.cells (jE d.bD sgA sgC)) 1 U cq U U U)<|rS (CL (RN l kA kC az cA cC bA bC d.bD sgA sgC hin hsl) (bq [3,4,5,6,7]) U)<|bI 3 U<|AL U ed fun O=>fK U c_ U<|rP 1 [] mn ?_
 refine RK D<|ao fun _ A=>dV cx [9] [] [] [0,2,3,4,5,6,7,8] [] U U U U U<|eS U (LW 0 U cq U U)<|eS U (MV U)<|eS U (BI U mX)<|eS U (MV U)<|r9 (t:=18) U (fun E=>?_) (fun E=>?_)
 rotate_left 1
 ·replace E:=DF E
  refine eS U (OX U)<|eS U (OX U)<|eS U (OX U)<|eS U (OX U)<|eS U (PK U)<|eS U (AG U)<|eJ U<|cv U fun T10 B=>sr U c_ U<|aH (B _ _ (aU [0,2,3,4,5,6,7,8]) ?_)
  refine fY U<|KK A<|ar<|mQ hQ [0] (mc 1 U mn) U ?_
  clear hQ hN B T10 A D C
  refine congrArg (fun z=>Value.tuple #[_,vB z]) ?_
  first|rfl|(simp_all [gU]; done)
 replace E:=DT E
 refine eS U (FA 2 U fT U)<|eS U (LP (ag.cells d.Time) 1 U cq U U U)<|eS U (SX (bf (xs:=[]) (cs:=(ag.cells (ag.mk 0 0))) U U (bg gZ U)) U U)<|eS U (BI U (xb _ _ d.Time (ag.mk 0 0)))<|eS U (PK U)<|eS U (AG U)<|eJ U<|cv U fun T9 F=>sr U c_ U<|aH (F _ _ (aU [0,2,3,4,5,6,7,8]) ?_)
 refine fY U<|KK A<|ar<|mQ hQ [0] (mc 1 U mn) U ?_
 clear hQ hN F T9 A D C
 refine congrArg (fun z=>Value.tuple #[_,vB z]) ?_
 first|rfl|(simp_all [gU]; done)
theorem Fx (d:ay) (sgA:OA) (sgC g1:Nat):
 dH Tryz.prog 149 [(vA (mV.cells (mV.mk (Value.func (.func 205) [].toArray [].toArray) (Value.func (.func 206) [].toArray [].toArray)))),(vP g1)] [(rd sgA d.bD.ab.length 2 (d.bD.ab.map aG.cells)),(cw g1 58 (aO.cells (aO.mk d.Out d.dx d.Time (jE d.bD sgA sgC))))] (vB d.Out):=by
 refine bH kr Tryz.func149 U U fun D Q hQ hN=>?_
 try dsimp only
 refine WS fun _ A=>eK U fun C=>bI 1 U<|RK A<|WS fun _ B=>e7 3 [0,1] (mc 0 U (mr 2 U mn)) U<|rS (CL (RX d sgA sgC) (bq [1]) U)<|rP 1 [] mn ?_
 refine RK B<|ar<|Q1 hQ U U U ?_
 rfl
theorem Fi (d:ay) (sgA:OA) (sgC g1:Nat):
 dH Tryz.prog 149 [(vA (mV.cells (mV.mk (Value.func (.func 208) [].toArray [].toArray) (Value.func (.func 209) [].toArray [].toArray)))),(vP g1)] [(rd sgA d.bD.ab.length 2 (d.bD.ab.map aG.cells)),(cw g1 58 (aO.cells (aO.mk d.Out d.dx d.Time (jE d.bD sgA sgC))))] (vB d.dx):=by
 refine bH kr Tryz.func149 U U fun D Q hQ hN=>?_
 try dsimp only
 refine WS fun _ A=>eK U fun C=>bI 1 U<|RK A<|WS fun _ B=>e7 3 [0,1] (mc 0 U (mr 2 U mn)) U<|rS (CL (Ra d sgA sgC) (bq [1]) U)<|rP 1 [] mn ?_
 refine RK B<|ar<|Q1 hQ U U U ?_
 rfl
theorem GX (d:ay) (sgA:OA) (sgC g1:Nat):
 dH Tryz.prog 149 [(vA (mV.cells (mV.mk (Value.func (.func 211) [].toArray [].toArray) (Value.func (.func 212) [].toArray [].toArray)))),(vP g1)] [(rd sgA d.bD.ab.length 2 (d.bD.ab.map aG.cells)),(cw g1 58 (aO.cells (aO.mk d.Out d.dx d.Time (jE d.bD sgA sgC))))] (vB true):=by
 refine bH kr Tryz.func149 U U fun D Q hQ hN=>?_
 try dsimp only
 refine WS fun _ A=>eK U fun C=>bI 1 U<|RK A<|WS fun _ B=>e7 3 [0,1] (mc 0 U (mr 2 U mn)) U<|rS (CL (Rx d sgA sgC) (bq [1]) U)<|rP 1 [] mn ?_
 refine RK B<|ar<|Q1 hQ U U U ?_
 rfl
end
section
open Go.RowKit
theorem wR (d:ay) (sgA:OA) (sgC g1:Nat):
 dH Tryz.prog 148 [(vS g6 3 3),(Value.func (.func 149) [].toArray [(vP g1)].toArray)] [(rd g6 3 2 fU),(rd sgA d.bD.ab.length 2 (d.bD.ab.map aG.cells)),(cw g1 58 (aO.cells (aO.mk d.Out d.dx d.Time (jE d.bD sgA sgC))))] (vI (oS d)):=by
 refine bH kr Tryz.func148 U U fun b Q hQ hN=>?_
 try dsimp only
 refine WS fun _ F=>bI 1 U<|RK F<|ao fun _ AA=>WS fun _ G=>bI 3 U<|RK G<|aF<|qJ 4<|kW fun R4 Z=>WS fun _ H=>rS (SX (gn (r:= .bool true) U U U qq) U U)<|RK H<|ao fun _ AB=>aS U<|WK AB<|ao fun _ J=>aF<|WS fun _ K=>bI 2 U<|RK K<|WS fun _ L=>rP 3 [] mn ?_
 refine rS (IA 0 U (aA 0 U) JD dc U I)<|rS (lQ 0 0 (mV.cells (mV.mk (Value.func (.func 205) [].toArray [].toArray) (Value.func (.func 206) [].toArray [].toArray))) U cq (aA 0 U) (show fU[0]? =some [(Value.func (.func 205) [].toArray [].toArray),(Value.func (.func 206) [].toArray [].toArray)] from U) U dc U U)<|rS (CL (Fx d sgA sgC g1) (bq [1,2]) U)<|RK L<|cH U (fun X=>?_) (fun X=>?_)
 ·refine WS fun _ M=>rP 2 [] mn ?_
  refine RK M<|ar<|Q1 hQ U U U ?_
  clear hQ hN M L K J AB H G AA F
  refine cI ?_
  simp [oS, *]
 refine ct<|aN<|KK J<|av<|rS (SX (gn (r:= .int .i64 1) U U U (ox ⟨dc,dc⟩)) U U)<|bI 1 U<|RK Z<|kW fun R12 W=>WS fun _ A=>rS (SX (gn (r:= .bool true) U U U qq) U U)<|RK A<|ao fun _ B=>aS U<|WK B<|ao fun _ C=>aF<|WS fun _ D=>bI 2 U<|RK D<|WS fun _ E=>rP 3 [] mn ?_
 refine rS (IA 1 U (aA 0 U) JD dc U I)<|rS (lQ 1 0 (mV.cells (mV.mk (Value.func (.func 208) [].toArray [].toArray) (Value.func (.func 209) [].toArray [].toArray))) U cq (aA 0 U) (show fU[1]? =some [(Value.func (.func 208) [].toArray [].toArray),(Value.func (.func 209) [].toArray [].toArray)] from U) U dc U U)<|rS (CL (Fi d sgA sgC g1) (bq [1,2]) U)<|RK E<|cH U (fun Y=>?_) (fun Y=>?_)
 ·refine WS fun _ N=>rP 2 [] mn ?_
  refine RK N<|ar<|Q1 hQ U U U ?_
  clear hQ hN N E D C B A L K J AB H G AA F
  refine cI ?_
  simp [oS, *]
 refine ct<|aN<|KK C<|av<|rS (SX (gn (r:= .int .i64 2) U U U (ox ⟨dc,dc⟩)) U U)<|bI 1 U<|RK W<|kW fun R20 a=>WS fun _ O=>rS (SX (gn (r:= .bool true) U U U qq) U U)<|RK O<|ao fun _ P=>aS U<|WK P<|ao fun _ V=>aF<|WS fun _ R=>bI 2 U<|RK R<|WS fun _ S=>bI 3 U<|rS (IA 2 U (aA 0 U) JD dc U I)<|rS (lQ 2 0 (mV.cells (mV.mk (Value.func (.func 211) [].toArray [].toArray) (Value.func (.func 212) [].toArray [].toArray))) U cq (aA 0 U) (show fU[2]? =some [(Value.func (.func 211) [].toArray [].toArray),(Value.func (.func 212) [].toArray [].toArray)] from U) U dc U U)<|rS (CL (GX d sgA sgC g1) (bq [1,2]) U)<|RK S<|aS U<|WS fun _ T=>rP 2 [] mn ?_
 refine RK T<|ar<|Q1 hQ U U U ?_
 clear hQ hN T S R V P O E D C B A L K J AB H G AA F
 refine cI ?_
 simp [oS, *]
end
section
open Go.RowKit
theorem Ql (d:ay) (sgA:OA) (sgC g1:Nat) (hk:d.Out=true):
 dH Tryz.prog 148 [(vS g6 3 3),(Value.func (.func 149) [].toArray [(vP g1)].toArray)] [(rd g6 3 2 fU),(rd sgA d.bD.ab.length 2 (d.bD.ab.map aG.cells)),(cw g1 58 (aO.cells (aO.mk d.Out d.dx d.Time (jE d.bD sgA sgC))))] (vI 0):=by
 have h:=wR d sgA sgC g1
 have e:oS d=0:=by simp [oS,hk]
 rw [e] at h
 exact h
theorem Qj (d:ay) (sgA:OA) (sgC g1:Nat) (hk:d.Out=false∧d.dx=true):
 dH Tryz.prog 148 [(vS g6 3 3),(Value.func (.func 149) [].toArray [(vP g1)].toArray)] [(rd g6 3 2 fU),(rd sgA d.bD.ab.length 2 (d.bD.ab.map aG.cells)),(cw g1 58 (aO.cells (aO.mk d.Out d.dx d.Time (jE d.bD sgA sgC))))] (vI 1):=by
 have h:=wR d sgA sgC g1
 have e:oS d=1:=by simp [oS,hk]
 rw [e] at h
 exact h
theorem Rq (d:ay) (sgA:OA) (sgC g1:Nat) (hk:d.Out=false∧d.dx=false):
 dH Tryz.prog 148 [(vS g6 3 3),(Value.func (.func 149) [].toArray [(vP g1)].toArray)] [(rd g6 3 2 fU),(rd sgA d.bD.ab.length 2 (d.bD.ab.map aG.cells)),(cw g1 58 (aO.cells (aO.mk d.Out d.dx d.Time (jE d.bD sgA sgC))))] (vI 2):=by
 have h:=wR d sgA sgC g1
 have e:oS d=2:=by simp [oS,hk]
 rw [e] at h
 exact h
theorem AV (l:bj) (kA:OA) (kC:Nat) (az:List RA) (cA:OA) (cC:Nat) (bA:OA) (bC:Nat) (d:ay) (sgA:OA) (sgC:Nat) (hin:eH l az) (hsl:d.bD.ab.length≤1000000) (hk:d.Out=true):
 dH Tryz.prog 127 [(vA (bT.cells (ki l kA kC cA cC bA bC))),(vA (aO.cells (aO.mk d.Out d.dx d.Time (jE d.bD sgA sgC))))] [(rd g6 3 2 fU),(rd kA l.aL.length 9 (l.aL.map au.cells)),(rd cA l.ak.length 2 (List.zipWith ax.cells l.ak az)),(d_ (bw ax.gL l.ak az)),(rd bA l.aa.length 4 (l.aa.map bM.cells)),(rd sgA d.bD.ab.length 2 (d.bD.ab.map aG.cells))] (vT [(vA (ag.cells (gj l d))),(vB (decide (iW l d)))]):=by
 refine bH kr Tryz.func127 U U fun AA Q hQ hN=>?_
 try dsimp only
 refine WS fun _ A=>eK U fun G=>eK U fun D=>AL U ed fun H=>bI 1 U<|RK A<|WS fun _ B=>rS (SX (Dt U U zf) U U)<|rS (FU U)<|rS (CL (Ql d sgA sgC D hk) (On 3 8 1 U U U U U U) U)<|bI 1 U<|RK B<|ao fun _ C=>dw cx 9 kr<|k7 1 U<|dS (SX (Dy (k:=0) U U U zf U I) U U)<|dS (qA ((0*2)+1) U (aA 3 U) (Nat.mul_pos I dc) fT U)<|dS (iK 0 1 (Value.func (.func 206) [].toArray [].toArray) U cq (aA 3 U) (show fU[0]? =some [(Value.func (.func 205) [].toArray [].toArray),(Value.func (.func 206) [].toArray [].toArray)] from U) U dc U)<|lU 2 [0,1] (mc 2 U (mc 1 U mn)) U<|dS (CL (MC l kA kC az cA cC bA bC d sgA sgC hin) (bq [4,5,6,7,8]) U)<|k7 2 U<|cK<|fK U c_ U<|rP 1 [] mn ?_
 refine RK C<|ar<|mQ hQ [0] (mc 0 U mn) U ?_
 have E:=ED (l:=l) hk
 have F:=qK (l:=l) hk
 simp only [E,F]
theorem AH (l:bj) (kA:OA) (kC:Nat) (az:List RA) (cA:OA) (cC:Nat) (bA:OA) (bC:Nat) (d:ay) (sgA:OA) (sgC:Nat) (hin:eH l az) (hsl:d.bD.ab.length≤1000000) (hk:d.Out=false∧d.dx=true):
 dH Tryz.prog 127 [(vA (bT.cells (ki l kA kC cA cC bA bC))),(vA (aO.cells (aO.mk d.Out d.dx d.Time (jE d.bD sgA sgC))))] [(rd g6 3 2 fU),(rd kA l.aL.length 9 (l.aL.map au.cells)),(rd cA l.ak.length 2 (List.zipWith ax.cells l.ak az)),(d_ (bw ax.gL l.ak az)),(rd bA l.aa.length 4 (l.aa.map bM.cells)),(rd sgA d.bD.ab.length 2 (d.bD.ab.map aG.cells))] (vT [(vA (ag.cells (gj l d))),(vB (decide (iW l d)))]):=by
 refine bH kr Tryz.func127 U U fun AA Q hQ hN=>?_
 try dsimp only
 refine WS fun _ A=>eK U fun G=>eK U fun D=>AL U ed fun H=>bI 1 U<|RK A<|WS fun _ B=>rS (SX (Dt U U zf) U U)<|rS (FU U)<|rS (CL (Qj d sgA sgC D hk) (On 3 8 1 U U U U U U) U)<|bI 1 U<|RK B<|ao fun _ C=>dw cx 9 kr<|k7 1 U<|dS (SX (Dy (k:=1) U U U zf U I) U U)<|dS (qA ((1*2)+1) U (aA 3 U) (Nat.mul_pos I dc) fT U)<|dS (iK 1 1 (Value.func (.func 209) [].toArray [].toArray) U cq (aA 3 U) (show fU[1]? =some [(Value.func (.func 208) [].toArray [].toArray),(Value.func (.func 209) [].toArray [].toArray)] from U) U dc U)<|lU 2 [0,1] (mc 2 U (mc 1 U mn)) U<|dS (CL (KV l kA kC az cA cC bA bC d sgA sgC hin) (bq [4,5,6,7,8]) U)<|k7 2 U<|cK<|fK U c_ U<|rP 1 [] mn ?_
 refine RK C<|ar<|mQ hQ [0] (mc 0 U mn) U ?_
 have E:=E5 (l:=l) hk
 have F:=tw (l:=l) hk
 simp only [E,F]
theorem As (l:bj) (kA:OA) (kC:Nat) (az:List RA) (cA:OA) (cC:Nat) (bA:OA) (bC:Nat) (d:ay) (sgA:OA) (sgC:Nat) (hin:eH l az) (hsl:d.bD.ab.length≤1000000) (hk:d.Out=false∧d.dx=false):
 dH Tryz.prog 127 [(vA (bT.cells (ki l kA kC cA cC bA bC))),(vA (aO.cells (aO.mk d.Out d.dx d.Time (jE d.bD sgA sgC))))] [(rd g6 3 2 fU),(rd kA l.aL.length 9 (l.aL.map au.cells)),(rd cA l.ak.length 2 (List.zipWith ax.cells l.ak az)),(d_ (bw ax.gL l.ak az)),(rd bA l.aa.length 4 (l.aa.map bM.cells)),(rd sgA d.bD.ab.length 2 (d.bD.ab.map aG.cells))] (vT [(vA (ag.cells (gj l d))),(vB (decide (iW l d)))]):=by
 refine bH kr Tryz.func127 U U fun AA Q hQ hN=>?_
 try dsimp only
 refine WS fun _ A=>eK U fun G=>eK U fun D=>AL U ed fun H=>bI 1 U<|RK A<|WS fun _ B=>rS (SX (Dt U U zf) U U)<|rS (FU U)<|rS (CL (Rq d sgA sgC D hk) (On 3 8 1 U U U U U U) U)<|bI 1 U<|RK B<|ao fun _ C=>dw cx 9 kr<|k7 1 U<|dS (SX (Dy (k:=2) U U U zf U I) U U)<|dS (qA ((2*2)+1) U (aA 3 U) (Nat.mul_pos I dc) fT U)<|dS (iK 2 1 (Value.func (.func 212) [].toArray [].toArray) U cq (aA 3 U) (show fU[2]? =some [(Value.func (.func 211) [].toArray [].toArray),(Value.func (.func 212) [].toArray [].toArray)] from U) U dc U)<|lU 2 [0,1] (mc 2 U (mc 1 U mn)) U<|dS (CL (Lu l kA kC az cA cC bA bC d sgA sgC hin hsl) (bq [4,5,6,7,8]) U)<|k7 2 U<|cK<|fK U c_ U<|rP 1 [] mn ?_
 refine RK C<|ar<|mQ hQ [0] (mc 0 U mn) U ?_
 have E:=D5 (l:=l) hk
 have F:=uc (l:=l) hk
 simp only [E,F]
theorem DU (l:bj) (kA:OA) (kC:Nat) (az:List RA) (cA:OA) (cC:Nat) (bA:OA) (bC:Nat) (d:ay) (sgA:OA) (sgC:Nat) (hin:eH l az) (hsl:d.bD.ab.length≤1000000):
 dH Tryz.prog 127 [(vA (bT.cells (ki l kA kC cA cC bA bC))),(vA (aO.cells (aO.mk d.Out d.dx d.Time (jE d.bD sgA sgC))))] [(rd g6 3 2 fU),(rd kA l.aL.length 9 (l.aL.map au.cells)),(rd cA l.ak.length 2 (List.zipWith ax.cells l.ak az)),(d_ (bw ax.gL l.ak az)),(rd bA l.aa.length 4 (l.aa.map bM.cells)),(rd sgA d.bD.ab.length 2 (d.bD.ab.map aG.cells))] (vT [(vA (ag.cells (gj l d))),(vB (decide (iW l d)))]):=by
 by_cases ho:d.Out=true
 ·exact AV l kA kC az cA cC bA bC d sgA sgC hin hsl ho
 by_cases hf:d.dx=true
 ·exact AH l kA kC az cA cC bA bC d sgA sgC hin hsl ⟨by simpa using ho,hf⟩
 ·exact As l kA kC az cA cC bA bC d sgA sgC hin hsl ⟨by simpa using ho,by simpa using hf⟩
end
section
open Go.RowKit
theorem IC (lA:OA) (lN lC:Nat):
 rU Tryz.prog 125 [(vS lA lN lC)] [] (fun (x:Nat)=>(Value.func (.func 146) [].toArray [(vP x)].toArray)) (fun (x:Nat)=>True) (fun (x:Nat)=>[(cw x 29 [(vS lA lN lC)])]):=by
 refine gp kr Tryz.func125 U U fun D Q hQ hN=>?_
 try dsimp only
 refine WS fun _ A=>wu U U fun C=>bI 1 U<|RK A<|WS fun _ B=>rS (FU U)<|rP 1 [] mn ?_
 refine RK B<|ar<|LX hQ C [0] [] mn U U U U ?_
 trivial
theorem HM (nl:List Int) (nlA:OA) (nlC g1:Nat) (hlen:nl.length≤12):
 Mu Tryz.prog 146 [] [(vP g1)] [(rd nlA nl.length 1 (nl.map iC)),(cw g1 29 [(vS nlA nl.length nlC)])] (rn nl):=by
 refine EL kr Tryz.func146 U U fun l J Z A0 T Q hY K AB hQ hN=>?_
 try dsimp only
 refine WS fun _ M=>rP 3 [] (mr 2 U mn) ?_
 refine RK M<|aF ?_
 have F:(0≤nl.length)∧(J 0 A0)∧(Fo A0 T A0):=by exact ⟨Nat.zero_le _,K,AB⟩
 refine bZ (ι:={z:Nat×aw // (z.1≤nl.length)∧(J z.1 z.2)∧(Fo A0 T z.2)}) [0,1,5,6] [1] U U (fun z=>[(7,(vI (z.1.1:Int)))]) (fun z=>[z.1.2]) (fun _=>rfl) (fun _=>rfl) (fun z=>nl.length-z.1.1) ⟨(0,A0),F⟩ (bE U) (aU [1,0]) ?_
 clear F
 rintro ⟨⟨i,A⟩,⟨G,B,C⟩⟩ J2 L
 try dsimp only at G B C
 try dsimp only
 refine WS fun _ N=>rP 1 [] mn ?_
 refine RK N<|ao fun _ O=>bV U (aW fun AA=>?_) (aV fun AA=>?_)
 ·refine bQ<|ai<|ai<|aI ?_
  refine hN _ _ _ (jZ (vs:=[]) trivial fun w hs=>P_ 1 U (by rw [th]; have e:nl.length=i:=I; rw [e]; exact B) C hs)
 refine WK O<|ao fun _ P=>aF<|WS fun _ R=>?_
 obtain ⟨x,hx⟩:=aM nl i I
 have S:=bP iC hx
 refine rS (IA i U (aA 0 U) dD dc I I)<|rS (iK i 0 (vI x) U cq (aA 0 U) S U dc U)<|bI 1 U<|RK R<|WS fun _ H=>rP 2 [] mn ?_
 refine E3 1 hY B C U U U (F4 hx) U U (fun B9 E D=>?_) (fun B9 E D=>?_)
 rotate_left 1
 ·refine rP 1 [] mn ?_
  refine RK H<|aS U<|ar ?_
  refine hQ _ _ _ (jZ (vs:=[]) trivial fun w hs=>M0 1 U E D hs)
 refine bI 1 U<|RK H<|cp U<|ct<|aN<|KK P<|av<|rP 2 [] mn ?_
 refine aH ?_
 refine bp (L ⟨((i+1),B9),⟨I,E,D⟩⟩ _ _ _ U os (bE U) (aU [0,1]))
end
section
open Go.RowKit
theorem K6 (x:Int):
 dH Tryz.prog 184 [(vI x)] [] (vB false):=by
 refine bH kr Tryz.func184 U U fun C Q hQ hN=>?_
 try dsimp only
 refine WS fun _ A=>bI 1 U<|RK A<|WS fun _ B=>rP 4 [] mn ?_
 refine RK B<|ar<|Q1 hQ U U U ?_
 simp
theorem L_ (x y:Int):
 dH Tryz.prog 171 [(vI x),(vI y)] [] (vB (decide (x<y))):=by
 refine bH kr Tryz.func171 U U fun C Q hQ hN=>?_
 try dsimp only
 refine WS fun _ A=>bI 1 U<|RK A<|WS fun _ B=>bI 1 U<|rS (CL (K6 x) (aK) U)<|rP 11 [] mn ?_
 refine RK B<|ar<|Q1 hQ U U U ?_
 exact cB (fu.2 I)
theorem Ft (l:List Int) (lA:OA) (lC:Nat) (hlen:l.length≤1000000):
 Kt Tryz.prog 165 [(vS lA l.length lC),(vI 0),(vI (l.length:Int))] [] (own lA lC 3 1 (l.map iC)) (fun (x:(List Int))=>(vT [])) (fun (x:(List Int))=>x.Perm l∧x.Pairwise (· ≤ ·)) (fun (x:(List Int))=>(own lA lC 3 1 (x.map iC))):=by
 refine uE kr Tryz.func165 U U fun g Q hQ hN=>?_
 try dsimp only
 refine WS fun _ X=>bI 1 U<|rS (SX (gn (r:= .int .i64 1) U U U (ox ⟨dc,dc⟩)) U U)<|rP 1 [] mn ?_
 refine RK X<|aF ?_
 have A:(1≤1∧(1≤l.length∨1=1))∧(l.length=l.length)∧(l.Perm l)∧(NV l 1):=by exact ⟨I,rfl,List.Perm.refl _,LK⟩
 refine bZ (ι:={z:Nat×(List Int) // (1≤z.1∧(z.1≤l.length∨z.1=1))∧(z.2.length=l.length)∧(z.2.Perm l)∧(NV z.2 z.1)}) [0,1,2] [] U U (fun z=>[(6,(vI (z.1.1:Int)))]) (fun z=>[(own lA lC 3 1 (z.1.2.map iC))]) (fun _=>rfl) (fun _=>rfl) (fun z=>l.length-z.1.1) ⟨(1,l),A⟩ (bE U) (aU [0]) ?_
 clear A
 rintro ⟨⟨i,m⟩,⟨K,AB,E,F⟩⟩ J2 M
 try dsimp only at K AB E F
 try dsimp only
 refine ao fun _ Y=>WS fun _ Z=>rP 3 [] mn ?_
 refine RK Z<|bV U (aW fun e=>?_) (aV fun e=>?_)
 ·refine bQ<|ai<|ai<|aI<|LM hN m 0 [] mn U U U U ?_
  exact ⟨E,Ly F I⟩
 refine WK Y<|ao fun _ O=>aF<|WS fun _ b=>rP 2 [] mn ?_
 refine RK b<|aF ?_
 have A:(i≤i)∧(m.length=l.length)∧(m.Perm l)∧(NH m i i):=by exact ⟨Nat.le_refl _,AB,E,Gr F I⟩
 refine bZ (ι:={z:Nat×(List Int) // (z.1≤i)∧(z.2.length=l.length)∧(z.2.Perm l)∧(NH z.2 i z.1)}) [0,1,2,6] [] U U (fun z=>[(7,(vI (z.1.1:Int)))]) (fun z=>[(own lA lC 3 1 (z.1.2.map iC))]) (fun _=>rfl) (fun _=>rfl) (fun z=>z.1.1) ⟨(i,m),A⟩ (bE U) (aU [0]) ?_
 clear A
 rintro ⟨⟨j,q⟩,⟨G,B,C,D⟩⟩ J8 W
 try dsimp only at G B C D
 try dsimp only
 refine ao fun _ c=>ao fun _ J=>dw cx 15 kr<|dP 4 [] mn ?_
 refine jM (t:=19) U (aW fun hj=>?_) (aV fun hj=>?_)
 ·refine k7 11 U<|cK<|RK J<|cp U<|bQ<|ai<|ai<|aI<|aN<|KK O<|av<|rP 3 [] mn ?_
  refine aH ?_
  refine bp (M ⟨((i+1),q),⟨I,B,C,by exact G8 I D⟩⟩ _ _ _ U (by simp only []; omega) (bE U) (aU [0]))
 refine dP 2 [] mn ?_
 obtain ⟨x,hx⟩:=aM q j I
 have L:=bP iC hx
 refine dS (IA j U (aQ (n:=l.length) 0 U sq) dD dc I I) ?_
 refine dS (iK j 0 (vI x) U cq (aQ (n:=q.length) 0 U sm) L U dc U)<|dP 3 [] mn ?_
 obtain ⟨y,hy⟩:=aM q (j-1) I
 have V:=bP iC hy
 refine dS (IA (j-1) U (aQ (n:=l.length) 0 U sq) dD dc I I) ?_
 refine dS (iK (j-1) 0 (vI y) U cq (aQ (n:=q.length) 0 U sm) V U dc U)<|dS (CL (L_ x y) (aK) U)<|dP 1 [] mn ?_
 refine cK<|RK J<|bV U (aW fun H=>?_) (aV fun H=>?_)
 ·refine bQ<|ai<|ai<|aI<|aN<|KK O<|av<|rP 3 [] mn ?_
  refine aH ?_
  refine bp (M ⟨((i+1),q),⟨I,B,C,by exact JW hx hy I G H D⟩⟩ _ _ _ U (by simp only []; omega) (bE U) (aU [0]))
 refine WK c<|ao fun _ N=>aF<|dV cx [15,16,17] [8,9,12,13,14] [] [] [0] U U U U U<|eS U (MV U)<|eS U (MV U)<|eS U (MV U)<|eS U (MV U)<|eS U (BI U (xL ⟨I,I⟩))<|eS U (MV U)<|eS U (MV U)<|eS U (BI U (xL ⟨I,I⟩)) ?_
 refine fS U (IA (j-1) U (aQ (n:=l.length) 0 U sq) dD dc I I) ?_
 refine fS U (iK (j-1) 0 (vI y) U cq (aQ (n:=q.length) 0 U sm) V U dc U)<|eS U (MV U)<|eS U (MV U) ?_
 refine fS U (IA j U (aQ (n:=l.length) 0 U sq) dD dc I I) ?_
 refine fS U (iK j 0 (vI x) U cq (aQ (n:=q.length) 0 U sm) L U dc U) ?_
 refine fS U (IA j U (aQ (n:=l.length) 0 U sq) dD dc I I) ?_
 refine eJ U<|cv U fun T12 P=>jg (k:=j) (o:=0) (vs:=[(vI y)]) (es':=(List.map iC (q.set j y))) (C':=[(own lA lC 3 1 (List.map iC (q.set j y)))]) 0 U U U Eg U U U U L U dc (by exact (List.map_set (f:=iC) (l:=q) (i:=j) (a:=y)).symm) U<|aH (P _ _ (aU []) ?_)
 refine cv U fun T13 R=>?_
 obtain ⟨d,AA⟩:=aM (q.set j y) (j-1) os
 have hx15m:(List.map iC (q.set j y))[(j-1)]? =some (iC d):=by rw [fO,AA]; rfl
 refine rS (IA (j-1) U (aQ (n:=l.length) 0 U sq) dD dc I I) ?_
 refine aH (R _ _ (aU []) ?_)
 refine cv U fun T16 S=>jg (k:=(j-1)) (o:=0) (vs:=[(vI x)]) (es':=(List.map iC ((q.set j y).set (j-1) x))) (C':=[(own lA lC 3 1 (List.map iC ((q.set j y).set (j-1) x)))]) 0 U U U Eg U U U U hx15m U dc (by exact (List.map_set (f:=iC) (l:=(q.set j y)) (i:=(j-1)) (a:=x)).symm) U<|aH (S _ _ (aU []) ?_)
 refine fY U<|aN<|KK N<|av<|rP 3 [] mn ?_
 refine aH ?_
 have T:(vI (((j-1):Nat):Int))=(vI ((j:Int)-1)):=by exact cI I
 refine bp (W ⟨((j-1),((q.set j y).set (j-1) x)),⟨I,by simp; exact B,(G2 hx hy).trans C,I2 hx hy I G H D⟩⟩ _ _ _ U (by simp only []; omega) (cY 4<|bk U T<|dG.nil _) (aU [0]))
theorem Mk (x:Int) (hx:0≤x∧x≤100):
 rU Tryz.prog 175 [(Value.int .u64 x)] [] (fun (x:Int)=>(vI x)) (fun (x:Int)=>True) (fun (x:Int)=>[]):=by
 refine gp kr Tryz.func175 U U fun N Q hQ hN=>?_
 try dsimp only
 refine WS fun _ D=>bI 1 U<|RK D<|ao fun _ E=>WS fun _ F=>rP 1 [] mn ?_
 refine rS (BI U Et)<|RK F<|cH U (aV fun L=>?_) (aW fun L=>?_)
 ·exfalso; omega
 refine WK E<|ao fun _ G=>WS fun _ H=>rP 1 [] mn ?_
 refine rS (BI U Et)<|RK H<|cH U (aV fun M=>?_) (aW fun M=>?_)
 ·exfalso; omega
 refine WK G<|ao fun _ AA=>WS fun _ J=>rP 1 [] mn ?_
 refine rS (BI U Et)<|RK J<|cH U (aV fun C=>?_) (aW fun C=>?_)
 ·exfalso; omega
 refine WK AA<|WS fun _ B=>bI 2 U<|rS (SX (rF (m:=x) U U Qw OW (AR (by first|assumption|omega))) U U)<|OQ (k:=(x).toNat) U U U UA I (Nat.lt_of_lt_of_le (m:=200) I (of_decide_eq_true kr)) U fun A K=>rS (SX (rF (m:=A) U U OW s9 (oj (by first|assumption|omega))) U U)<|rP 2 [] mn ?_
 refine RK B<|ar<|LX hQ (0+A) [] [] mn U U U U ?_
 trivial
theorem Pe (x:Int) (hx:0≤x∧x≤100):
 rU Tryz.prog 159 [(Value.int .u64 x)] [] (fun (x:Int)=>(vI x)) (fun (x:Int)=>True) (fun (x:Int)=>[]):=by
 refine gp kr Tryz.func159 U U fun F Q hQ hN=>?_
 try dsimp only
 refine WS fun _ A=>bI 1 U<|RK A<|ao fun _ B=>cp U<|WK B<|WS fun _ C=>rP 1 [] mn ?_
 refine cX (Mk x hx) (aK) U fun E D=>?_
 try dsimp only
 refine rP 1 [] mn ?_
 refine RK C<|ar<|LX hQ E [] [] mn U U U U ?_
 trivial
theorem RF (l:List Int) (lA:OA) (lC:Nat) (u:Int) (hlen:l.length≤12):
 Kt Tryz.prog 158 [(vS lA l.length lC),(vI 0),(vI (l.length:Int)),(vI u)] [] (own lA lC 3 1 (l.map iC)) (fun (x:(List Int))=>(vT [])) (fun (x:(List Int))=>x.Perm l∧x.Pairwise (· ≤ ·)) (fun (x:(List Int))=>(own lA lC 3 1 (x.map iC))):=by
 refine uE kr Tryz.func158 U U fun K Q hQ hN=>?_
 try dsimp only
 refine WS fun _ A=>bI 1 U<|RK A<|WS fun _ B=>bI 1 U<|RK B<|aF<|qJ 1<|kW fun R3 AA=>aF<|WS fun _ C=>bI 4 U<|RK C<|ao fun _ H=>WS fun _ D=>rP 2 [] mn ?_
 refine RK D<|bV U (aW fun G=>?_) (aV fun G=>?_)
 ·exfalso; omega
 refine WS fun _ E=>rP 3 [] mn ?_
 refine ou 0 U U U U (Ft l lA lC I) U qR U (fun J F=>?_)
 try dsimp only
 refine RK E<|ar<|LM hQ J 0 [] mn U U U U ?_
 assumption
theorem OJ (l:List Int) (lA:OA) (lC:Nat) (hlen:l.length≤12):
 Kt Tryz.prog 145 [(vS lA l.length lC)] [] (own lA lC 3 1 (l.map iC)) (fun (x:(List Int))=>(vT [])) (fun (x:(List Int))=>x.Perm l∧x.Pairwise (· ≤ ·)) (fun (x:(List Int))=>(own lA lC 3 1 (x.map iC))):=by
 refine uE kr Tryz.func145 U U fun F Q hQ hN=>?_
 try dsimp only
 refine WS fun _ A=>bI 3 U<|RK A<|av<|rP 3 [] mn ?_
 refine rS (SX (rF (m:=(l.length:Int)) U U s9 QF (zD (by first|assumption|omega))) U U)<|cX (Pe (l.length:Int) I) (aK) U fun E B=>?_
 try dsimp only
 refine ou 0 U U U U (RF l lA lC E hlen) U qR U (fun D C=>?_)
 try dsimp only
 refine aH<|LM hN D 0 [] mn U U U U ?_
 assumption
end
section
open Go.RowKit
theorem H4 (nl:List Int) (nlA:OA) (nlC g1:Nat) (hlen:nl.length≤12):
 rU Tryz.prog 157 [(vS none 0 0),(Value.func (.func 146) [].toArray [(vP g1)].toArray)] [(rd nlA nl.length 1 (nl.map iC)),(cw g1 29 [(vS nlA nl.length nlC)])] (fun (x:(OA)×Nat)=>(vS x.1 nl.length x.2)) (fun (x:(OA)×Nat)=>True) (fun (x:(OA)×Nat)=>[(own x.1 x.2 3 1 (nl.map iC))]):=by
 refine gp kr Tryz.func157 U U fun R Q hQ hN=>?_
 try dsimp only
 refine WS fun _ D=>wu U U fun J=>bI 1 U<|RK D<|ao fun _ E=>WS fun _ G=>rP 1 [] mn ?_
 refine RK G<|aF<|jr 1 U (by exact fun _ h=>h)<|jr 3 U (by exact fun _ h=>h)<|eL 3 1 ?_
 refine D9 (L0:=[(2,(vP J))]) (F:=[(rd nlA nl.length 1 (nl.map iC)).ro,(cw g1 29 [(vS nlA nl.length nlC)]).ro]) (xs:=(rn nl)) (fun k (y:(OA)×Nat)=>True) (fun k y=>[(own y.1 y.2 3 1 ((nl.take k).map iC)),(cw J 29 [(vS y.1 ((nl.take k).length) y.2)]),(rd nlA nl.length 1 (nl.map iC)).ro]) (fun _ (_:Unit)=>False) (fun _ _=>[]) [0,3,4] [2,1] (none,0) U U (HM nl nlA nlC g1 (by first|assumption|omega|(simp; done))) U U U (by trivial) (by simp only [List.forall_mem_cons,List.not_mem_nil,false_imp_iff,implies_true,and_true]; exact ⟨⟨_,sm,(dJ (bX _))⟩,⟨_,sm,(dJ (bX _))⟩⟩) (by exact C_) U (bE U) ?_ ?_ (fun _ _ _ h=>h.elim) (fun _ _ h=>h.elim)
 rotate_left 1
 ·rintro O ⟨a,c⟩ AA
  try dsimp only
  rw [yj]
  refine aN<|KK E<|WS fun _ A=>rP 2 [] (mc 4 U mn) ?_
  refine RK A<|ar<|hQ _ _ _ (rq 0 U U<|jZ (vs:=[(vS a nl.length c)]) ⟨U,trivial⟩ fun w hs=>OZ (a,c) [3] ?_ ?_ U U U hs)
  ·rfl
  ·trivial
 rintro k x ⟨a,c⟩ l ra rb S T K5 Qr6 hx K H B L M
 obtain ⟨y,hy,rfl⟩:=Fg hx
 try dsimp only
 refine av<|rP 1 [] mn ?_
 refine aH<|bp (H _ _ ?_)
 refine aF<|av<|rP 2 [] (mc 2 U mn) ?_
 refine ew (xs:=[.tmp 9]) (cs:=[(vI y)]) U dD kl U U U U (by simp [Value.cells]) U U fun P=>?_
 refine fF (es2:=(List.map iC (nl.take (k+1)))) (m':=(nl.take (k+1)).length) 2 U U U tx U U sm (bo (es:=List.map iC [y]) 0 U U (by simp [bO]) U) (lW _) (by simp; omega) (by simp [maxLen]; omega) (by rw [w7 hy]; simp) sm U fun N C=>?_
 try dsimp only
 refine Uy U Mj U U<|aH<|aN ?_
 exact B (N,C) _ _ (by trivial) (aU [1,2,3,4])
theorem Fs (nl:List Int) (nlA:OA) (nlC g1:Nat) (hlen:nl.length≤12):
 rU Tryz.prog 144 [(Value.func (.func 146) [].toArray [(vP g1)].toArray)] [(rd nlA nl.length 1 (nl.map iC)),(cw g1 29 [(vS nlA nl.length nlC)])] (fun (x:(OA)×Nat)=>(vS x.1 nl.length x.2)) (fun (x:(OA)×Nat)=>True) (fun (x:(OA)×Nat)=>[(own x.1 x.2 3 1 (nl.map iC))]):=by
 refine gp kr Tryz.func144 U U fun G Q hQ hN=>?_
 try dsimp only
 refine WS fun _ A=>bI 1 U<|RK A<|WS fun _ B=>rP 1 [] mn ?_
 refine cX (H4 nl nlA nlC g1 hlen) (bq [0,1]) U fun F E=>?_
 obtain ⟨C,D⟩:=F
 try dsimp only
 refine rP 1 [] mn ?_
 refine RK B<|ar<|LX hQ (C,D) [0] [] mn U U U U ?_
 trivial
theorem JI (nl:List Int) (nlA:OA) (nlC g1:Nat) (hlen:nl.length≤12):
 rU Tryz.prog 124 [(Value.func (.func 146) [].toArray [(vP g1)].toArray)] [(rd nlA nl.length 1 (nl.map iC)),(cw g1 29 [(vS nlA nl.length nlC)])] (fun (x:(OA)×Nat)=>(vS x.1 nl.length x.2)) (fun (x:(OA)×Nat)=>True) (fun (x:(OA)×Nat)=>[(own x.1 x.2 3 1 ((nN nl).map iC))]):=by
 refine gp kr Tryz.func124 U U fun J Q hQ hN=>?_
 try dsimp only
 refine WS fun _ B=>bI 1 U<|RK B<|WS fun _ C=>rP 1 [] mn ?_
 refine cX (Fs nl nlA nlC g1 hlen) (bq [0,1]) U fun AA H=>?_
 obtain ⟨F,G⟩:=AA
 try dsimp only
 refine bI 1 U<|RK C<|WS fun _ D=>rP 1 [] mn ?_
 refine ou 0 U U U U (OJ nl F G hlen) U qR U (fun m A=>?_)
 try dsimp only
 refine RK D<|WS fun _ E=>?_
 obtain rfl:=BR A.1 A.2
 skip
 refine rP 2 [] mn ?_
 refine RK E<|ar<|LX hQ (F,G) [0] [] mn U U U U ?_
 trivial
end
section
open Go.RowKit
theorem H6 (r:fg) (kA:OA) (kC:Nat) (az:List RA) (cA:OA) (cC:Nat) (bA:OA) (bC:Nat) (slA:OA) (slC:Nat) (drA:OA) (drC:Nat) (ha:List dQ) (heA:OA) (heC:Nat) (tz:List RA) (tA:OA) (tC:Nat) (ms:Value) (gw h:Nat) (gm g1 g2:Nat) (hin:oW r az ha) (htz:tz.length=r.aB.length) (hh:h<r.aB.length) (hok:km r (h+1)):
 Kt Tryz.prog 150 [(vI (h:Int)),(vP g1),(vP g2)] [(rd kA r.aj.aL.length 9 (r.aj.aL.map au.cells)),(rd cA r.aj.ak.length 2 (List.zipWith ax.cells r.aj.ak az)),(d_ (bw ax.gL r.aj.ak az)),(rd bA r.aj.aa.length 4 (r.aj.aa.map bM.cells)),(rd slA r.aT.length 1 (r.aT.map iC)),(rd drA r.bS.length 1 (r.bS.map iC)),(rd heA r.aB.length 1 (List.zipWith dz r.aB ha)),(d_ (bw fy r.aB ha)),(rd tA ((fP r).length) 1 (List.zipWith KC (fP r) tz)),(d_ (bw Pr (fP r) tz)),(cw gw 212 (kB.cells (kB.mk (DP r kA kC cA cC bA bC slA slC drA drC heA heC) (aR.mk tA ((fP r).length) tC) ms))),(cw g1 187 [(vP gw)]),(cw g2 153 [(Value.map (some gm))])] (kh iV gm (cR jY (eA r.aj r.aB r.aT.length h 0))) (fun (x:Unit)=>(vT [])) (fun (x:Unit)=>True) (fun (x:Unit)=>(kh iV gm (cR jY (eA r.aj r.aB r.aT.length (h+1) 0)))):=by
 have v:=hin.line
 have A5:=hin.jd
 have A6:=hin.has
 have Ak:=hin.ji
 have AC:=hin.draw
 have A0:=lg (r:=r)
 refine uE kr Tryz.func150 U U fun w0 Q hQ hN=>?_
 try dsimp only
 refine WS fun _ g=>e7 1 [] (mr 12 U mn) U<|rS (SX (cQ U U) U U)<|rP 3 [] (mr 11 U mn) ?_
 obtain ⟨ht,B⟩:=aM r.aB h I
 obtain ⟨A,C⟩:=aM ha h I
 have Z:(List.zipWith dz r.aB ha)[h]? =some (dz ht A):=er B C
 have s:=hin.fZ _ _ _ B C
 have AO:=s.oY
 have N:=hok h ht I B
 obtain ⟨tr,G⟩:=aM (fP r) h I
 obtain ⟨tra,F⟩:=aM tz h I
 have c:(List.zipWith KC (fP r) tz)[h]? =some (KC tr tra):=er G F
 refine rS (IA h U (aA 9 U) Il dc I I)<|rS (iK h 0 (vS tra.1 tr.length tra.2) U cq (aA 9 U) c U dc U) ?_
 have AB:=FL B G
 have A2:tr.length=r.aT.length:=by rw [AB,List.length_map]; exact N.1
 have A1:=N.1
 refine rP 2 [] mn ?_
 refine RK g<|aF ?_
 have E:(0≤r.aT.length):=by exact Nat.zero_le _
 refine bZ (ι:={z:Nat // (z≤r.aT.length)}) [0,1,2,14,15] [1,2,3,4,5,6,7,8,9,10,11,12,13] U U (fun z=>[(16,(vI (z.1:Int)))]) (fun z=>[(kh iV gm (cR jY (eA r.aj r.aB r.aT.length h z.1)))]) (fun _=>rfl) (fun _=>rfl) (fun z=>r.aT.length-z.1) ⟨0,E⟩ (bE U) (aU [1,2,3,4,5,6,7,8,9,10,11,12,13,0]) ?_
 clear E
 rintro ⟨i,u⟩ J2 K
 try dsimp only
 have a:i<r.aT.length→(eA r.aj r.aB r.aT.length h i).lookup (i:Int)=j1 r.aj r.aB i h:=It
 refine WS fun _ k=>rP 1 [] mn ?_
 refine RK k<|ao fun _ m=>bV U (aW fun h5=>?_) (aV fun h5=>?_)
 ·refine bQ<|ai<|ai<|aI ?_
  rw [show (eA r.aj r.aB r.aT.length h i)=(eA r.aj r.aB r.aT.length (h+1) 0) from by rw [show i=r.aT.length by omega]; exact LU]
  refine LM hN () 13 [] mn U U U U ?_
  trivial
 refine WK m<|ao fun _ L=>aF<|WS fun _ n=>rP 1 [] mn ?_
 obtain ⟨x,hx⟩:=aM tr i I
 have y:=bP ag.cells hx
 refine rS (IA i U (show js _ (rd tra.1 tr.length 2 (tr.map ag.cells)).holds from (df 9 U (bW G F (by simp [Pr])))) lk dc I I)<|rS (lQ i 0 (ag.cells x) U cq (show js _ (rd tra.1 tr.length 2 (tr.map ag.cells)).holds from (df 9 U (bW G F (by simp [Pr])))) y U dc U U)<|AL U ed fun b8=>bI 1 U<|fK U c_ U<|RK n<|WS fun _ o=>e7 2 [] (mr 13 U mn) U<|rS (SX (sM (kV:=iV) (x:=(i:Int)) (l:=(eA r.aj r.aB r.aT.length h i)) (f:=jY) (z:=(ag.mk 0 0)) U U U su (iM s9) Th (by exact aA 14 U)) U U)<|bI 3 U<|AL U ed fun A3=>fK U c_ U<|bI 1 U<|RK o<|ao fun _ P=>WS fun _ H=>e7 1 [] (mr 13 U mn) U<|rS (SX (cQ U U) U U)<|e7 4 [] (mr 12 U mn) U<|rS (IA h U (aA 8 U) sT dc I I)<|rS (iK h 0 (vS A.1.1 ht.length A.1.2) U cq (aA 8 U) Z U dc U)<|rP 1 [] mn ?_
 obtain ⟨d,hd⟩:=aM ht i I
 obtain ⟨da,p⟩:=aM A.2 i I
 have q:(List.zipWith ay.cells ht A.2)[i]? =some (ay.cells d da):=er hd p
 refine rS (IA i U (show js _ (rd A.1.1 ht.length 7 (List.zipWith ay.cells ht A.2)).holds from (df 9 U (bW B C cJ))) vn dc I I)<|rS (qA (i*7) U (show js _ (rd A.1.1 ht.length 7 (List.zipWith ay.cells ht A.2)).holds from (df 9 U (bW B C cJ))) (Nat.mul_pos I dc) fT U)<|rS (iK i 0 (vB d.Out) U cq (show js _ (rd A.1.1 ht.length 7 (List.zipWith ay.cells ht A.2)).holds from (df 9 U (bW B C cJ))) q U dc U)<|rP 1 [] mn ?_
 refine cg (t:=39) U (fun J=>?_) (fun J=>?_)
 ·refine bI 3 U<|RK H<|aS U<|WS fun _ R=>rP 2 [] (mr 14 U mn) ?_
  have T:(eY (eA r.aj r.aB r.aT.length h i) (i:Int))=(eA r.aj r.aB r.aT.length h (i+1)):=by exact EF (by exact GP B hd J)
  refine sQ (kV:=iV) (x:=(i:Int)) (C':=[_,_,_,_,_,_,_,_,_,_,_,_,_,_,_,(kh iV gm (cR jY (eA r.aj r.aB r.aT.length h (i+1))))]) 15 U U U U su (iM s9) U ((nQ _ _ _).symm.trans (congrArg _ T)) U<|RK R<|bQ<|ai<|aI<|KK L<|av<|rP 2 [] mn ?_
  refine aH ?_
  have AA:(vI (((i+1):Nat):Int))=(vI ((i:Int)+1)):=by exact cI I
  refine bp (K ⟨(i+1),(by first|omega|(simp only []; omega))⟩ _ _ _ U os (cY 5<|bk U AA<|dG.nil _) (aU [2,3,4,5,6,7,8,9,10,11,12,13,14,15]))
 refine rP 3 [] mn ?_
 refine RK H<|cH U (fun D=>?_) (fun D=>?_)
 ·rw [Bool.not_eq_true'] at D
  refine WS fun _ S=>rP 2 [] (mr 14 U mn) ?_
  have V:(eY (eA r.aj r.aB r.aT.length h i) (i:Int))=(eA r.aj r.aB r.aT.length h (i+1)):=by exact EF (by exact DL ((a I).symm.trans (Option.not_isSome_iff_eq_none.1 (by rw [D]; decide))))
  refine sQ (kV:=iV) (x:=(i:Int)) (C':=[_,_,_,_,_,_,_,_,_,_,_,_,_,_,_,(kh iV gm (cR jY (eA r.aj r.aB r.aT.length h (i+1))))]) 15 U U U U su (iM s9) U ((nQ _ _ _).symm.trans (congrArg _ V)) U<|RK S<|bQ<|ai<|aI<|KK L<|av<|rP 2 [] mn ?_
  refine aH ?_
  have W:(vI (((i+1):Nat):Int))=(vI ((i:Int)+1)):=by exact cI I
  refine bp (K ⟨(i+1),(by first|omega|(simp only []; omega))⟩ _ _ _ U os (cY 5<|bk U W<|dG.nil _) (aU [2,3,4,5,6,7,8,9,10,11,12,13,14,15]))
 rw [Bool.not_eq_false'] at D
 refine WK P<|av ?_
 obtain ⟨O,b⟩:=Option.isSome_iff_exists.1 D
 have M:j1 r.aj r.aB i h=some O:=(a I).symm.trans b
 have e:=N7 AB hx hd
 have A7:=Ek (fun j x hj hx=>hok j x I hx) I M
 have w:=E0 (N.2 d (aP hd))
 rw [← e] at w
 rw [show ((List.lookup (i:Int) (eA r.aj r.aB r.aT.length h i)).getD (ag.mk 0 0))=O from by rw [b]; rfl]
 refine e7 6 [0,1,2] (mr 14 U (mc 0 U (mc 1 U mn))) U<|rS (BI U (uk I I I))<|e7 5 [0,1] (mc 0 U (mc 1 U mn)) U<|rS (BI U (uk I I I))<|rP 1 [] mn ?_
 refine rS (SX (bf (xs:=[(0,.tmp 52),(1,.tmp 58)]) (cs:=(ag.cells (ag.mk (O.Lo+(x.Lo/10)) (O.Hi+(x.Hi/10))))) U U (bg gZ U)) U U) ?_
 have X:(eo (eA r.aj r.aB r.aT.length h i) (i:Int) (ag.mk (O.Lo+(x.Lo/10)) (O.Hi+(x.Hi/10))))=(eA r.aj r.aB r.aT.length h (i+1)):=by exact Ls I (by rw [M]; rfl) (by rw [e]; exact C7 B hd (by rw [J]; decide) M)
 refine ja (kV:=iV) (x:=(i:Int)) (C':=[_,_,_,_,_,_,_,_,_,_,_,_,_,_,_,(kh iV gm (cR jY (eA r.aj r.aB r.aT.length h (i+1))))]) 15 U U U U su (iM s9) U ((gN _ _ _ _).symm.trans (congrArg _ X)) U<|aH<|aN<|KK L<|av<|rP 2 [] mn ?_
 refine aH ?_
 have Y:(vI (((i+1):Nat):Int))=(vI ((i:Int)+1)):=by exact cI I
 refine bp (K ⟨(i+1),(by first|omega|(simp only []; omega))⟩ _ _ _ U os (cY 5<|bk U Y<|dG.nil _) (aU [2,3,4,5,6,7,8,9,10,11,12,13,14,15]))
theorem PF (r:fg) (kA:OA) (kC:Nat) (az:List RA) (cA:OA) (cC:Nat) (bA:OA) (bC:Nat) (slA:OA) (slC:Nat) (drA:OA) (drC:Nat) (ha:List dQ) (heA:OA) (heC:Nat) (tz:List RA) (tA:OA) (tC:Nat) (ms:Value) (gw n:Nat) (hin:oW r az ha) (htz:tz.length=r.aB.length) (hn:n≤r.aB.length) (hok:km r n):
 rU Tryz.prog 128 [(vP gw),(vI (n:Int))] [(rd kA r.aj.aL.length 9 (r.aj.aL.map au.cells)),(rd cA r.aj.ak.length 2 (List.zipWith ax.cells r.aj.ak az)),(d_ (bw ax.gL r.aj.ak az)),(rd bA r.aj.aa.length 4 (r.aj.aa.map bM.cells)),(rd slA r.aT.length 1 (r.aT.map iC)),(rd drA r.bS.length 1 (r.bS.map iC)),(rd heA r.aB.length 1 (List.zipWith dz r.aB ha)),(d_ (bw fy r.aB ha)),(rd tA ((fP r).length) 1 (List.zipWith KC (fP r) tz)),(d_ (bw Pr (fP r) tz)),(cw gw 212 (kB.cells (kB.mk (DP r kA kC cA cC bA bC slA slC drA drC heA heC) (aR.mk tA ((fP r).length) tC) ms)))] (fun (x:Nat)=>(Value.map (some x))) (fun (x:Nat)=>True) (fun (x:Nat)=>[(kh iV x (cR jY (BG r n)))]):=by
 have c:=hin.line
 have m:=hin.jd
 have o:=hin.has
 have e:=hin.ji
 have d:=hin.draw
 have f:=lg (r:=r)
 refine gp kr Tryz.func128 U U fun q Q hQ hN=>?_
 try dsimp only
 refine WS fun _ V=>wu U U fun k=>rP 1 [] mn ?_
 refine RK V<|WS fun _ W=>mJ (kV:=iV) U U fun B=>?_
 try dsimp only
 refine AL U Qv fun l=>KD U Ei U U<|RK W<|ao fun _ X=>WS fun _ Y=>e7 1 [] (mc 2 U mn) U<|rS (SX (cQ U U) U U)<|rP 5 [] (mr 13 U mn) ?_
 refine RK Y<|aF ?_
 skip
 have A:(0≤r.aT.length):=by exact Nat.zero_le _
 refine bZ (ι:={z:Nat // (z≤r.aT.length)}) [1,2,5,15] [0,2,3,4,5,6,7,8,9,10,11,12,13] U U (fun z=>[(16,(vI (z.1:Int)))]) (fun z=>[(kh iV B (cR jY (eA r.aj r.aB z.1 0 0)))]) (fun _=>rfl) (fun _=>rfl) (fun z=>r.aT.length-z.1) ⟨0,A⟩ (bE U) (aU [0,2,3,4,5,6,7,8,9,10,11,12,13,1]) ?_
 clear A
 rintro ⟨i,a⟩ J8 AA
 try dsimp only
 refine WS fun _ Z=>rP 1 [] mn ?_
 refine RK Z<|ao fun _ D=>cH U (aV fun S=>?_) (aW fun S=>?_)
 ·refine WK D<|ao fun _ E=>aF<|WS fun _ F=>bI 2 U<|RK F<|av<|rP 2 [] (mc 0 U mn) ?_
  refine rS (SX (bf (xs:=[]) (cs:=(ag.cells (ag.mk 0 0))) U U (bg gZ U)) U U) ?_
  have O:(eo (eA r.aj r.aB i 0 0) (i:Int) (ag.mk 0 0))=(eA r.aj r.aB (i+1) 0 0):=by exact Lg
  refine ja (kV:=iV) (x:=(i:Int)) (C':=[_,_,_,_,_,_,_,_,_,_,_,_,_,(kh iV B (cR jY (eA r.aj r.aB (i+1) 0 0)))]) 13 U U U U su (iM s9) U ((gN _ _ _ _).symm.trans (congrArg _ O)) U<|aH<|aN<|KK E<|av<|rP 2 [] mn ?_
  refine aH ?_
  have P:(vI (((i+1):Nat):Int))=(vI ((i:Int)+1)):=by exact cI I
  refine bp (AA ⟨(i+1),(by first|omega|(simp only []; omega))⟩ _ _ _ U os (cY 4<|bk U P<|dG.nil _) (aU [0,1,2,3,4,5,6,7,8,9,10,11,12,13]))
 refine bQ<|ai<|ai<|aI<|KK X<|WS fun _ G=>rS (FU U)<|bI 1 U<|RK G<|ao fun _ H=>WS fun _ AB=>rP 2 [] mn ?_
 refine RK AB<|aF ?_
 rw [show (eA r.aj r.aB i 0 0)=(eA r.aj r.aB r.aT.length 0 0) from by rw [show i=r.aT.length by omega]]
 have A:(0≤n):=by exact Nat.zero_le _
 refine bZ (ι:={z:Nat // (z≤n)}) [2,5,7,24] [0,1,2,3,4,5,6,7,8,9,10,11,12] U U (fun z=>[(25,(vI (z.1:Int)))]) (fun z=>[(kh iV B (cR jY (eA r.aj r.aB r.aT.length z.1 0)))]) (fun _=>rfl) (fun _=>rfl) (fun z=>n-z.1) ⟨0,A⟩ (bE U) (aU [0,1,2,3,4,5,6,7,8,9,10,11,12,13]) ?_
 clear A
 rintro ⟨h,b⟩ J19 C
 try dsimp only
 refine WS fun _ J=>rP 1 [] mn ?_
 refine RK J<|ao fun _ K=>bV U (aW fun T=>?_) (aV fun T=>?_)
 ·refine bQ<|ai<|ai<|aI<|KK H<|ao fun _ N=>?_
  rw [show (eA r.aj r.aB r.aT.length h 0)=(BG r n) from by rw [show h=n by omega]; exact KN]
  refine av<|rP 2 [] (mc 0 U mn) ?_
  refine RK N<|ar<|LX hQ B [13] [] mn U U U U ?_
  trivial
 refine WK K<|ao fun _ L=>aF<|WS fun _ M=>bI 2 U<|RK M<|av<|rP 2 [] mn ?_
 refine ou 13 U U U U (H6 r kA kC az cA cC bA bC slA slC drA drC ha heA heC tz tA tC ms gw h B k l hin htz I (by exact fun j x hj hx=>hok j x I hx)) U (ep 2 U U (dJ (bX _)) (ep 3 U U (dJ (bX _)) (ep 4 U U (dJ (bX _)) (ep 5 U U (dJ (bX _)) (ep 6 U U (dJ (bX _)) (ep 7 U U (dJ (bX _)) (ep 8 U U (dJ (bX _)) (ep 9 U U (dJ (bX _)) (ep 10 U U (dJ (bX _)) (ep 11 U U (dJ (bX _)) (ep 12 U U (dJ (bX _)) (ep 1 U U (bX _) (ep 0 U U (bX _) qR))))))))))))) U (fun p g=>?_)
 try dsimp only
 refine aH<|aN<|KK L<|av<|rP 2 [] mn ?_
 refine aH ?_
 have R:(vI (((h+1):Nat):Int))=(vI ((h:Int)+1)):=by exact cI I
 refine bp (C ⟨(h+1),(by first|omega|(simp only []; omega))⟩ _ _ _ U os (cY 4<|bk U R<|dG.nil _) (aU [0,1,2,3,4,5,6,7,8,9,10,11,12,13]))
end
section
open Go.RowKit
theorem K9 (r:fg) (kA:OA) (kC:Nat) (az:List RA) (cA:OA) (cC:Nat) (bA:OA) (bC:Nat) (slA:OA) (slC:Nat) (drA:OA) (drC:Nat) (ha:List dQ) (heA:OA) (heC:Nat) (hin:oW r az ha):
 rU Tryz.prog 103 [(vA (di.cells (DP r kA kC cA cC bA bC slA slC drA drC heA heC)))] [(rd g6 3 2 fU),(rd kA r.aj.aL.length 9 (r.aj.aL.map au.cells)),(rd cA r.aj.ak.length 2 (List.zipWith ax.cells r.aj.ak az)),(d_ (bw ax.gL r.aj.ak az)),(rd bA r.aj.aa.length 4 (r.aj.aa.map bM.cells)),(rd slA r.aT.length 1 (r.aT.map iC)),(rd drA r.bS.length 1 (r.bS.map iC)),(rd heA r.aB.length 1 (List.zipWith dz r.aB ha)),(d_ (bw fy r.aB ha))] (fun (x:Bool×Int×Nat×Nat×(OA)×Nat×(List RA))=>bif x.1 then (vT [(Value.pointer (some ⟨x.2.2.1,0,none⟩)),(vI 0)]) else (vT [(Value.pointer none),(vI x.2.1)])) (fun (x:Bool×Int×Nat×Nat×(OA)×Nat×(List RA))=>(x.1=true→(jP r=0∧x.2.2.2.2.2.2.length=r.aB.length))∧(x.1=false→(x.2.1=jP r∧ ¬ jP r=0))) (fun (x:Bool×Int×Nat×Nat×(OA)×Nat×(List RA))=>bif x.1 then [(cw x.2.2.1 212 (kB.cells (kB.mk (DP r kA kC cA cC bA bC slA slC drA drC heA heC) (aR.mk x.2.2.2.2.1 ((fP r).length) x.2.2.2.2.2.1) (Value.map (some x.2.2.2.1))))),(own x.2.2.2.2.1 x.2.2.2.2.2.1 204 1 (List.zipWith KC (fP r) x.2.2.2.2.2.2)),(cd (bw ET (fP r) x.2.2.2.2.2.2)),(kh iV x.2.2.2.1 (cR jY (Nb r)))] else []):=by
 have K8:=hin.line
 have Op:=hin.jd
 have Or:=hin.has
 have L3:=hin.ji
 have L0:=hin.draw
 have GE:=lg (r:=r)
 refine gp kr Tryz.func103 U U fun w0 Q hQ hN=>?_
 try dsimp only
 refine WS fun _ J7=>eK U fun b2=>bI 2 U<|RK J7<|ao fun _ J8=>WS fun _ J9=>bI 1 U<|rS (LP (bT.cells (ki r.aj kA kC cA cC bA bC)) 0 U cq U U U)<|rS (CL (x3 r.aj kA kC az cA cC bA bC asm) (bq [2,3,4,5]) U)<|bI 1 U<|RK J9<|WS fun _ Ka=>rP 2 [] mn ?_
 refine RK Ka<|cH U (bu fun B=>?_) (br fun B=>?_)
 ·refine WS fun _ Kh=>rP 3 [] mn ?_
  refine RK Kh<|ar<|LX hQ (false,(dI r.aj),0,0,none,0,[]) [] [] mn U (by rfl) U U ?_
  exact v8<|D7 (yI B) B
 refine WK J8<|WS fun _ Kj=>e7 4 [] (mc 0 U mn) U<|RK Kj<|WS fun _ Kz=>rP 2 [] (mc 0 U mn) ?_
 refine cX (IC drA r.bS.length drC) (aK) U fun H1 M2=>?_
 try dsimp only
 refine cX (JI r.bS drA drC H1 asm) (bq [8,0]) U fun Lo NE=>?_
 obtain ⟨NZ,Ok⟩:=Lo
 try dsimp only
 refine bI 1 U<|RK Kz<|ao fun _ e=>WS fun _ H=>rP 1 [] mn ?_
 refine ew (xs:=[.tmp 29]) (cs:=[(vI (r.aT.length:Int))]) U dD kl U U U U (by simp [Value.cells]) U U fun IO=>?_
 refine rS (CL (dH.eq (uh 1 5 ([(r.aT.length:Int)]) (some ⟨IO,0,none⟩) 1 (by (simp; done))) cz) (aJ (bo 0 U U (by simp [bO]) U)<|aK) U) ?_
 refine rP 2 [] mn ?_
 refine cg (t:=33) U (bu fun If=>?_) (br fun If=>?_)
 ·refine bI 26 U<|RK H<|aS U<|WS fun _ f=>rP 2 [] mn ?_
  refine RK f<|ar<|LX hQ (false,60,0,0,none,0,[]) [] [] mn U (by rfl) U U ?_
  exact v8<|nY (kR B (fun q:fH r=>by have q1:=q.num; have q2:=q.zp; have q3:=q.nh; have q4:=q.Ak; omega))
 refine rP 6 [] mn ?_
 refine cg (t:=39) U (bu fun In=>?_) (br fun In=>?_)
 ·refine bI 20 U<|RK H<|aS U<|WS fun _ g=>rP 2 [] mn ?_
  refine RK g<|ar<|LX hQ (false,60,0,0,none,0,[]) [] [] mn U (by rfl) U U ?_
  exact v8<|nY (kR B (fun q:fH r=>by have q1:=q.num; have q2:=q.zp; have q3:=q.nh; have q4:=q.Ak; omega))
 refine rP 2 [] (mc 3 U mn) ?_
 refine ew (xs:=[.tmp 41]) (cs:=[(vI r.f_)]) U dD kl U U U U (by simp [Value.cells]) U U fun IR=>?_
 refine rS (CL (dH.eq (uh 0 5 ([r.f_]) (some ⟨IR,0,none⟩) 1 (by (simp; done))) cz) (aJ (bo 0 U U (by simp [bO]) U)<|aK) U) ?_
 refine rP 3 [] mn ?_
 refine cg (t:=46) U (bu fun I8=>?_) (br fun I8=>?_)
 ·refine bI 13 U<|RK H<|aS U<|WS fun _ k=>rP 2 [] mn ?_
  refine RK k<|ar<|LX hQ (false,60,0,0,none,0,[]) [] [] mn U (by rfl) U U ?_
  exact v8<|nY (kR B (fun q:fH r=>by have q1:=q.num; have q2:=q.zp; have q3:=q.nh; have q4:=q.Ak; omega))
 refine rP 3 [] (mc 4 U mn) ?_
 refine ew (xs:=[.tmp 49]) (cs:=[(vI (r.aB.length:Int))]) U dD kl U U U U (by simp [Value.cells]) U U fun Id=>?_
 refine rS (CL (dH.eq (uh 1 3 ([(r.aB.length:Int)]) (some ⟨Id,0,none⟩) 1 (by (simp; done))) cz) (aJ (bo 0 U U (by simp [bO]) U)<|aK) U) ?_
 refine rP 3 [] mn ?_
 refine cg (t:=54) U (bu fun Ja=>?_) (br fun Ja=>?_)
 ·refine bI 5 U<|RK H<|aS U<|WS fun _ l=>rP 2 [] mn ?_
  refine RK l<|ar<|LX hQ (false,60,0,0,none,0,[]) [] [] mn U (by rfl) U U ?_
  exact v8<|nY (kR B (fun q:fH r=>by have q1:=q.num; have q2:=q.zp; have q3:=q.nh; have q4:=q.Ak; omega))
 refine e7 2 [] (mc 5 U mn) U<|rS (CL (uh 0 9999 r.aT slA slC asm) (bq [11]) U)<|rP 2 [] mn ?_
 refine RK H<|cH U (fun N=>?_) (fun N=>?_)
 ·rw [Bool.not_eq_true'] at N
  refine WS fun _ m=>rP 2 [] mn ?_
  refine RK m<|ar<|LX hQ (false,60,0,0,none,0,[]) [] [] mn U (by rfl) U U ?_
  exact v8<|nY (kR B (fun q:fH r=>by exact absurd (q.ins.symm.trans N) dc))
 rw [Bool.not_eq_false'] at N
 refine WK e<|ao fun _ o=>WS fun _ p=>?_
 have Os:(nN r.bS).length=r.aT.length:=by rw [tW]; omega
 refine rP 2 [] mn ?_
 refine RK p<|aF ?_
 have A:(0≤r.aT.length)∧(rM r 0):=by exact ⟨Nat.zero_le _,Cy⟩
 refine bZ (ι:={z:Nat // (z≤r.aT.length)∧(rM r z)}) [1,5,6,60] [3,5,6,7,8,9,10,11,12,13,14] U U (fun z=>[(61,(vI (z.1:Int)))]) (fun z=>[]) (fun _=>rfl) (fun _=>rfl) (fun z=>r.aT.length-z.1) ⟨0,A⟩ (bE U) (aU [3,5,6,7,8,9,10,11,12,13,14]) ?_
 clear A
 rintro ⟨i,⟨K5,J⟩⟩ J28 V
 try dsimp only
 refine WS fun _ s=>rP 1 [] mn ?_
 refine RK s<|ao fun _ w=>cH U (aV fun J3=>?_) (aW fun J3=>?_)
 ·refine WK w<|ao fun _ W=>aF<|WS fun _ AC=>bI 2 U<|RK AC<|ao fun _ O=>dw cx 24 kr<|dP 2 [] mn ?_
  obtain ⟨x,hx⟩:=aM (nN r.bS) i I
  have LA:=bP iC hx
  refine dS (IA i U (aQ (n:=r.bS.length) 0 U sq) dD dc I I) ?_
  refine dS (iK i 0 (vI x) U cq (aQ (n:=(nN r.bS).length) 0 U sm) LA U dc U)<|dP 3 [] mn ?_
  refine ia (t:=70) U (bu fun S=>?_) (br fun S=>?_)
  ·refine k7 17 U<|cK<|RK O<|aS U<|WS fun _ AO=>rP 2 [] mn ?_
   refine RK AO<|ar<|LX hQ (false,60,0,0,none,0,[]) [] [] mn U (by rfl) U U ?_
   exact v8<|nY (kR B (fun q:fH r=>by exact absurd (q.drawn hx) S))
  refine dP 3 [] mn ?_
  refine jM (t:=73) U (aW fun J4=>?_) (aV fun J4=>?_)
  ·refine k7 14 U<|cK<|RK O<|cp U<|ct<|aN<|KK W<|av<|rP 2 [] mn ?_
   refine aH ?_
   have EQ:(vI (((i+1):Nat):Int))=(vI ((i:Int)+1)):=by exact cI I
   refine bp (V ⟨(i+1),⟨I,wQ J hx S (fun u v hu hv hw=>by omega)⟩⟩ _ _ _ U os (cY 4<|bk U EQ<|dG.nil _) (aU [0,1,2,3,4,5,6,7,8,9,10]))
  refine dP 3 [] (mc 1 U mn) ?_
  obtain ⟨y,hy⟩:=aM r.aT i I
  have LE:=bP iC hy
  refine dS (IA i U (aA 7 U) dD dc I I)<|dS (iK i 0 (vI y) U cq (aA 7 U) LE U dc U)<|dP 4 [] (mc 1 U mn) ?_
  obtain ⟨z,hz⟩:=aM r.aT (i-1) I
  have LT:=bP iC hz
  refine dS (IA (i-1) U (aA 7 U) dD dc I I)<|dS (iK (i-1) 0 (vI z) U cq (aA 7 U) LT U dc U)<|dP 3 [] mn ?_
  refine cK<|RK O<|bV U (aW fun J5=>?_) (aV fun J5=>?_)
  ·refine ct<|aN<|KK W<|av<|rP 2 [] mn ?_
   refine aH ?_
   have EP:(vI (((i+1):Nat):Int))=(vI ((i:Int)+1)):=by exact cI I
   refine bp (V ⟨(i+1),⟨I,wQ J hx S (fun u v hu hv hw=>by (rw [hy] at hu; cases hu; rw [hz] at hw; cases hw; omega))⟩⟩ _ _ _ rfl os (cY 4<|bk rfl EP<|dG.nil _) (aU [0,1,2,3,4,5,6,7,8,9,10]))
  refine WS fun _ A0=>rP 2 [] mn ?_
  refine RK A0<|ar<|LX hQ (false,60,0,0,none,0,[]) [] [] mn U (by rfl) U U ?_
  exact v8<|nY (kR B (fun q:fH r=>by have q1:=(q.ids i y hy).2 z I hz; omega))
 refine bQ<|ai<|ai<|aI<|KK o<|WS fun _ A1=>e7 1 [] (mc 1 U mn) U<|rS (SX (bf (xs:=[(0,.tmp 89)]) (cs:=(kB.cells (kB.mk (DP r kA kC cA cC bA bC slA slC drA drC heA heC) (aR.mk none 0 0) (Value.map none)))) U U (bg Rb U)) U U)<|eK U fun L=>bI 1 U<|RK A1<|ao fun _ A2=>WS fun _ A3=>rP 4 [] (mc 2 U mn) ?_
 refine RK A3<|aF<|eL 204 1<|ru ?_
 have A:(0≤r.aB.length)∧(([]:List RA).length=0)∧(km r 0):=by exact ⟨Nat.zero_le _,rfl,xD⟩
 refine bZ (ι:={z:Nat×(List RA)×(OA)×Nat // (z.1≤r.aB.length)∧(z.2.1.length=z.1)∧(km r z.1)}) [1,5,8,93,94] [3,4,5,6,7,8,9,10,11,12,13] U U (fun z=>[(95,(vI (z.1.1:Int)))]) (fun z=>[(cd (bw ET (gV r z.1.1) z.1.2.1)),(own z.1.2.2.1 z.1.2.2.2 204 1 (List.map sC (List.zipWith BE (gV r z.1.1) z.1.2.1))),(cw L 212 (kB.cells (kB.mk (DP r kA kC cA cC bA bC slA slC drA drC heA heC) (aR.mk z.1.2.2.1 ((List.zipWith BE (gV r z.1.1) z.1.2.1).length) z.1.2.2.2) (Value.map none))))]) (fun _=>rfl) (fun _=>rfl) (fun z=>r.aB.length-z.1.1) ⟨(0,([]:List RA),none,0),A⟩ (bE U) (aU [3,4,5,6,7,8,9,10,11,12,13,0,1,2]) ?_
 clear A
 rintro ⟨⟨h,tz,a,c⟩,⟨T,C,E⟩⟩ J42 Z
 try dsimp only at T C E
 try dsimp only
 refine WS fun _ A4=>rP 1 [] mn ?_
 refine RK A4<|ao fun _ A5=>bV U (aW fun J6=>?_) (aV fun J6=>?_)
 ·refine bQ<|ai<|ai<|aI<|KK A2<|ao fun _ Di=>?_
  have K4:gV r h=fP r:=by unfold fP; rw [show h=r.aB.length by omega]
  have GT:tz.length=r.aB.length:=by omega
  rw [K4,yM,show (List.zipWith BE (fP r) tz).length=(fP r).length from by rw [List.length_zipWith]; omega]
  have X:fH r:=HX (n:=i) I I I I I N J E I
  refine av<|rP 5 [] (mc 1 U mn) ?_
  refine cX (PF r kA kC az cA cC bA bC slA slC drA drC ha heA heC tz a c (Value.map none) L r.aB.length hin asm I (by exact X.Lx)) (oK [3,4,5,6,7,8,9,10]<|aJ (aQ (n:=(fP r).length) 12 U (KF (by rw [GE]; exact GT)))<|aJ (gQ 11 U Q6)<|g_ 13 U U<|aK) U fun K NW=>?_
  try dsimp only
  refine rS (SX (cQ U U) U U)<|rP 1 [] mn ?_
  refine iD (vs:=[(Value.map (some K))]) (cs':=(kB.cells (kB.mk (DP r kA kC cA cC bA bC slA slC drA drC heA heC) (aR.mk a ((fP r).length) c) (Value.map (some K))))) (C':=[_,_,_,_,_,_,_,_,_,_,_,_,_,_,(cw L 212 (kB.cells (kB.mk (DP r kA kC cA cC bA bC slA slC drA drC heA heC) (aR.mk a ((fP r).length) c) (Value.map (some K)))))]) 14 U U U Ei U U U U U U U<|RK Di<|ao fun _ Do=>?_
  rw [show BG r r.aB.length=Nb r from rfl]
  refine av<|rP 3 [] mn ?_
  refine RK Do<|ar ?_
  refine LX hQ (true,0,L,K,a,c,tz) [14,13,12,0] [] mn U (by (show List.all _ _=true; simp only [cond_true,fM,List.all_nil,DG,Bool.and_true]; rfl)) U U ?_
  exact ⟨fun _=>⟨Bm B X,GT⟩,Pv⟩
 refine WK A5<|ao fun _ A6=>aF<|WS fun _ A7=>?_
 obtain ⟨ht,D⟩:=aM r.aB h I
 obtain ⟨G,AB⟩:=aM ha h I
 have F9:(List.zipWith dz r.aB ha)[h]? =some (dz ht G):=er D AB
 refine rS (IA h U (aA 9 U) sT dc I I)<|rS (iK h 0 (vS G.1.1 ht.length G.1.2) U cq (aA 9 U) F9 U dc U)<|rP 1 [] mn ?_
 refine RK A7<|ao fun _ A8=>WS fun _ A9=>?_
 have Fn:=hin.fZ _ _ _ D AB
 have L2:=Fn.oY
 refine rP 4 [] mn ?_
 refine RK A9<|cH U (bu fun Y=>?_) (br fun Y=>?_)
 ·refine WS fun _ BF=>rP 2 [] mn ?_
  refine RK BF<|ar<|LX hQ (false,60,0,0,none,0,[]) [] [] mn U (by rfl) U U ?_
  exact v8<|nY (kR B (fun q:fH r=>by have q1:=(q.fZ ht (aP D)).1; omega))
 refine WK A8<|WS fun _ B3=>bI 1 U<|RK B3<|ao fun _ B9=>WS fun _ CM=>rP 3 [] mn ?_
 refine RK CM<|aF<|eL 53 2 ?_
 have A:(0≤ht.length)∧(ow r.aj ht 0):=by exact ⟨Nat.zero_le _,vQ⟩
 refine bZ (ι:={z:Nat×(OA)×Nat // (z.1≤ht.length)∧(ow r.aj ht z.1)}) [1,5,8,10,93,94,95,103,104] [1,2,3,4,5,6,7,8,9,10,11,12,13,14] U U (fun z=>[(11,(vS z.1.2.1 (((ht.take z.1.1).map (gj r.aj)).length) z.1.2.2)),(105,(vI (z.1.1:Int)))]) (fun z=>[(own z.1.2.1 z.1.2.2 53 2 (((ht.take z.1.1).map (gj r.aj)).map ag.cells))]) (fun _=>rfl) (fun _=>rfl) (fun z=>ht.length-z.1.1) ⟨(0,none,0),A⟩ (bE U) (aU [1,2,3,4,5,6,7,8,9,10,11,12,13,14,0]) ?_
 clear A
 rintro ⟨⟨j,la,lc⟩,⟨AA,F⟩⟩ J53 b
 try dsimp only at AA F
 try dsimp only
 refine WS fun _ Ci=>rP 1 [] mn ?_
 refine RK Ci<|ao fun _ Ck=>bV U (aW fun J2=>?_) (aV fun J2=>?_)
 ·refine bQ<|ai<|ai<|aI<|KK B9<|av<|bI 2 U<|rS (SX (cQ U U) U U)<|rP 2 [] (mc 13 U mn) ?_
  rw [show ((ht.take j).map (gj r.aj))=ht.map (gj r.aj) from by rw [List.take_of_length_le I]]
  refine rP 1 [] mn ?_
  refine ew (xs:=[.tmp 128]) (cs:=[(vS la ((ht.map (gj r.aj)).length) lc)]) U Il M8 U U U U (by simp [Value.cells]) U U fun OR=>?_
  refine fF (es2:=(List.map sC (List.zipWith BE (gV r (h+1)) (tz++[(la,lc)])))) (m':=(List.zipWith BE (gV r (h+1)) (tz++[(la,lc)])).length) 13 U U U M6 U U sm (bo (es:=List.map sC [(aR.mk la ((ht.map (gj r.aj)).length) lc)]) 0 U U (by simp [yW]) U) (Jz _) (by rw [List.length_zipWith,kY I]; omega) (by rw [List.length_zipWith,kY I]; simp only [maxLen]; omega) (by rw [tp D C,List.map_append]; rfl) (by rw [tp D C]; simp) U fun P R=>?_
  try dsimp only
  refine rS (SX (cQ U U) U U)<|bI 1 U<|iD (vs:=[(vS P ((List.zipWith BE (gV r (h+1)) (tz++[(la,lc)])).length) R)]) (cs':=(kB.cells (kB.mk (DP r kA kC cA cC bA bC slA slC drA drC heA heC) (aR.mk P ((List.zipWith BE (gV r (h+1)) (tz++[(la,lc)])).length) R) (Value.map none)))) (C':=[_,_,_,_,_,_,_,_,_,_,_,_,_,_,(cw L 212 (kB.cells (kB.mk (DP r kA kC cA cC bA bC slA slC drA drC heA heC) (aR.mk P ((List.zipWith BE (gV r (h+1)) (tz++[(la,lc)])).length) R) (Value.map none)))),_]) 14 U U U Rs U U U U U U U<|aH<|aN<|KK A6<|av<|rP 2 [] mn ?_
  refine aH<|yr (X':=bw ET (gV r (h+1)) (tz++[(la,lc)])) 12 15 U U (Bw (a:=(la,lc)) D C) ?_
  have FS:(vI (((h+1):Nat):Int))=(vI ((h:Int)+1)):=by exact cI I
  refine bp (Z ⟨((h+1),(tz++[(la,lc)]),P,R),⟨I,by simp; omega,xw E D (Ez I F I)⟩⟩ _ _ _ U os (cY 5<|bk U FS<|dG.nil _) (aU [2,3,4,5,6,7,8,9,10,11,12,0,13,14]))
 refine WK Ck<|ao fun _ Cp=>aF<|WS fun _ Cx=>?_
 obtain ⟨d,hd⟩:=aM ht j I
 obtain ⟨da,Fd⟩:=aM G.2 j I
 have K0:(List.zipWith ay.cells ht G.2)[j]? =some (ay.cells d da):=er hd Fd
 refine rS (IA j U (show js _ (rd G.1.1 ht.length 7 (List.zipWith ay.cells ht G.2)).holds from (df 10 U (bW D AB cJ))) vn dc I I)<|rS (lQ j 0 (aO.cells (aO.mk d.Out d.dx d.Time (cU.mk d.bD.Start d.bD.gd (aR.mk da.1 d.bD.ab.length da.2)))) U cq (show js _ (rd G.1.1 ht.length 7 (List.zipWith ay.cells ht G.2)).holds from (df 10 U (bW D AB cJ))) K0 U dc U U)<|AL U AU fun Ne=>fK U Gv U<|RK Cx<|WS fun _ C0=>bI 1 U<|rS (LP (bT.cells (ki r.aj kA kC cA cC bA bC)) 2 U cq U U U)<|rP 1 [] (mc 0 U mn) ?_
 have O2:=Fn.sig d (aP hd)
 refine rS (CL (DU r.aj kA kC az cA cC bA bC d da.1 da.2 asm asm) (oK [3,4,5,6,7]<|aJ (show js _ (rd da.1 d.bD.ab.length 2 (d.bD.ab.map aG.cells)).holds from (df 11 U (bW D AB (dW _ (bW hd Fd (by simp [ay.gL]))))))<|aK) U)<|bI 3 U<|AL U ed fun Nh=>fK U c_ U<|bI 1 U<|RK C0<|ao fun _ C1=>WS fun _ C2=>rP 2 [] mn ?_
 refine RK C2<|bV U (br fun M=>?_) (bu fun M=>?_)
 ·refine WK C1<|av<|rP 2 [] (mc 0 U mn) ?_
  refine ew (xs:=[.tmp 119]) (cs:=(ag.cells (gj r.aj d))) U lk ed U U U U (by simp [Value.cells,ag.aZ]) U U fun Nv=>?_
  refine fF (es2:=(List.map ag.cells ((ht.take (j+1)).map (gj r.aj)))) (m':=((ht.take (j+1)).map (gj r.aj)).length) 17 U U U EK U U sm (bo (es:=List.map ag.cells [(gj r.aj d)]) 0 U U (by simp [ag.aZ]) U) (kU _) (by simp only [List.length_map,List.length_take]; omega) (by simp only [maxLen,List.length_map,List.length_take]; omega) (by rw [List.take_add_one,hd]; simp) sq U fun Hi Ie=>?_
  try dsimp only
  refine bI 1 U<|aH<|aN<|KK Cp<|av<|rP 2 [] mn ?_
  refine aH ?_
  have Eq:(vI (((j+1):Nat):Int))=(vI ((j:Int)+1)):=by exact cI I
  refine bp (b ⟨((j+1),Hi,Ie),⟨I,vU F hd M⟩⟩ _ _ _ U os (cY 10<|bk U Eq<|dG.nil _) (aU [3,4,5,6,7,8,9,10,11,12,13,14,15,16,17]))
 refine WS fun _ C3=>rP 2 [] mn ?_
 refine RK C3<|ar<|LX hQ (false,60,0,0,none,0,[]) [] [] mn U (by rfl) U U ?_
 exact v8<|nY (kR B (fun q:fH r=>by exact M ((q.fZ ht (aP D)).2 d (aP hd))))
end
section
open Go.RowKit
theorem Je (r:fg) (kA:OA) (kC:Nat) (az:List RA) (cA:OA) (cC:Nat) (bA:OA) (bC:Nat) (slA:OA) (slC:Nat) (drA:OA) (drC:Nat) (ha:List dQ) (heA:OA) (heC:Nat) (hin:oW r az ha):
 dH Tryz.prog 79 [(vA (di.cells (DP r kA kC cA cC bA bC slA slC drA drC heA heC)))] [(rd g6 3 2 fU),(rd kA r.aj.aL.length 9 (r.aj.aL.map au.cells)),(rd cA r.aj.ak.length 2 (List.zipWith ax.cells r.aj.ak az)),(d_ (bw ax.gL r.aj.ak az)),(rd bA r.aj.aa.length 4 (r.aj.aa.map bM.cells)),(rd slA r.aT.length 1 (r.aT.map iC)),(rd drA r.bS.length 1 (r.bS.map iC)),(rd heA r.aB.length 1 (List.zipWith dz r.aB ha)),(d_ (bw fy r.aB ha))] (vI (jP r)):=by
 have H:=hin.line
 have R:=hin.jd
 have S:=hin.has
 have J:=hin.ji
 have AB:=hin.draw
 have K:=lg (r:=r)
 refine bH kr Tryz.func79 U U fun X Q hQ hN=>?_
 try dsimp only
 refine WS fun _ G=>eK U fun W=>bI 1 U<|RK G<|WS fun _ C=>rP 1 [] (mc 0 U mn) ?_
 refine cX (K9 r kA kC az cA cC bA bC slA slC drA drC ha heA heC hin) (bq [1,2,3,4,5,6,7,8,9]) U fun V E=>?_
 obtain ⟨F,N,P,O,AA,L,M⟩:=V
 cases F
 rotate_left 1
 ·obtain ⟨he,T⟩:=E.1 rfl
  try dsimp only [cond_true,cond_false,List.cons_append,List.nil_append]
  refine bI 5 U<|RK C<|WS fun _ B=>rP 2 [] mn ?_
  refine RK B<|ar<|Q1 hQ U U U ?_
  first|rfl|(rw [he])
 obtain ⟨D,he⟩:=E.2 rfl
 try dsimp only at D he
 subst D
 try dsimp only [cond_true,cond_false,List.cons_append,List.nil_append]
 refine bI 5 U<|RK C<|WS fun _ A=>rP 2 [] mn ?_
 refine RK A<|ar<|Q1 hQ U U U ?_
 first|rfl|(rw [he])
end
end Go.Proofs.YtijpnoadncadoaaGreatDoor
