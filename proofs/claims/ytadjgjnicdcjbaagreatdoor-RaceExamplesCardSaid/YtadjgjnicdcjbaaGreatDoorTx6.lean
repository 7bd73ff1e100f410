/-
 The statement raceExamples_said, part 6 of 7: V5, V6, V8, Wh2, Rc2, Rc3, Rc4, Rs3, Rs4, Rs6, Rs7, Rs8, RkB, RaB, RtB, Rp0, Rp1, Rp2, Rt1, Rt2, Rt3, Rx1, Rx2, RkS, RaS, RtS, Rx3, WLe, Ends5, Can, False.
 Conditions: none.
-/
import Derived.Test.YtadjgjnicdcjbaaGreatDoorTx1
import Derived.Test.YtadjgjnicdcjbaaGreatDoorTx2
import Derived.Test.YtadjgjnicdcjbaaGreatDoorTx3
import Derived.Test.YtadjgjnicdcjbaaGreatDoorTx4
import Derived.Test.YtadjgjnicdcjbaaGreatDoorTx5
namespace Go.Proofs.YtadjgjnicdcjbaaGreatDoor
set_option maxRecDepth 100000
set_option maxHeartbeats 4000000
set_option linter.unusedVariables false
section
open Go.RowKit
theorem Eh (ln:cj) (ri:eJ) (e:List Int) (tms:List TM) (e_A:OA) (e_C:Nat) (tb:List Nat) (t_A:OA) (t_C gw:Nat) (hw:BZ (bT ln ri e tms)) (hn:ln.ag.n=e.length) (htb:tb.length=tms.length):
 Bh Tryz.prog 209 [(vP gw)] [(rd e_A e.length 1 (e.map iC)),(rd t_A tms.length 1 (List.zipWith eV tms tb)),(eR (aR og tms tb))] (bJ gw 274 (bE.cells (bE.mk ln ri (ba.mk e_A e.length e_C) (ba.mk t_A tms.length t_C) (ba.mk none 0 0) (ba.mk none 0 0)))) (fun (x:(List FM)×(List Nat)×(OA)×Nat×(List FM)×(List Nat)×(OA)×Nat)=>(vT [])) (fun (x:(List FM)×(List Nat)×(OA)×Nat×(List FM)×(List Nat)×(OA)×Nat)=>sI (bT ln ri e tms) x.1∧pT (bT ln ri e tms) x.2.2.2.2.1∧x.2.1.length=x.1.length∧x.2.2.2.2.2.1.length=x.2.2.2.2.1.length) (fun (x:(List FM)×(List Nat)×(OA)×Nat×(List FM)×(List Nat)×(OA)×Nat)=>(bf [(bJ gw 274 (bE.cells (bE.mk ln ri (ba.mk e_A e.length e_C) (ba.mk t_A tms.length t_C) (ba.mk x.2.2.1 x.1.length x.2.2.2.1) (ba.mk x.2.2.2.2.2.2.1 x.2.2.2.2.1.length x.2.2.2.2.2.2.2)))),(own x.2.2.1 x.2.2.2.1 278 1 (List.zipWith eV x.1 x.2.1)),(bf (aR k8 x.1 x.2.1)),(own x.2.2.2.2.2.2.1 x.2.2.2.2.2.2.2 278 1 (List.zipWith eV x.2.2.2.2.1 x.2.2.2.2.2.1)),(bf (aR k8 x.2.2.2.2.1 x.2.2.2.2.2.1))])):=by
 have PA:e.length≤6:=hw.n
 have PB:tms.length=e.length:=hw.times
 refine kv kr Tryz.func209 U U fun w0 Q hQ hN=>?_
 try dsimp only
 refine WS fun _ Di=>qo U U fun W=>RK Di<|WS fun _ EQ=>hE 1 [] (mc 0 U I) U<|rS (SX (bk U U) U U)<|rP 5 [] (mc 1 U I) ?_
 refine RK EQ ?_
 refine pG (ι:={z:(OA)×(OA) // True}) [0,1,2] [0,2,3,4] U U (fun z=>[]) (fun z=>[(own z.1.1 (ln.ag.n+1) 278 1 (List.map oC (List.replicate (ln.ag.n+1) (none:Option Nat)))),(own z.1.2 (ln.ag.n+1) 278 1 (List.map oC (List.replicate (ln.ag.n+1) (none:Option Nat)))),(bJ gw 274 (bE.cells (bE.mk ln ri (ba.mk e_A e.length e_C) (ba.mk t_A tms.length t_C) (ba.mk z.1.1 (ln.ag.n+1) (ln.ag.n+1)) (ba.mk z.1.2 (ln.ag.n+1) (ln.ag.n+1)))))]) (fun _=>rfl) (fun _=>rfl) ?_ fun K4 Ej=>?_
 ·rintro ⟨⟨fA,bA⟩,_⟩
  try dsimp only
  refine FC 6 U U fun wz Sz hz=>?_
  have O8:(List.replicate (ln.ag.n+1) (none:Option Nat)).length=(ln.ag.n+1):=List.length_replicate
  try dsimp only
  refine pG (ι:={z:Nat // True}) [0,1,2] [0,1,2,3,4,6] U U (fun z=>[]) (fun z=>[(bf (aR k8 [[((aw.mk 0 0),ri.Start)]] [z.1])),(own fA (ln.ag.n+1) 278 1 (List.map oC (dh [z.1] (ln.ag.n+1))))]) (fun _=>rfl) (fun _=>rfl) ?_ fun K5 Oe=>?_
  ·rintro ⟨ga,_⟩
   try dsimp only
   refine al fun _ Eq=>WS fun _ E9=>rP 2 [] I ?_
   refine RK E9<|aF<|nt ?_
   have C:(0≤ln.ag.n)∧(([[((aw.mk 0 0),ri.Start)]]).length=0+1)∧(([ga]).length=0+1)∧(mQ (bT ln ri e tms) ([[((aw.mk 0 0),ri.Start)]])):=by exact ⟨Nat.zero_le _,rfl,rfl,mQ.first⟩
   refine rq (ι:={z:Nat×(List FM)×(List Nat)×(List Nat) // (z.1≤ln.ag.n)∧(z.2.1.length=z.1+1)∧(z.2.2.1.length=z.1+1)∧(mQ (bT ln ri e tms) z.2.1)}) (fun z=>z.1.2.2.2.map jA) (fun z=>[(0,(vP gw)),(1,(vP W)),(2,(vI (ln.ag.n:Int))),(52,(vI (ln.ag.n:Int))),(53,(vI (z.1.1:Int)))]) (fun z=>[(bf (z.1.2.2.2.map jE)),(bJ gw 274 (bE.cells (bE.mk ln ri (ba.mk e_A e.length e_C) (ba.mk t_A tms.length t_C) (ba.mk fA (ln.ag.n+1) (ln.ag.n+1)) (ba.mk bA (ln.ag.n+1) (ln.ag.n+1))))).ro,(bJ W 263 [(vP gw)]),(rd e_A e.length 1 (e.map iC)).ro,(rd t_A tms.length 1 (List.zipWith eV tms tb)).ro,(eR (aR og tms tb)).ro,(own bA (ln.ag.n+1) 278 1 (List.map oC (List.replicate (ln.ag.n+1) (none:Option Nat)))),(bf (aR k8 z.1.2.1 z.1.2.2.1)),(own fA (ln.ag.n+1) 278 1 (List.map oC (dh z.1.2.2.1 (ln.ag.n+1))))]) (fun z=>ln.ag.n-z.1.1) ⟨(0,[[((aw.mk 0 0),ri.Start)]],[ga],([]:List Nat)),C⟩ U (aT U) (aJ [0,1,2,3,4,5,6,7,8]) ?_
   clear C
   rintro ⟨⟨b,fs,fb,OY⟩,⟨IR,A6,IV,M⟩⟩ J8 Od
   try dsimp only at IR A6 IV M
   try dsimp only
   have O9:(dh fb (ln.ag.n+1)).length=(ln.ag.n+1):=oc om
   refine WS fun _ FS=>rP 1 [] I ?_
   refine RK FS<|al fun _ AO=>dF U (aY fun Ob=>?_) (aZ fun Ob=>?_)
   ·refine WK AO<|al fun _ J9=>aF<|WS fun _ KM=>rP 1 [] I ?_
    refine AL U gI fun s=>CD U xg U U<|RK KM<|al fun _ Kd=>ek cE [6,8] [6] [0] [0,1,2,3,4,5,6,7,8] [0,1,2,3,4,5,6,7,8,9] U U U U U<|eS U (zu 3 U cz U)<|eS U (SX (bk U U) U U)<|eS U (FA 12 U fI U)<|eS U (CT (vS fA (ln.ag.n+1) (ln.ag.n+1)) 2 U cz U U)<|eS U (zu 0 U cz U)<|eS U (BI U (fG ⟨om,om⟩)) ?_
    obtain ⟨Oq,OU⟩:=aQ (dh fb (ln.ag.n+1)) (b+1) om
    have hx17m:(List.map oC (dh fb (ln.ag.n+1)))[(b+1)]? =some (oC Oq):=by rw [eW,OU]; rfl
    refine fS U (IA (b+1) U (aa (n:=(ln.ag.n+1)) 9 U sq) lx dc om om) ?_
    refine e7 U<|gj U fun T18 OB=>lY (kV:=c5) U U fun B=>?_
    try dsimp only
    refine aG (OB _ _ (aJ [1,2,3,4,5,6,7,8,9]) (aJ [1,2,3,4,5,6,7,8,9,10]) ?_)
    refine cf U fun T20 OC=>?_
    have OL:((dh fb (ln.ag.n+1)).set (b+1) (some B))=(dh (fb++[B]) (ln.ag.n+1)):=by exact p6 om om
    refine dk (k:=(b+1)) (o:=0) (vs:=[(Value.map (some B))]) (es':=(List.map oC (dh (fb++[B]) (ln.ag.n+1)))) (C':=[_,_,_,_,_,_,_,_,_,_,(own fA (ln.ag.n+1) 278 1 (List.map oC (dh (fb++[B]) (ln.ag.n+1))))]) 10 U U U FV U U U U hx17m U dc (by exact (List.map_set (f:=oC) (l:=(dh fb (ln.ag.n+1))) (i:=(b+1)) (a:=(some B))).symm.trans (congrArg _ OL)) U<|aG (OC _ _ (aJ [1,2,3,4,5,6,7,8,9]) ?_)
    refine fH U<|KK Kd<|al fun _ Ke=>?_
    have Oi:(dh (fb++[B]) (ln.ag.n+1)).length=(ln.ag.n+1):=oc (by simp; omega)
    obtain ⟨mb,N⟩:=aQ fs b om
    obtain ⟨ga,Z⟩:=aQ fb b om
    refine Ae 9 N Z U U U ?_
    try dsimp only
    refine dR cE 7 kr<|m7 1 [] (mc 6 U I) U<|dS (SX (bk U U) U U)<|dP 3 [0,1] (mr 5 U (mc 3 U I)) ?_
    have OP:(List.map oC (dh (fb++[B]) (ln.ag.n+1)))[b]? =some (oC (some ga)):=ou (lZ (Eu Z))
    refine dS (IA b U (aa (n:=(ln.ag.n+1)) 11 U sq) lx dc om om) ?_
    refine dS (g4 b 0 (Value.map (some ga)) U cz (aa (n:=(dh (fb++[B]) (ln.ag.n+1)).length) 11 U sm) OP U dc U)<|dJ<|ql 0 U U lS U U fun B9=>?_
    try dsimp only
    refine RK Ke<|aF ?_
    have C:(∀ p∈mb,p∈mb)∧(rW (bT ln ri e tms) b ([]:FM))∧(ij (bT ln ri e tms) b mb ([]:FM) mb):=by exact ⟨fun p hp=>hp,rW.start,ij.start⟩
    refine rq (ι:={z:FM×FM×(List Nat) // (∀ p∈z.1,p∈mb)∧(rW (bT ln ri e tms) b z.2.1)∧(ij (bT ln ri e tms) b mb z.2.1 z.1)}) (fun z=>z.1.2.2.map jA) (fun z=>[(0,(vP gw)),(1,(vP W)),(2,(vI (ln.ag.n:Int))),(3,(vP s)),(52,(vI (ln.ag.n:Int))),(53,(vI (b:Int))),(71,(vP B9))]) (fun z=>[(tG c5 B9 ga (bo iV mb) (bo iV z.1.1) none),(bf (dV k8 fs fb b)),(fJ c5 B (bo iV z.1.2.1)),(bJ s 3 [(vI (b:Int))]),(bf (z.1.2.2.map jE)),(bJ gw 274 (bE.cells (bE.mk ln ri (ba.mk e_A e.length e_C) (ba.mk t_A tms.length t_C) (ba.mk fA (ln.ag.n+1) (ln.ag.n+1)) (ba.mk bA (ln.ag.n+1) (ln.ag.n+1))))).ro,(bJ W 263 [(vP gw)]),(rd e_A e.length 1 (e.map iC)).ro,(rd t_A tms.length 1 (List.zipWith eV tms tb)).ro,(eR (aR og tms tb)).ro,(own bA (ln.ag.n+1) 278 1 (List.map oC (List.replicate (ln.ag.n+1) (none:Option Nat)))),(own fA (ln.ag.n+1) 278 1 (List.map oC (dh (fb++[B]) (ln.ag.n+1))))]) (fun z=>z.1.1.length) ⟨(mb,([]:FM),OY),C⟩ U (aT U) (aJ [0,1,2,3,4,5,6,7,8,9,10,11]) ?_
    clear C
    rintro ⟨⟨left,m,A7⟩,⟨c,d,g⟩⟩ J26 J6
    try dsimp only at c d g
    try dsimp only
    refine WS fun _ Ci=>oY mj.inj (f:=iV) 0 U U U U (fun Oc=>?_) (fun t v hm Id=>?_)
    ·refine a_ 1 U<|RK Ci<|al fun _ Oz=>aM U<|bq<|ah<|ah<|aD<|aH<|KK J9<|au<|rP 2 [] I ?_
     refine aG<|EA (C':=[(fJ c5 ga (bo iV mb)),(bf (dV k8 fs fb b)),(fJ c5 B (bo iV m)),(bJ s 3 [(vI (b:Int))]),(bf (A7.map jE)),(bJ gw 274 (bE.cells (bE.mk ln ri (ba.mk e_A e.length e_C) (ba.mk t_A tms.length t_C) (ba.mk fA (ln.ag.n+1) (ln.ag.n+1)) (ba.mk bA (ln.ag.n+1) (ln.ag.n+1))))).ro,(bJ W 263 [(vP gw)]),(rd e_A e.length 1 (e.map iC)).ro,(rd t_A tms.length 1 (List.zipWith eV tms tb)).ro,(eR (aR og tms tb)).ro,(own bA (ln.ag.n+1) 278 1 (List.map oC (List.replicate (ln.ag.n+1) (none:Option Nat)))),(own fA (ln.ag.n+1) 278 1 (List.map oC (dh (fb++[B]) (ln.ag.n+1))))]) 0 U D3 U<|Fq 1 0 N Z U U U ?_
     try dsimp only
     refine z6 (X':=aR k8 (fs++[m]) (fb++[B])) 0 1 U U (tU om U) ?_
     try dsimp only
     have OM:(vI (((b+1):Nat):Int))=(vI ((b:Int)+1)):=by exact cI om
     refine bc (Od ⟨((b+1),(fs++[m]),(fb++[B]),A7),⟨om,by simp; omega,by simp; omega,M.add A6 N d g Oc⟩⟩ _ _ _ U os (du 4<|bO U OM<|ew.nil _) (aJ [2,3,4,5,6,7,8,0,9]))
    try dsimp only
    refine a_ 1 U<|RK Ci<|al fun _ Kn=>aX U<|WK Kn<|aF<|WS fun _ K0=>rS (SX (o2 0 U U U) U U)<|a_ 2 U<|AL U pt fun JK=>AL U gI fun JO=>vU U ot U<|CD U xg U U<|RK K0<|WS fun _ K8=>rP 2 [0,1] (mc 8 U (mc 5 U I)) ?_
    refine cX (qA gw b) (aC) U fun Ou O2=>?_
    obtain ⟨Cx,C2⟩:=Ou
    try dsimp only
    refine RK K8<|aF<|iG 11 U (by exact fun _ h=>h)<|iG 13 U (by exact fun _ h=>h)<|iG 15 U (by exact fun _ h=>h)<|iG 12 U (by exact fun _ h=>h) ?_
    refine ko (L0:=[(0,(vP gw)),(1,(vP W)),(2,(vI (ln.ag.n:Int))),(3,(vP s)),(4,(vP JK)),(5,(vP JO)),(52,(vI (ln.ag.n:Int))),(53,(vI (b:Int))),(71,(vP B9))]) (F:=[(rd e_A e.length 1 (e.map iC)).ro,(rd t_A tms.length 1 (List.zipWith eV tms tb)).ro,(eR (aR og tms tb)).ro,(bJ gw 274 (bE.cells (bE.mk ln ri (ba.mk e_A e.length e_C) (ba.mk t_A tms.length t_C) (ba.mk fA (ln.ag.n+1) (ln.ag.n+1)) (ba.mk bA (ln.ag.n+1) (ln.ag.n+1))))).ro,(bJ Cx 263 [(vP gw)]),(bJ C2 3 [(vI (b:Int))])]) (fun k (y:FM)=>(kq (bT ln ri e tms) b mb left y (t,v) k)) (fun k y=>[(bJ JO 3 [(vI v)]),(bJ JK 280 (aw.cells t)),(tG c5 B9 ga (bo iV mb) (bo iV (bR left t)) (some (t,(vI v)))),(bf (dV k8 fs fb b)),(fJ c5 B (bo iV y)),(bJ s 3 [(vI (b:Int))]),(bf (A7.map jE)),(bJ gw 274 (bE.cells (bE.mk ln ri (ba.mk e_A e.length e_C) (ba.mk t_A tms.length t_C) (ba.mk fA (ln.ag.n+1) (ln.ag.n+1)) (ba.mk bA (ln.ag.n+1) (ln.ag.n+1))))).ro,(bJ W 263 [(vP gw)]),(rd e_A e.length 1 (e.map iC)).ro,(rd t_A tms.length 1 (List.zipWith eV tms tb)).ro,(eR (aR og tms tb)).ro,(own bA (ln.ag.n+1) 278 1 (List.map oC (List.replicate (ln.ag.n+1) (none:Option Nat)))),(own fA (ln.ag.n+1) 278 1 (List.map oC (dh (fb++[B]) (ln.ag.n+1))))]) (fun _ (_:Unit)=>False) (fun _ _=>[]) [6,7,8,9,10,11,12,13,14,15,16,17,18,19] [3,2,1,0,4,5] m rfl rfl (oW ln ri e tms e_A e_C tb t_A t_C fA (ln.ag.n+1) (ln.ag.n+1) bA (ln.ag.n+1) (ln.ag.n+1) gw b Cx C2 om om) rfl rfl rfl (by exact kq.start d g) (by simp only [List.forall_mem_cons,List.not_mem_nil,false_imp_iff,implies_true,and_true]; exact ⟨⟨_,aN (i:=0) rfl,(dT (bI _))⟩,⟨_,aN (i:=1) rfl,(dT (bI _))⟩,⟨_,aN (i:=2) rfl,(dT (bI _))⟩,⟨_,aN (i:=3) rfl,(dT (bI _))⟩,⟨_,aN (i:=4) rfl,(bI _)⟩,⟨_,aN (i:=5) rfl,(bI _)⟩⟩) (by rintro k x k2 ⟨o,_,rfl,_⟩; rfl) rfl (aT rfl) ?_ ?_ (fun _ _ _ h=>h.elim) (fun _ _ h=>h.elim)
    rotate_left 1
    ·rintro Op k O A5 Go
     have D:=Go
     try dsimp only
     refine aH<|aH<|DX (X:=A7.map jE) 13 0 U U ?_
     try dsimp only
     refine fm 9 U rJ U ?_
     refine bc (J6 ⟨((bR left t),O,(Op::A7)),⟨jW c,D.on,D.next Id hm A5⟩⟩ _ _ _ U (dD hm) (aT U) (aJ [9,10,11,12,0,4,14,1,2,3,18,19]))
    rintro k x k2 O l ra rb S w1 K39 Qr40 Om hx GT LA H Os Ow
    obtain ⟨o,ho,rfl,rfl⟩:=hx
    have D:=GT
    try dsimp only
    refine WS fun _ LE=>rP 1 [] I ?_
    refine RK LE<|au<|AL U dK fun O4=>fw U cT U<|aG<|jB (fun _ _ h=>h) (aJ [1,0,2,3,4,5,6,7,8,9,10,11,12,13,14,15])<|bc (LA _ _ ?_)
    refine aF<|al fun _ LK=>ek cE [16,18] [] [] [0,1,2,3,4,5,6,7,8,9,10,11,12,13,14,15] [] U U U U U<|eS U (zu 2 U cz U)<|eS U (zu 10 U cz U)<|eS U (SX (bk U U) U U)<|eS U (FA 10 U fI U)<|eS U (CT (vS e_A e.length e_C) 9 U cz U U)<|eS U (zu 7 U cz U) ?_
    obtain ⟨y,hy⟩:=aQ e b om
    have If:=cG iC hy
    refine eS U (IA b U (aS 11 U) b0 dc om om)<|eS U (g4 b 0 (vI y) U cz (aS 11 U) If U dc U) ?_
    have Oh:=hw.least y (aN hy)
    have hp:=M.mem N (c _ hm)
    have Og:=Fp hw _ _ hp
    have Ok:=rN o.1
    have Ol:=hw.opt ho
    have O_:=hw.now
    dsimp only at Og
    refine eS U (BI U (fG ⟨om,om⟩))<|eS U (FA 0 U fI U)<|eS U (L1 (vI o.2.Lo) 1 U cz U U)<|eS U (MX U)<|eS U (LW 3 U cz U U)<|eS U (MV U)<|eS U (CL (FI o.1) (aC) U)<|eS U (CL (rn t (eA o.1) om om) (aC) U)<|eS U (AG U)<|e7 U<|cf U fun T45 OD=>AL U pt fun O5=>aG (OD _ _ (aJ [1,2,3,4,5,6,7,8,9,10,11,12,13,14,15,16]) ?_)
    refine cf U fun T47 OE=>fw U ot U<|aG (OE _ _ (aJ [1,2,3,4,5,6,7,8,9,10,11,12,13,14,15,16]) ?_)
    refine fH U<|KK LK<|al fun _ LQ=>dR cE 15 kr<|m7 1 [] (mc 11 U I) U<|dS (SX (bk U U) U U)<|dP 4 [0,1] (mr 10 U (mc 8 U I)) ?_
    have OQ:(List.map oC (dh (fb++[B]) (ln.ag.n+1)))[(b+1)]? =some (oC (some B)):=ou (lZ (u7 om))
    refine dS (IA (b+1) U (aa (n:=(ln.ag.n+1)) 16 U sq) lx dc om om) ?_
    refine dS (g4 (b+1) 0 (Value.map (some B)) U cz (aa (n:=(dh (fb++[B]) (ln.ag.n+1)).length) 16 U sm) OQ U dc U)<|m7 1 [] (mc 0 U I) U<|dS (SX (iQ (kV:=c5) (x:=(dm t (eA o.1))) (l:=O) (f:=iV) (z:=0) U U U lS mj NX (by exact aS 7 U)) U U)<|rH 5 U<|dJ<|RK LQ<|al fun _ A0=>dR cE 19 kr<|m7 4 [0,1] (mc 2 U (mc 11 U I)) U<|dS (SX (bk U U) U U)<|m7 3 [] (mr 10 U I) U<|dS (MN U)<|dP 2 [] I ?_
    refine j8 (t:=121) U (aZ fun P=>?_) (aY fun P=>?_)
    ·refine dP 8 [] I ?_
     refine dJ<|RK A0<|aM U<|cJ<|aH ?_
     exact H O _ _ (by exact D.skip (Dj hy P)) (aJ [1,3,4,5,6,7,8,9,10,11,12,13,14,15,16])
    refine dP 3 [] I ?_
    refine vn (t:=124) U (fun R=>?_) (fun R=>?_)
    ·rw [Bool.not_eq_true'] at R
     refine rH 5 U<|dJ<|RK A0<|aX U<|dR cE 10 kr<|m7 1 [] (mc 11 U I) U<|dS (SX (bk U U) U U)<|dP 4 [0,1] (mr 10 U (mc 8 U I)) ?_
     have OR:(List.map oC (dh (fb++[B]) (ln.ag.n+1)))[(b+1)]? =some (oC (some B)):=ou (lZ (u7 om))
     refine dS (IA (b+1) U (aa (n:=(ln.ag.n+1)) 16 U sq) lx dc om om) ?_
     refine dS (g4 (b+1) 0 (Value.map (some B)) U cz (aa (n:=(dh (fb++[B]) (ln.ag.n+1)).length) 16 U sm) OR U dc U)<|dP 2 [] (mc 0 U I) ?_
     refine dJ<|im (kV:=c5) (x:=(dm t (eA o.1))) (C':=[_,_,_,_,_,_,_,(fJ c5 B (bo iV (dB O (dm t (eA o.1)) (max (v+y) o.2.Lo)))),_,_,_,_,_,_,_,_,_]) 7 U U U U lS mj U (fE _ _ _ _).symm U<|aG<|aH ?_
     exact H (dB O (dm t (eA o.1)) (max (v+y) o.2.Lo)) _ _ (by exact D.set hp ho (vg hy P) (.inl (by simpa using R))) (aJ [1,3,4,5,6,7,8,9,10,11,12,13,14,15,16])
    rw [Bool.not_eq_false'] at R
    refine dP 5 [] I ?_
    refine dJ<|RK A0<|cu U (aZ fun u=>?_) (aY fun u=>?_)
    ·refine cJ<|aH ?_
     exact H O _ _ (by exact D.mg (vg hy P) (by simpa using R) u) (aJ [1,3,4,5,6,7,8,9,10,11,12,13,14,15,16])
    refine dR cE 10 kr<|m7 1 [] (mc 11 U I) U<|dS (SX (bk U U) U U)<|dP 4 [0,1] (mr 10 U (mc 8 U I)) ?_
    have OS:(List.map oC (dh (fb++[B]) (ln.ag.n+1)))[(b+1)]? =some (oC (some B)):=ou (lZ (u7 om))
    refine dS (IA (b+1) U (aa (n:=(ln.ag.n+1)) 16 U sq) lx dc om om) ?_
    refine dS (g4 (b+1) 0 (Value.map (some B)) U cz (aa (n:=(dh (fb++[B]) (ln.ag.n+1)).length) 16 U sm) OS U dc U)<|dP 2 [] (mc 0 U I) ?_
    refine dJ<|im (kV:=c5) (x:=(dm t (eA o.1))) (C':=[_,_,_,_,_,_,_,(fJ c5 B (bo iV (dB O (dm t (eA o.1)) (max (v+y) o.2.Lo)))),_,_,_,_,_,_,_,_,_]) 7 U U U U lS mj U (fE _ _ _ _).symm U<|aG<|aH ?_
    exact H (dB O (dm t (eA o.1)) (max (v+y) o.2.Lo)) _ _ (by exact D.set hp ho (vg hy P) (.inr u)) (aJ [1,3,4,5,6,7,8,9,10,11,12,13,14,15,16])
   refine bq<|ah<|ah<|aD<|KK Eq<|WS fun _ A1=>rP 1 [] I ?_
   refine AL U gI fun OZ=>CD U xg U U<|RK A1<|aF ?_
   rw [Cg]
   refine nt ?_
   have C:(0≤ln.ag.n+1)∧(([]:List FM).length=0)∧(([]:List Nat).length=0)∧(fy (bT ln ri e tms) (ln.ag.n+1-0) ([]:List FM)):=by exact ⟨Nat.zero_le _,rfl,rfl,fy.none_⟩
   refine rq (ι:={z:Nat×(List FM)×(List Nat)×Nat×(List Nat) // (z.1≤ln.ag.n+1)∧(z.2.1.length=z.1)∧(z.2.2.1.length=z.1)∧(fy (bT ln ri e tms) (ln.ag.n+1-z.1) z.2.1)}) (fun z=>z.1.2.2.2.2.map jA) (fun z=>[(0,(vP gw)),(1,(vP W)),(2,(vI (ln.ag.n:Int))),(12,(Value.pointer (some ⟨z.1.2.2.2.1,0,none⟩)))]) (fun z=>[(bf (aR k8 z.1.2.1 z.1.2.2.1)),(bJ z.1.2.2.2.1 3 [(vI ((ln.ag.n:Int)-(z.1.1:Int)))]),(bf (z.1.2.2.2.2.map jE)),(bJ gw 274 (bE.cells (bE.mk ln ri (ba.mk e_A e.length e_C) (ba.mk t_A tms.length t_C) (ba.mk fA (ln.ag.n+1) (ln.ag.n+1)) (ba.mk bA (ln.ag.n+1) (ln.ag.n+1))))).ro,(bJ W 263 [(vP gw)]),(rd e_A e.length 1 (e.map iC)).ro,(rd t_A tms.length 1 (List.zipWith eV tms tb)).ro,(eR (aR og tms tb)).ro,(own bA (ln.ag.n+1) 278 1 (List.map oC (fu z.1.2.2.1 (ln.ag.n+1)))),(bf (aR k8 fs fb)),(own fA (ln.ag.n+1) 278 1 (List.map oC (dh fb (ln.ag.n+1))))]) (fun z=>ln.ag.n+1-z.1.1) ⟨(0,([]:List FM),([]:List Nat),OZ,OY),C⟩ U (aT U) (aJ [0,1,2,3,4,5,6,7,8,9,10]) ?_
   clear C
   rintro ⟨⟨j,bs,bb,gq,q⟩,⟨Bi,B3,B7,E⟩⟩ J57 CY
   try dsimp only at Bi B3 B7 E
   try dsimp only
   refine al fun _ A2=>WS fun _ A3=>rP 2 [] (mc 1 U I) ?_
   refine RK A3<|cu U (aZ fun J3=>?_) (aY fun J3=>?_)
   ·refine bq<|ah<|ah<|aD ?_
    rw [show (List.map oC (dh fb (ln.ag.n+1)))=(List.zipWith eV fs fb) from by rw [tQ om]; exact (vy om).symm]
    rw [show (List.map oC (fu bb (ln.ag.n+1)))=(List.zipWith eV bs bb) from by rw [Bd om]; exact (vy om).symm]
    refine JC (C1:=[(own fA (ln.ag.n+1) 278 1 (List.zipWith eV fs fb)),(bf (aR k8 fs fb)),(own bA (ln.ag.n+1) 278 1 (List.zipWith eV bs bb)),(bf (aR k8 bs bb)),(bf (q.map jE))]) hz [10,9,8,0,2] U U (by simp only [e6,List.all_nil,E0,GB,Bool.and_true]; rfl) ?_
    rw [show (bJ gw 274 (bE.cells (bE.mk ln ri (ba.mk e_A e.length e_C) (ba.mk t_A tms.length t_C) (ba.mk fA (ln.ag.n+1) (ln.ag.n+1)) (ba.mk bA (ln.ag.n+1) (ln.ag.n+1)))))=(bJ gw 274 (bE.cells (bE.mk ln ri (ba.mk e_A e.length e_C) (ba.mk t_A tms.length t_C) (ba.mk fA fs.length (ln.ag.n+1)) (ba.mk bA bs.length (ln.ag.n+1))))) from by rw [show fs.length=(ln.ag.n+1) from by omega,show bs.length=(ln.ag.n+1) from by omega]]
    refine J0 [(bJ gw 274 (bE.cells (bE.mk ln ri (ba.mk e_A e.length e_C) (ba.mk t_A tms.length t_C) (ba.mk fA fs.length (ln.ag.n+1)) (ba.mk bA bs.length (ln.ag.n+1))))),(own fA (ln.ag.n+1) 278 1 (List.zipWith eV fs fb)),(bf (aR k8 fs fb)),(own bA (ln.ag.n+1) 278 1 (List.zipWith eV bs bb)),(bf (aR k8 bs bb))] [(bf (q.map jE))] ?_
    refine hN _ _ _ (DO 1 U U<|fr (vs:=[]) trivial fun w hs=>L3 (fs,fb,fA,(ln.ag.n+1),bs,bb,bA,(ln.ag.n+1)) 0 ?_ ?_ U (by show List.all _ _=true; simp only [e6,List.all_nil,E0,Bool.and_true]; rfl) hs)
    ·clear hs w hQ hN A3 A2 A1 AO FS E9 Eq EQ Di; rfl
    ·clear hs w hQ hN A3 A2 A1 AO FS E9 Eq EQ Di; exact ⟨M.ok (by show fs.length=e.length+1; omega),fy.ok (by have:=E; rwa [show ln.ag.n+1-j=0 by omega] at this) (by show bs.length=e.length+1; omega),dso,dso⟩
   refine WK A2<|al fun _ Ck=>aF<|al fun _ LR=>?_
   obtain ⟨b,O7⟩: ∃ b:Nat,b+j=ln.ag.n:=⟨ln.ag.n-j,om⟩
   rw [show (ln.ag.n:Int)-(j:Int)=(b:Int) from by omega]
   have O1:(fu bb (ln.ag.n+1)).length=(ln.ag.n+1):=tg om
   refine ek cE [5,12,13,15] [11] [0,1,2] [0,1,2,3,4,5,6,7,9,10] [0,1,2,3,4,5,6,7,8,9,10] U U U U U<|eS U (zu 4 U cz U)<|eS U (SX (bk U U) U U)<|eS U (FA 13 U fI U)<|eS U (CT (vS bA (ln.ag.n+1) (ln.ag.n+1)) 3 U cz U U)<|eS U (zu 1 U cz U)<|eS U (SX (bh (xs:=[]) (cs:=(aw.cells (aw.mk 0 0))) U U (bg xq U)) U U)<|eS U (zu 4 U cz U)<|eS U (SX (bk U U) U U)<|eS U (FA 7 U fI U)<|eS U (FA 8 U fI U)<|eS U (CT (vI ri.gk) 3 U cz U U) ?_
   obtain ⟨Or,OV⟩:=aQ (fu bb (ln.ag.n+1)) b om
   have hx63m:(List.map oC (fu bb (ln.ag.n+1)))[b]? =some (oC Or):=by rw [eW,OV]; rfl
   refine fS U (IA b U (aa (n:=(ln.ag.n+1)) 8 U sq) lx dc om om) ?_
   refine e7 U<|gj U fun T64 OF=>lY (kV:=c5) U U fun A=>?_
   try dsimp only
   refine aG (OF _ _ (aJ [1,2,3,4,5,6,7,8,10,11]) (aJ [1,2,3,4,5,6,7,8,9,10,11]) ?_)
   refine gj U fun T66 OG=>?_
   have ON:(dB ([]:List (aw×Int)) (aw.mk 0 0) ri.gk)=[((aw.mk 0 0),ri.gk)]:=by rfl
   refine tS (kV:=c5) (x:=(aw.mk 0 0)) (C':=[(fJ c5 A (bo iV ([((aw.mk 0 0),ri.gk)]))),_,_,_,_,_,_,_,_,_,_,_]) 0 U U U U lS mj U ((fE _ _ _ _).symm.trans (congrArg _ ON)) U<|aG (OG _ _ (aJ [1,2,3,4,5,6,7,8,10,11]) (aJ [1,2,3,4,5,6,7,8,9,10,11]) ?_)
   refine gj U fun T68 OH=>rS (MV U)<|aG (OH _ _ (aJ [1,2,3,4,5,6,7,8,10,11]) (aJ [1,2,3,4,5,6,7,8,9,10,11]) ?_)
   refine cf U fun T69 OI=>?_
   have OO:((fu bb (ln.ag.n+1)).set b (some A))=(fu (A::bb) (ln.ag.n+1)):=by exact Bn om
   refine dk (k:=b) (o:=0) (vs:=[(Value.map (some A))]) (es':=(List.map oC (fu (A::bb) (ln.ag.n+1)))) (C':=[_,_,_,_,_,_,_,_,_,(own bA (ln.ag.n+1) 278 1 (List.map oC (fu (A::bb) (ln.ag.n+1)))),_,_]) 9 U U U FV U U U U hx63m U dc (by exact (List.map_set (f:=oC) (l:=(fu bb (ln.ag.n+1))) (i:=b) (a:=(some A))).symm.trans (congrArg _ OO)) U<|aG (OI _ _ (aJ [1,2,3,4,5,6,7,8,10,11]) ?_)
   refine fH U<|KK LR<|al fun _ LT=>WS fun _ Li=>rP 3 [] (mc 2 U I) ?_
   refine RK Li<|dF U (aY fun J4=>?_) (aZ fun J4=>?_)
   ·refine bq<|ah<|aD<|KK Ck<|al fun _ Lk=>WS fun _ Lw=>hE 1 [] (mc 2 U I) U<|RK Lw<|au<|AL U gI fun Oa=>CD U xg U U<|RK Lk<|au<|rP 2 [] (mc 0 U I) ?_
    refine CD U xg U U<|aG ?_
    rw [show (b:Int)-1=(ln.ag.n:Int)-(((j+1):Nat):Int) from by omega]
    refine uD (ms:=bs) (m:=[((aw.mk 0 0),ri.gk)]) (a:=A) 2 1 U U U ?_
    try dsimp only
    refine bc (CY ⟨((j+1),([((aw.mk 0 0),ri.gk)]::bs),(A::bb),Oa,q),⟨om,by simp; omega,by simp; omega,by exact fy.end_ (b:=b) E om om (by show e.length≤b; omega)⟩⟩ _ _ _ U os (aT U) (aJ [0,1,3,4,5,6,7,8,9,10,11]))
   refine WK LT<|al fun _ L2=>?_
   have Oj:(fu (A::bb) (ln.ag.n+1)).length=(ln.ag.n+1):=tg (by simp; omega)
   obtain ⟨mb,N⟩:=aQ bs 0 om
   obtain ⟨ga,Z⟩:=aQ bb 0 om
   refine Ae 1 N Z U U U ?_
   try dsimp only
   refine dR cE 8 kr<|m7 1 [] (mc 6 U I) U<|dS (SX (bk U U) U U)<|dP 4 [0,1] (mr 5 U (mc 3 U I)) ?_
   have OT:(List.map oC (fu (A::bb) (ln.ag.n+1)))[(b+1)]? =some (oC (some ga)):=ou (pw (i:=1) (by simpa using Z) (by simp; omega))
   refine dS (IA (b+1) U (aa (n:=(ln.ag.n+1)) 10 U sq) lx dc om om) ?_
   refine dS (g4 (b+1) 0 (Value.map (some ga)) U cz (aa (n:=(fu (A::bb) (ln.ag.n+1)).length) 10 U sm) OT U dc U)<|dJ<|ql 0 U U lS U U fun CP=>?_
   try dsimp only
   refine RK L2<|aF ?_
   have C:(∀ p∈mb,p∈mb)∧(q_ (bT ln ri e tms) b ([((aw.mk 0 0),ri.gk)]))∧(gZ (bT ln ri e tms) b mb ([((aw.mk 0 0),ri.gk)]) mb):=by exact ⟨fun p hp=>hp,q_.start (by show b<e.length; omega),gZ.start⟩
   refine rq (ι:={z:FM×FM×(List Nat) // (∀ p∈z.1,p∈mb)∧(q_ (bT ln ri e tms) b z.2.1)∧(gZ (bT ln ri e tms) b mb z.2.1 z.1)}) (fun z=>z.1.2.2.map jA) (fun z=>[(0,(vP gw)),(1,(vP W)),(2,(vI (ln.ag.n:Int))),(12,(vP gq)),(171,(vP CP))]) (fun z=>[(tG c5 CP ga (bo iV mb) (bo iV z.1.1) none),(bf (dV k8 bs bb 0)),(fJ c5 A (bo iV z.1.2.1)),(bJ gq 3 [(vI (b:Int))]),(bf (z.1.2.2.map jE)),(bJ gw 274 (bE.cells (bE.mk ln ri (ba.mk e_A e.length e_C) (ba.mk t_A tms.length t_C) (ba.mk fA (ln.ag.n+1) (ln.ag.n+1)) (ba.mk bA (ln.ag.n+1) (ln.ag.n+1))))).ro,(bJ W 263 [(vP gw)]),(rd e_A e.length 1 (e.map iC)).ro,(rd t_A tms.length 1 (List.zipWith eV tms tb)).ro,(eR (aR og tms tb)).ro,(own bA (ln.ag.n+1) 278 1 (List.map oC (fu (A::bb) (ln.ag.n+1)))),(bf (aR k8 fs fb)),(own fA (ln.ag.n+1) 278 1 (List.map oC (dh fb (ln.ag.n+1))))]) (fun z=>z.1.1.length) ⟨(mb,[((aw.mk 0 0),ri.gk)],q),C⟩ U (aT U) (aJ [0,1,2,3,4,5,6,7,8,9,10,11,12]) ?_
   clear C
   rintro ⟨⟨left,m,V⟩,⟨J,K,L⟩⟩ J80 J7
   try dsimp only at J K L
   try dsimp only
   refine WS fun _ Cp=>oY mj.inj (f:=iV) 0 U U U U (fun J5=>?_) (fun t v hm Id=>?_)
   ·refine a_ 1 U<|RK Cp<|al fun _ O0=>aM U<|bq<|ah<|ah<|aD<|aH<|KK Ck<|al fun _ ML=>WS fun _ M2=>hE 1 [] (mc 3 U I) U<|RK M2<|au<|AL U gI fun JQ=>CD U xg U U<|RK ML<|au<|rP 2 [] (mc 0 U I) ?_
    refine CD U xg U U<|aG<|EA (C':=[(bJ JQ 3 [(vI ((b:Int)-1))]),(fJ c5 ga (bo iV mb)),(bf (dV k8 bs bb 0)),(fJ c5 A (bo iV m)),(bJ gq 3 [(vI (b:Int))]),(bf (V.map jE)),(bJ gw 274 (bE.cells (bE.mk ln ri (ba.mk e_A e.length e_C) (ba.mk t_A tms.length t_C) (ba.mk fA (ln.ag.n+1) (ln.ag.n+1)) (ba.mk bA (ln.ag.n+1) (ln.ag.n+1))))).ro,(bJ W 263 [(vP gw)]),(rd e_A e.length 1 (e.map iC)).ro,(rd t_A tms.length 1 (List.zipWith eV tms tb)).ro,(eR (aR og tms tb)).ro,(own bA (ln.ag.n+1) 278 1 (List.map oC (fu (A::bb) (ln.ag.n+1)))),(bf (aR k8 fs fb)),(own fA (ln.ag.n+1) 278 1 (List.map oC (dh fb (ln.ag.n+1))))]) 1 U D3 U<|Fq 2 1 N Z U U U ?_
    try dsimp only
    rw [show (b:Int)-1=(ln.ag.n:Int)-(((j+1):Nat):Int) from by omega]
    refine uD (ms:=bs) (m:=m) (a:=A) 0 2 U U U ?_
    try dsimp only
    refine bc (CY ⟨((j+1),(m::bs),(A::bb),JQ,V),⟨om,by simp; omega,by simp; omega,by exact fy.more (b:=b) E om om (by show b<e.length; omega) N K L J5⟩⟩ _ _ _ U os (aT U) (aJ [0,1,3,4,5,6,7,8,9,10,11]))
   try dsimp only
   refine a_ 1 U<|RK Cp<|al fun _ NB=>aX U<|WK NB<|aF<|WS fun _ NE=>rS (SX (o2 0 U U U) U U)<|a_ 2 U<|AL U pt fun Jn=>AL U gI fun J2=>vU U ot U<|CD U xg U U<|RK NE<|WS fun _ NI=>rP 2 [0,1] (mc 8 U (mc 5 U I)) ?_
   refine cX (qA gw b) (aC) U fun Ov O3=>?_
   obtain ⟨C0,C5⟩:=Ov
   try dsimp only
   refine RK NI<|aF<|iG 11 U (by exact fun _ h=>h)<|iG 13 U (by exact fun _ h=>h)<|iG 15 U (by exact fun _ h=>h)<|iG 12 U (by exact fun _ h=>h) ?_
   refine ko (L0:=[(0,(vP gw)),(1,(vP W)),(2,(vI (ln.ag.n:Int))),(12,(vP gq)),(13,(vP Jn)),(14,(vP J2)),(171,(vP CP))]) (F:=[(rd e_A e.length 1 (e.map iC)).ro,(rd t_A tms.length 1 (List.zipWith eV tms tb)).ro,(eR (aR og tms tb)).ro,(bJ gw 274 (bE.cells (bE.mk ln ri (ba.mk e_A e.length e_C) (ba.mk t_A tms.length t_C) (ba.mk fA (ln.ag.n+1) (ln.ag.n+1)) (ba.mk bA (ln.ag.n+1) (ln.ag.n+1))))).ro,(bJ C0 263 [(vP gw)]),(bJ C5 3 [(vI (b:Int))])]) (fun k (y:FM)=>(kX (bT ln ri e tms) b mb left y (t,v) k)) (fun k y=>[(bJ J2 3 [(vI v)]),(bJ Jn 280 (aw.cells t)),(tG c5 CP ga (bo iV mb) (bo iV (bR left t)) (some (t,(vI v)))),(bf (dV k8 bs bb 0)),(fJ c5 A (bo iV y)),(bJ gq 3 [(vI (b:Int))]),(bf (V.map jE)),(bJ gw 274 (bE.cells (bE.mk ln ri (ba.mk e_A e.length e_C) (ba.mk t_A tms.length t_C) (ba.mk fA (ln.ag.n+1) (ln.ag.n+1)) (ba.mk bA (ln.ag.n+1) (ln.ag.n+1))))).ro,(bJ W 263 [(vP gw)]),(rd e_A e.length 1 (e.map iC)).ro,(rd t_A tms.length 1 (List.zipWith eV tms tb)).ro,(eR (aR og tms tb)).ro,(own bA (ln.ag.n+1) 278 1 (List.map oC (fu (A::bb) (ln.ag.n+1)))),(bf (aR k8 fs fb)),(own fA (ln.ag.n+1) 278 1 (List.map oC (dh fb (ln.ag.n+1))))]) (fun _ (_:Unit)=>False) (fun _ _=>[]) [6,7,8,9,10,11,12,13,14,15,16,17,18,19,20] [3,2,1,0,4,5] m rfl rfl (oW ln ri e tms e_A e_C tb t_A t_C fA (ln.ag.n+1) (ln.ag.n+1) bA (ln.ag.n+1) (ln.ag.n+1) gw b C0 C5 om om) rfl rfl rfl (by exact kX.start K L) (by simp only [List.forall_mem_cons,List.not_mem_nil,false_imp_iff,implies_true,and_true]; exact ⟨⟨_,aN (i:=0) rfl,(dT (bI _))⟩,⟨_,aN (i:=1) rfl,(dT (bI _))⟩,⟨_,aN (i:=2) rfl,(dT (bI _))⟩,⟨_,aN (i:=3) rfl,(dT (bI _))⟩,⟨_,aN (i:=4) rfl,(bI _)⟩,⟨_,aN (i:=5) rfl,(bI _)⟩⟩) (by rintro k x k2 ⟨o,_,rfl,_⟩; rfl) rfl (aT rfl) ?_ ?_ (fun _ _ _ h=>h.elim) (fun _ _ h=>h.elim)
   rotate_left 1
   ·rintro OW k O A5 A9
    have D:=A9
    try dsimp only
    refine aH<|aH<|DX (X:=V.map jE) 13 0 U U ?_
    try dsimp only
    refine fm 9 U rJ U ?_
    refine bc (J7 ⟨((bR left t),O,(OW::V)),⟨jW J,D.on,D.next Id hm A5⟩⟩ _ _ _ U (dD hm) (aT U) (aJ [9,10,11,12,0,4,14,1,2,3,18,19,20]))
   rintro k x k2 O l ra rb S w1 K95 Qr96 Om hx Hl NU AB Ot Ox
   obtain ⟨o,ho,rfl,rfl⟩:=hx
   have D:=Hl
   try dsimp only
   refine WS fun _ Ne=>rP 1 [] I ?_
   refine RK Ne<|au<|AL U dK fun O6=>fw U cT U<|aG<|jB (fun _ _ h=>h) (aJ [1,0,2,3,4,5,6,7,8,9,10,11,12,13,14,15,16])<|bc (NU _ _ ?_)
   refine aF<|al fun _ Do=>ek cE [16,18] [] [] [0,1,2,3,4,5,6,7,8,9,10,11,12,13,14,15,16] [] U U U U U<|eS U (zu 2 U cz U)<|eS U (FA 1 U fI U)<|eS U (L1 (vI o.2.Hi) 1 U cz U U) ?_
   have hp:=E.NR (b:=b) om N (J _ hm)
   have Of:=Dd hw hp
   have Ok:=rN o.1
   have Ol:=hw.opt ho
   dsimp only at Of
   refine eS U (MN U)<|eS U (zu 10 U cz U)<|eS U (SX (bk U U) U U)<|eS U (FA 10 U fI U)<|eS U (CT (vS e_A e.length e_C) 9 U cz U U)<|eS U (zu 7 U cz U) ?_
   obtain ⟨y,hy⟩:=aQ e b om
   have If:=cG iC hy
   refine eS U (IA b U (aS 11 U) b0 dc om om)<|eS U (g4 b 0 (vI y) U cz (aS 11 U) If U dc U) ?_
   have Oh:=hw.least y (aN hy)
   refine eS U (BI U (pJ ⟨om,om⟩))<|eS U (LW 3 U cz U U)<|eS U (MV U)<|eS U (CL (FI o.1) (aC) U)<|eS U (CL (rn t (eA o.1) om om) (aC) U)<|eS U (AG U)<|e7 U<|cf U fun T101 FZ=>AL U pt fun Oy=>aG (FZ _ _ (aJ [1,2,3,4,5,6,7,8,9,10,11,12,13,14,15,16,17]) ?_)
   refine cf U fun T103 Fd=>fw U ot U<|aG (Fd _ _ (aJ [1,2,3,4,5,6,7,8,9,10,11,12,13,14,15,16,17]) ?_)
   refine fH U<|KK Do<|al fun _ EB=>dR cE 14 kr<|m7 1 [] (mc 11 U I) U<|dS (SX (bk U U) U U)<|dP 3 [0,1] (mr 10 U (mc 8 U I)) ?_
   have H1:(List.map oC (fu (A::bb) (ln.ag.n+1)))[b]? =some (oC (some A)):=ou (pw (i:=0) rfl (by simp; omega))
   refine dS (IA b U (aa (n:=(ln.ag.n+1)) 15 U sq) lx dc om om) ?_
   refine dS (g4 b 0 (Value.map (some A)) U cz (aa (n:=(fu (A::bb) (ln.ag.n+1)).length) 15 U sm) H1 U dc U)<|m7 1 [] (mc 0 U I) U<|dS (SX (iQ (kV:=c5) (x:=(dm t (eA o.1))) (l:=O) (f:=iV) (z:=0) U U U lS mj NX (by exact aS 7 U)) U U)<|rH 5 U<|dJ<|RK EB<|WS fun _ Y=>hE 3 [0,1] (mc 3 U (mc 2 U I)) U<|rS (MN U)<|rP 4 [] (mc 2 U I) ?_
   refine bH (t:=217) U (aZ fun T=>?_) (aY fun T=>?_)
   ·refine rP 8 [] I ?_
    refine RK Y<|aM U<|cJ<|aH ?_
    exact AB O _ _ (by exact D.skip (GD T)) (aJ [1,3,4,5,6,7,8,9,10,11,12,13,14,15,16,17])
   refine rP 3 [] I ?_
   refine eH (t:=220) U (fun AA=>?_) (fun AA=>?_)
   ·rw [Bool.not_eq_true'] at AA
    refine a_ 5 U<|RK Y<|aX U<|dR cE 9 kr<|m7 1 [] (mc 11 U I) U<|dS (SX (bk U U) U U)<|dP 3 [0,1] (mr 10 U (mc 8 U I)) ?_
    have IE:(List.map oC (fu (A::bb) (ln.ag.n+1)))[b]? =some (oC (some A)):=ou (pw (i:=0) rfl (by simp; omega))
    refine dS (IA b U (aa (n:=(ln.ag.n+1)) 15 U sq) lx dc om om) ?_
    refine dS (g4 b 0 (Value.map (some A)) U cz (aa (n:=(fu (A::bb) (ln.ag.n+1)).length) 15 U sm) IE U dc U)<|dP 2 [] (mc 0 U I) ?_
    refine dJ<|im (kV:=c5) (x:=(dm t (eA o.1))) (C':=[_,_,_,_,_,_,_,(fJ c5 A (bo iV (dB O (dm t (eA o.1)) ((min v o.2.Hi)-y)))),_,_,_,_,_,_,_,_,_,_]) 7 U U U U lS mj U (fE _ _ _ _).symm U<|aG<|aH ?_
    exact AB (dB O (dm t (eA o.1)) ((min v o.2.Hi)-y)) _ _ (by exact D.set (by show b<e.length; omega) hp ho (uZ hy T) (.inl (by simpa using AA))) (aJ [1,3,4,5,6,7,8,9,10,11,12,13,14,15,16,17])
   rw [Bool.not_eq_false'] at AA
   refine rP 5 [] I ?_
   refine RK Y<|cu U (aZ fun AC=>?_) (aY fun AC=>?_)
   ·refine cJ<|aH ?_
    exact AB O _ _ (by exact D.mg (uZ hy T) (by simpa using AA) AC) (aJ [1,3,4,5,6,7,8,9,10,11,12,13,14,15,16,17])
   refine dR cE 9 kr<|m7 1 [] (mc 11 U I) U<|dS (SX (bk U U) U U)<|dP 3 [0,1] (mr 10 U (mc 8 U I)) ?_
   have IO:(List.map oC (fu (A::bb) (ln.ag.n+1)))[b]? =some (oC (some A)):=ou (pw (i:=0) rfl (by simp; omega))
   refine dS (IA b U (aa (n:=(ln.ag.n+1)) 15 U sq) lx dc om om) ?_
   refine dS (g4 b 0 (Value.map (some A)) U cz (aa (n:=(fu (A::bb) (ln.ag.n+1)).length) 15 U sm) IO U dc U)<|dP 2 [] (mc 0 U I) ?_
   refine dJ<|im (kV:=c5) (x:=(dm t (eA o.1))) (C':=[_,_,_,_,_,_,_,(fJ c5 A (bo iV (dB O (dm t (eA o.1)) ((min v o.2.Hi)-y)))),_,_,_,_,_,_,_,_,_,_]) 7 U U U U lS mj U (fE _ _ _ _).symm U<|aG<|aH ?_
   exact AB (dB O (dm t (eA o.1)) ((min v o.2.Hi)-y)) _ _ (by exact D.set (by show b<e.length; omega) hp ho (uZ hy T) (.inr AC)) (aJ [1,3,4,5,6,7,8,9,10,11,12,13,14,15,16,17])
  refine ek cE [4,11,12,14] [10] [0,1,2] [0,1,2,3,4,6] [0,1,2,3,4,5,6] U U U U U<|eS U (zu 1 U cz U)<|eS U (SX (bk U U) U U)<|eS U (FA 12 U fI U)<|eS U (CT (vS fA (ln.ag.n+1) (ln.ag.n+1)) 0 U cz U U)<|eS U (SX (bh (xs:=[]) (cs:=(aw.cells (aw.mk 0 0))) U U (bg xq U)) U U)<|eS U (zu 1 U cz U)<|eS U (SX (bk U U) U U)<|eS U (FA 7 U fI U)<|eS U (FA 7 U fI U)<|eS U (CT (vI ri.Start) 0 U cz U U) ?_
  obtain ⟨x6,On⟩:=aQ (List.replicate (ln.ag.n+1) (none:Option Nat)) 0 om
  have hx7m:(List.map oC (List.replicate (ln.ag.n+1) (none:Option Nat)))[0]? =some (oC x6):=by rw [eW,On]; rfl
  refine fS U (IA 0 U (aa (n:=(ln.ag.n+1)) 5 U sq) lx dc U om) ?_
  refine e7 U<|gj U fun T8 Fn=>lY (kV:=c5) U U fun r=>?_
  try dsimp only
  refine aG (Fn _ _ (aJ [1,2,3,4,5,7]) (aJ [1,2,3,4,5,6,7]) ?_)
  refine gj U fun T10 G=>?_
  have OJ:(dB ([]:List (aw×Int)) (aw.mk 0 0) ri.Start)=[((aw.mk 0 0),ri.Start)]:=by rfl
  refine tS (kV:=c5) (x:=(aw.mk 0 0)) (C':=[(fJ c5 r (bo iV ([((aw.mk 0 0),ri.Start)]))),_,_,_,_,_,_,_]) 0 U U U U lS mj U ((fE _ _ _ _).symm.trans (congrArg _ OJ)) U<|aG (G _ _ (aJ [1,2,3,4,5,7]) (aJ [1,2,3,4,5,6,7]) ?_)
  refine gj U fun T12 Ny=>rS (MV U)<|aG (Ny _ _ (aJ [1,2,3,4,5,7]) (aJ [1,2,3,4,5,6,7]) ?_)
  refine cf U fun T13 N0=>?_
  have OK:((List.replicate (ln.ag.n+1) (none:Option Nat)).set 0 (some r))=(dh [r] (ln.ag.n+1)):=by rw [uG]; exact p6 rfl sm
  refine dk (k:=0) (o:=0) (vs:=[(Value.map (some r))]) (es':=(List.map oC (dh [r] (ln.ag.n+1)))) (C':=[_,_,_,_,_,_,(own fA (ln.ag.n+1) 278 1 (List.map oC (dh [r] (ln.ag.n+1)))),_]) 6 U U U FV U U U U hx7m U dc (by exact (List.map_set (f:=oC) (l:=(List.replicate (ln.ag.n+1) (none:Option Nat))) (i:=0) (a:=(some r))).symm.trans (congrArg _ OK)) U<|aG (N0 _ _ (aJ [1,2,3,4,5,7]) ?_)
  refine fH U<|JH<|z6 (X:=[]) (X':=aR k8 [[((aw.mk 0 0),ri.Start)]] [r]) 0 1 U U U ?_
  try dsimp only
  refine bc (jB (aT U) (aJ [1,2,3,4,5,7,0,6]) (Oe ⟨r,trivial⟩))
 refine rv cE [0,1,2,3,5,6,8,9,11,12] [4,7,10,13] [false,false,false,false,false,false,false,false,false,false] [] [(bJ W 263 [(vP gw)]),(rd e_A e.length 1 (e.map iC)).ro,(rd t_A tms.length 1 (List.zipWith eV tms tb)).ro,(eR (aR og tms tb)).ro] [] kr (aJ [0,2,3,4]) (aJ [])<|eS U (zu 0 U cz U)<|eS U (zu 0 U cz U)<|eS U (MV U)<|eS U (BI U (fG ⟨om,om⟩))<|eS U (MV U)<|eS U (BI U (fG ⟨om,om⟩))<|eS U (SX (bk U U) U U)<|eS U (FA 12 U fI U)<|eS U (SX (bk U U) U U)<|eS U (FA 13 U fI U)<|e7 U<|eN [4,7] kr (b_ ?_<|b_ ?_<|fQ)
 rotate_left 1
 ·refine NO U U [4,10,13] fun T5 Fj=>?_
  refine tP (n:=(ln.ag.n+1)) (es:=(List.map oC (List.replicate (ln.ag.n+1) (none:Option Nat)))) U U U xE om om (by simp only [maxLen]; omega) (by rw [List.map_replicate]; rfl) U fun b6=>?_
  try dsimp only
  refine aG (Fj _ _ (aJ [1,3,4,5]) ?_)
  refine N1 4<|NO U U [10,13] fun T7 A4=>?_
  refine tP (n:=(ln.ag.n+1)) (es:=(List.map oC (List.replicate (ln.ag.n+1) (none:Option Nat)))) U U U xE om om (by simp only [maxLen]; omega) (by rw [List.map_replicate]; rfl) U fun b8=>?_
  try dsimp only
  refine aG (A4 _ _ (aJ [2,4,5,6]) ?_)
  refine N1 10<|NO U U [13] fun T9 GE=>KB (bE.cells (bE.mk ln ri (ba.mk e_A e.length e_C) (ba.mk t_A tms.length t_C) (ba.mk (some ⟨b8,0,none⟩) (ln.ag.n+1) (ln.ag.n+1)) (ba.mk none 0 0))) U tw U U<|aG (GE _ _ (aJ [2,4,5,6]) ?_)
  refine N1 13<|NO U U [] fun T10 G=>KB (bE.cells (bE.mk ln ri (ba.mk e_A e.length e_C) (ba.mk t_A tms.length t_C) (ba.mk (some ⟨b8,0,none⟩) (ln.ag.n+1) (ln.ag.n+1)) (ba.mk (some ⟨b6,0,none⟩) (ln.ag.n+1) (ln.ag.n+1)))) U tw U U<|aG (G _ _ (aJ [2,4,5,6]) ?_)
  refine sv ?_
  refine bc (jB (aT U) (aJ [2,4,5,6,0,1,3]) (Ej ⟨((some ⟨b8,0,none⟩),(some ⟨b6,0,none⟩)),trivial⟩))
 refine NO U U [7,10,13] fun T5 Fj=>?_
 refine tP (n:=(ln.ag.n+1)) (es:=(List.map oC (List.replicate (ln.ag.n+1) (none:Option Nat)))) U U U xE om om (by simp only [maxLen]; omega) (by rw [List.map_replicate]; rfl) U fun b6=>?_
 try dsimp only
 refine aG (Fj _ _ (aJ [1,3,4,5]) ?_)
 refine eN [7,10] kr (b_ ?_<|b_ ?_<|fQ)
 rotate_left 1
 ·refine NO U U [7,13] fun T7 A4=>NZ (bE.cells (bE.mk ln ri (ba.mk e_A e.length e_C) (ba.mk t_A tms.length t_C) (ba.mk (some ⟨b6,0,none⟩) (ln.ag.n+1) (ln.ag.n+1)) (ba.mk none 0 0))) U tw U U<|aG (A4 _ _ (aJ [1,3,4,5]) ?_)
  refine N1 7<|NO U U [13] fun T8 Fn=>?_
  refine tP (n:=(ln.ag.n+1)) (es:=(List.map oC (List.replicate (ln.ag.n+1) (none:Option Nat)))) U U U xE om om (by simp only [maxLen]; omega) (by rw [List.map_replicate]; rfl) U fun r=>?_
  try dsimp only
  refine aG (Fn _ _ (aJ [2,4,5,6]) ?_)
  refine N1 13<|NO U U [] fun T10 G=>KB (bE.cells (bE.mk ln ri (ba.mk e_A e.length e_C) (ba.mk t_A tms.length t_C) (ba.mk (some ⟨b6,0,none⟩) (ln.ag.n+1) (ln.ag.n+1)) (ba.mk (some ⟨r,0,none⟩) (ln.ag.n+1) (ln.ag.n+1)))) U tw U U<|aG (G _ _ (aJ [2,4,5,6]) ?_)
  refine sv ?_
  refine bc (jB (aT U) (aJ [2,4,5,6,1,0,3]) (Ej ⟨((some ⟨b6,0,none⟩),(some ⟨r,0,none⟩)),trivial⟩))
 refine NO U U [10,13] fun T7 A4=>?_
 refine tP (n:=(ln.ag.n+1)) (es:=(List.map oC (List.replicate (ln.ag.n+1) (none:Option Nat)))) U U U xE om om (by simp only [maxLen]; omega) (by rw [List.map_replicate]; rfl) U fun b8=>?_
 try dsimp only
 refine aG (A4 _ _ (aJ [2,4,5,6]) ?_)
 refine N1 10<|NO U U [13] fun T9 GE=>KB (bE.cells (bE.mk ln ri (ba.mk e_A e.length e_C) (ba.mk t_A tms.length t_C) (ba.mk (some ⟨b6,0,none⟩) (ln.ag.n+1) (ln.ag.n+1)) (ba.mk none 0 0))) U tw U U<|aG (GE _ _ (aJ [2,4,5,6]) ?_)
 refine N1 13<|NO U U [] fun T10 G=>KB (bE.cells (bE.mk ln ri (ba.mk e_A e.length e_C) (ba.mk t_A tms.length t_C) (ba.mk (some ⟨b6,0,none⟩) (ln.ag.n+1) (ln.ag.n+1)) (ba.mk (some ⟨b8,0,none⟩) (ln.ag.n+1) (ln.ag.n+1)))) U tw U U<|aG (G _ _ (aJ [2,4,5,6]) ?_)
 refine sv ?_
 refine bc (jB (aT U) (aJ [2,4,5,6,1,0,3]) (Ej ⟨((some ⟨b6,0,none⟩),(some ⟨b8,0,none⟩)),trivial⟩))
end
section
open Go.RowKit
theorem yb (l:aU) (kA:OA) (kC:Nat) (az:List RA) (cA:OA) (cC:Nat) (bA:OA) (bC g1:Nat) (bm:Int) (g2:Nat) (hin:fh l az):
 dQ Tryz.prog 206 [(vP g1),(vP g2)] [(rd kA l.aO.length 9 (l.aO.map ao.cells)),(rd cA l.ak.length 2 (List.zipWith aA.cells l.ak az)),(eR (aR aA.jx l.ak az)),(rd bA l.ag.length 4 (l.ag.map bG.cells)),(bJ g1 31 (cj.cells (mW l kA kC cA cC bA bC))),(bJ g2 3 [(vI bm)])] (vI (iF l bm)):=by
 have K:=hin.wJ
 have J:=hin.wI
 have H:=hin.pQ
 have AA:=hin.v8
 refine bx kr Tryz.func206 U U fun L Q hQ hN=>?_
 try dsimp only
 refine WS fun _ B=>a_ 1 U<|RK B<|al fun _ C=>WS fun _ D=>rP 5 [0,1] (mr 4 U (mr 5 U I)) ?_
 refine ck (xs:=[.tmp 7]) (cs:=[(vI bm)]) U b0 gI U U U U (by simp [Value.cells]) U U fun G=>?_
 refine rS (CL (dQ.eq (gi 0 ((l.ag.length:Int)-1) ([bm]) (some ⟨G,0,none⟩) 1 (by (simp; done))) bZ) (ae (aP 0 U U (by simp [aW]) U)<|aC) U) ?_
 refine rP 1 [] I ?_
 refine RK D<|dF U (bL fun A=>?_) (bM fun A=>?_)
 ·refine WS fun _ E=>rP 1 [] I ?_
  refine RK E<|aB<|Q1 hQ U U U ?_
  exact cI (if_neg om).symm
 refine WK C<|WS fun _ F=>rP 1 [] I ?_
 refine RK F<|aB<|Q1 hQ U U U ?_
 exact cI (if_pos om).symm
end
section
open Go.RowKit
theorem HL (l:aU) (kA:OA) (kC:Nat) (az:List RA) (cA:OA) (cC:Nat) (bA:OA) (bC:Nat) (r:cK) (sgA:OA) (sgC:Nat) (f:Value) (X:aj) (me:Int) (gm:Nat) (hf:zl Tryz.prog f [] [X] (.int .i64 me)) (hin:fh l az) (hsl:r.ay.length≤1000000):
 kd Tryz.prog 205 [(vA (cj.cells (mW l kA kC cA cC bA bC))),(vA (eJ.cells (np r sgA sgC))),(vS (some ⟨gm,0,none⟩) 1 1)] [(rd kA l.aO.length 9 (l.aO.map ao.cells)),(rd cA l.ak.length 2 (List.zipWith aA.cells l.ak az)),(eR (aR aA.jx l.ak az)),(rd bA l.ag.length 4 (l.ag.map bG.cells)),(rd sgA r.ay.length 2 (r.ay.map aK.cells)),X,(bJ gm 266 [f])] (fun (x:Bool×Int×Nat×(OA)×Nat×(OA)×Nat×(List Nat)×(List FM)×(List Nat)×(OA)×Nat×(List FM)×(List Nat)×(OA)×Nat)=>bif x.1 then (vT [(Value.pointer (some ⟨x.2.2.1,0,none⟩)),(vI 0)]) else (vT [(Value.pointer none),(vI x.2.1)])) (fun (x:Bool×Int×Nat×(OA)×Nat×(OA)×Nat×(List Nat)×(List FM)×(List Nat)×(OA)×Nat×(List FM)×(List Nat)×(OA)×Nat)=>(x.1=true→(ed l r me=0∧sI (cq l r) x.2.2.2.2.2.2.2.2.1∧pT (cq l r) x.2.2.2.2.2.2.2.2.2.2.2.2.1∧x.2.2.2.2.2.2.2.2.2.1.length=x.2.2.2.2.2.2.2.2.1.length∧x.2.2.2.2.2.2.2.2.2.2.2.2.2.1.length=x.2.2.2.2.2.2.2.2.2.2.2.2.1.length∧x.2.2.2.2.2.2.2.1.length=(c0 l r.ay r.ay.length).length))∧(x.1=false→(x.2.1=ed l r me∧ ¬ ed l r me=0))) (fun (x:Bool×Int×Nat×(OA)×Nat×(OA)×Nat×(List Nat)×(List FM)×(List Nat)×(OA)×Nat×(List FM)×(List Nat)×(OA)×Nat)=>bif x.1 then [(bJ x.2.2.1 274 (bE.cells (bE.mk (mW l kA kC cA cC bA bC) (np r sgA sgC) (ba.mk x.2.2.2.1 ((eF l l.ag.length).length) x.2.2.2.2.1) (ba.mk x.2.2.2.2.2.1 ((c0 l r.ay r.ay.length).length) x.2.2.2.2.2.2.1) (ba.mk x.2.2.2.2.2.2.2.2.2.2.1 x.2.2.2.2.2.2.2.2.1.length x.2.2.2.2.2.2.2.2.2.2.2.1) (ba.mk x.2.2.2.2.2.2.2.2.2.2.2.2.2.2.1 x.2.2.2.2.2.2.2.2.2.2.2.2.1.length x.2.2.2.2.2.2.2.2.2.2.2.2.2.2.2)))),(own x.2.2.2.1 x.2.2.2.2.1 3 1 ((eF l l.ag.length).map iC)),(own x.2.2.2.2.2.1 x.2.2.2.2.2.2.1 64 1 (List.zipWith eV (c0 l r.ay r.ay.length) x.2.2.2.2.2.2.2.1)),(bf (aR og (c0 l r.ay r.ay.length) x.2.2.2.2.2.2.2.1)),(own x.2.2.2.2.2.2.2.2.2.2.1 x.2.2.2.2.2.2.2.2.2.2.2.1 278 1 (List.zipWith eV x.2.2.2.2.2.2.2.2.1 x.2.2.2.2.2.2.2.2.2.1)),(bf (aR k8 x.2.2.2.2.2.2.2.2.1 x.2.2.2.2.2.2.2.2.2.1)),(own x.2.2.2.2.2.2.2.2.2.2.2.2.2.2.1 x.2.2.2.2.2.2.2.2.2.2.2.2.2.2.2 278 1 (List.zipWith eV x.2.2.2.2.2.2.2.2.2.2.2.2.1 x.2.2.2.2.2.2.2.2.2.2.2.2.2.1)),(bf (aR k8 x.2.2.2.2.2.2.2.2.2.2.2.2.1 x.2.2.2.2.2.2.2.2.2.2.2.2.2.1))] else []):=by
 have OY:=hin.wJ
 have OV:=hin.wI
 have OT:=hin.pQ
 have OU:=hin.v8
 have OW:=hin.side
 refine cS kr Tryz.func205 U U fun w0 Q hQ hN=>?_
 try dsimp only
 refine WS fun _ NE=>g5 U fun b2=>g5 U fun b3=>a_ 2 U<|RK NE<|al fun _ NR=>WS fun _ NU=>hE 1 [] (mc 1 U I) U<|rS (CL (xr l kA kC az cA cC bA bC hin) (bj [2,3,4,5]) U)<|a_ 1 U<|RK NU<|WS fun _ Ne=>rP 2 [] I ?_
 refine RK Ne<|dF U (bL fun h=>?_) (bM fun h=>?_)
 ·refine WS fun _ Ny=>rP 3 [] I ?_
  refine RK Ny<|aB<|LX hQ (false,(dN l),0,none,0,none,0,[],[],[],none,0,[],[],none,0) [] [] I U (by rfl) U U ?_
  exact pR<|HO (wP (r:=r) (me:=me) h) h
 refine WK NR<|al fun _ N0=>WS fun _ AO=>?_
 have C:dN l=0:=h
 obtain ⟨K8,d⟩:=kT C
 have OC:=d.head
 unfold iU at OC
 refine rP 2 [] (mc 0 U I) ?_
 refine ck (xs:=[.tmp 24]) (cs:=[(vI r.Start)]) U b0 gI U U U U (by simp [Value.cells]) U U fun LT=>?_
 refine rS (CL (dQ.eq (gi 0 86400000 ([r.Start]) (some ⟨LT,0,none⟩) 1 (by (simp; done))) bZ) (ae (aP 0 U U (by simp [aW]) U)<|aC) U) ?_
 refine rP 2 [] I ?_
 refine eH (t:=28) U (bL fun Lw=>?_) (bM fun Lw=>?_)
 ·refine a_ 14 U<|RK AO<|aX U<|WS fun _ A8=>rP 2 [] I ?_
  refine RK A8<|aB<|LX hQ (false,51,0,none,0,none,0,[],[],[],none,0,[],[],none,0) [] [] I U (by rfl) U U ?_
  exact pR<|m4 (hP (me:=me) C (fun q:f_ l r=>by have q1:=q.time; have q2:=q.len; omega))
 refine rP 4 [] (mc 1 U I) ?_
 refine ck (xs:=[.tmp 32]) (cs:=[(vI r.gk)]) U b0 gI U U U U (by simp [Value.cells]) U U fun Li=>?_
 refine rS (CL (dQ.eq (gi r.Start 86400000 ([r.gk]) (some ⟨Li,0,none⟩) 1 (by (simp; done))) bZ) (ae (aP 0 U U (by simp [aW]) U)<|aC) U) ?_
 refine rP 3 [] I ?_
 refine eH (t:=37) U (bL fun L2=>?_) (bM fun L2=>?_)
 ·refine a_ 5 U<|RK AO<|aX U<|WS fun _ A9=>rP 2 [] I ?_
  refine RK A9<|aB<|LX hQ (false,51,0,none,0,none,0,[],[],[],none,0,[],[],none,0) [] [] I U (by rfl) U U ?_
  exact pR<|m4 (hP (me:=me) C (fun q:f_ l r=>by have q1:=q.time; have q2:=q.len; omega))
 refine rP 5 [] (mc 2 U I) ?_
 refine RK AO<|dF U (aY fun ML=>?_) (aZ fun ML=>?_)
 ·refine WS fun _ Bi=>rP 2 [] I ?_
  refine RK Bi<|aB<|LX hQ (false,51,0,none,0,none,0,[],[],[],none,0,[],[],none,0) [] [] I U (by rfl) U U ?_
  exact pR<|m4 (hP (me:=me) C (fun q:f_ l r=>by have q1:=q.time; have q2:=q.len; omega))
 refine WK N0<|WS fun _ B3=>rS (SX (bh (xs:=[(0,.const (vI (-1)))]) (cs:=(aK.cells (aK.mk (-1) 0))) U U (bg zP U)) U U)<|AL U DM fun V=>fw U tx U<|RK B3<|al fun _ B7=>ek cE [5,6,7,8] [] [] [0,1,2,3,4,5,6,7,8,9,10,11] [] U U U U U<|eS U (LW 4 U cz U U)<|eS U (LW 3 U cz U U)<|eS U (FA 3 U fI U)<|eS U (L1 (vS bA l.ag.length bC) 4 U cz U U)<|eS U (LN U KI)<|e7 U<|cf U fun T18 Id=>?_
 refine tP (n:=l.ag.length) (es:=(List.map oC (List.replicate l.ag.length (none:Option Nat)))) U U U LV om om (by simp only [maxLen]; omega) (by rw [List.map_replicate]; rfl) U fun B=>?_
 try dsimp only
 refine aG (Id _ _ (aJ [1,2,3,4,5,6,7,8,9,10,11,12]) ?_)
 refine cf U fun T20 If=>rS (SX (bh (xs:=[(0,.tmp 44),(1,.tmp 45),(3,.tmp 49)]) (cs:=(bE.cells (bE.mk (mW l kA kC cA cC bA bC) (np r sgA sgC) (ba.mk none 0 0) (ba.mk (some ⟨B,0,none⟩) l.ag.length l.ag.length) (ba.mk none 0 0) (ba.mk none 0 0)))) U U (bg Me U)) U U)<|aG (If _ _ (aJ [1,2,3,4,5,6,7,8,9,10,11,12]) ?_)
 refine cf U fun T21 In=>g5 U fun AB=>aG (In _ _ (aJ [2,3,4,5,6,7,8,9,10,11,12,13]) ?_)
 refine cf U fun T23 JK=>rS (AG U)<|aG (JK _ _ (aJ [2,3,4,5,6,7,8,9,10,11,12,13]) ?_)
 refine fH U<|KK B7<|al fun _ B9=>WS fun _ CY=>rP 4 [] (mc 6 U I) ?_
 refine RK CY<|aF ?_
 rw [uG]
 refine gl 3 1<|nt ?_
 have E:(0≤l.ag.length)∧(([]:List Nat).length=0):=by exact ⟨Nat.zero_le _,rfl⟩
 refine bX (ι:={z:Nat×(OA)×Nat×(List Nat) // (z.1≤l.ag.length)∧(z.2.2.2.length=z.1)}) [2,3,4,6,7,9,10,54] [4,7,8,9,10,11,12,13,14,15] U U (fun z=>[(55,(vI (z.1.1:Int)))]) (fun z=>[(bf (aR og (List.replicate z.1.1 ([]:TM)) z.1.2.2.2)),(own z.1.2.1 z.1.2.2.1 3 1 ((eF l z.1.1).map iC)),(bJ AB 274 (bE.cells (bE.mk (mW l kA kC cA cC bA bC) (np r sgA sgC) (ba.mk z.1.2.1 ((eF l z.1.1).length) z.1.2.2.1) (ba.mk (some ⟨B,0,none⟩) l.ag.length l.ag.length) (ba.mk none 0 0) (ba.mk none 0 0)))),(own (some ⟨B,0,none⟩) l.ag.length 64 1 (List.map oC (dh z.1.2.2.2 l.ag.length)))]) (fun _=>rfl) (fun _=>rfl) (fun z=>l.ag.length-z.1.1) ⟨(0,none,0,([]:List Nat)),E⟩ (aT U) (aJ [4,7,8,9,10,11,12,13,14,15,0,1,2,3]) ?_
 clear E
 rintro ⟨⟨b,a,c,fb⟩,⟨A0,Y⟩⟩ J26 A7
 try dsimp only at A0 Y
 try dsimp only
 have OD:(dh fb l.ag.length).length=l.ag.length:=oc om
 refine WS fun _ Ci=>rP 1 [] I ?_
 refine RK Ci<|al fun _ Ck=>dF U (aY fun L0=>?_) (aZ fun L0=>?_)
 ·refine WK Ck<|al fun _ Cp=>aF<|WS fun _ Cx=>rP 2 [] I ?_
  refine RK Cx<|al fun _ C0=>ek cE [12,13,16] [4] [0] [0,1,2,3,4,5,6,7,8,9,10,13] [0,1,2,3,4,5,6,7,8,9,10,11,12,13] U U U U U<|eS U (MV U)<|eS U (MV U)<|eS U (SX (bk U U) U U)<|eS U (FA 10 U fI U)<|fS U (L1 (vS a ((eF l b).length) c) 12 U cz U U)<|eS U (LW 2 U cz U U)<|eS U (MV U)<|eS U (CL (IT l kA kC az cA cC bA bC (b:Int) hin asm (by exact d.CP) om) (bj [3,4,5,6]) U) ?_
  have OZ:=IJ K8 d.CP b
  have Oa:=d.NI b om
  simp only [Int.toNat_natCast]
  refine eS U (BI U (IC ⟨om,om⟩))<|eS U (FA 1 U fI U)<|eS U (L1 (vI l.gV) 2 U cz U U) ?_
  refine eS U (CL (Ix (1000*(lj l (b:Int).toNat)) l.gV om (by (simp; omega))) (aC) U) ?_
  refine eS U (SX (bk U U) U U)<|eS U (FA 10 U fI U)<|e7 U<|gj U fun T33 JO=>ck (xs:=[.tmp 69]) (cs:=[(vI (uP (1000*(lj l (b:Int).toNat)) l.gV))]) U b0 gI U U U U (by simp [Value.cells]) U U fun OP=>aG (JO _ _ (aJ [1,2,3,4,5,6,7,8,9,10,11,14]) (aJ [1,2,3,4,5,6,7,8,9,10,11,12,13,14]) ?_)
  refine cf U fun T35 JQ=>?_
  refine dL (es2:=(List.map iC (eF l (b+1)))) (m':=(eF l (b+1)).length) 12 U U U q8 U U (by simp [eg]) (aP (es:=List.map iC [(uP (1000*(lj l (b:Int).toNat)) l.gV)]) 0 U U (by simp [aW]) U) (ku _) (by have:=eg (l:=l) (n:=b); first|omega|(simp; omega)) (by simp only [maxLen,eg]; omega) (by rw [xG]; simp [lJ]) (by simp [eg]) U fun e g=>?_
  try dsimp only
  refine aG (JQ _ _ (aJ [1,2,3,4,5,6,7,8,9,10,11,14]) ?_)
  refine cf U fun T38 Jn=>ik (vs:=[(vS e ((eF l (b+1)).length) g)]) (cs':=(bE.cells (bE.mk (mW l kA kC cA cC bA bC) (np r sgA sgC) (ba.mk e ((eF l (b+1)).length) g) (ba.mk (some ⟨B,0,none⟩) l.ag.length l.ag.length) (ba.mk none 0 0) (ba.mk none 0 0)))) (C':=[_,_,_,_,_,_,_,_,_,_,_,_,_,(bJ AB 274 (bE.cells (bE.mk (mW l kA kC cA cC bA bC) (np r sgA sgC) (ba.mk e ((eF l (b+1)).length) g) (ba.mk (some ⟨B,0,none⟩) l.ag.length l.ag.length) (ba.mk none 0 0) (ba.mk none 0 0)))),_]) 13 U U U xn U U U U U U U<|aG (Jn _ _ (aJ [1,2,3,4,5,6,7,8,9,10,11,14]) ?_)
  refine fH U<|KK C0<|au<|a_ 1 U<|rS (SX (bk U U) U U)<|rP 3 [] (mc 13 U I) ?_
  refine lY (kV:=iV) U U fun J=>?_
  try dsimp only
  obtain ⟨OH,LE⟩:=aQ (dh fb l.ag.length) b om
  have hx41m:(List.map oC (dh fb l.ag.length))[b]? =some (oC OH):=by rw [eW,LE]; rfl
  refine rS (IA b U (aa (n:=l.ag.length) 15 U sq) Ax dc om om) ?_
  have J2:((dh fb l.ag.length).set b (some J))=(dh (fb++[J]) l.ag.length):=by exact p6 om om
  refine dk (k:=b) (o:=0) (vs:=[(Value.map (some J))]) (es':=(List.map oC (dh (fb++[J]) l.ag.length))) (C':=[_,_,_,_,_,_,_,_,_,_,_,_,_,_,_,(own (some ⟨B,0,none⟩) l.ag.length 64 1 (List.map oC (dh (fb++[J]) l.ag.length)))]) 15 U U U Gp U U U U hx41m U dc (by exact (List.map_set (f:=oC) (l:=(dh fb l.ag.length)) (i:=b) (a:=(some J))).symm.trans (congrArg _ J2)) U<|aG<|aH<|KK Cp<|au<|rP 2 [] I ?_
  refine aG<|z6 (X':=aR og (List.replicate (b+1) ([]:TM)) (fb++[J])) 12 0 U U (Ho Y) ?_
  try dsimp only
  have J3:(vI (((b+1):Nat):Int))=(vI ((b:Int)+1)):=by exact cI om
  refine bc (A7 ⟨((b+1),e,g,(fb++[J])),⟨om,by simp; omega⟩⟩ _ _ _ U os (du 8<|bO U J3<|ew.nil _) (aJ [2,3,4,5,6,7,8,9,10,11,0,12,13,14]))
 refine bq<|ah<|ah<|aD<|KK B9<|al fun _ C1=>WS fun _ C2=>rP 4 [] (mc 1 U I) ?_
 refine RK C2<|aF ?_
 rw [show (List.replicate b ([]:TM))=c0 l r.ay 0 from by rw [zx,show b=l.ag.length by omega]]
 rw [show eF l b=eF l l.ag.length from by rw [show b=l.ag.length by omega]]
 have E:(0≤r.ay.length)∧(qb l r.ay 0):=by exact ⟨Nat.zero_le _,Bc⟩
 refine bX (ι:={z:Nat // (z≤r.ay.length)∧(qb l r.ay z)}) [2,3,4,6,7,9,10,83,84] [1,2,3,4,5,6,7,8,9,11,12,13] U U (fun z=>[(85,(vI (z.1:Int)))]) (fun z=>[(bJ V 123 (aK.cells (lW r.ay z.1))),(bf (aR og (c0 l r.ay z.1) fb))]) (fun _=>rfl) (fun _=>rfl) (fun z=>r.ay.length-z.1) ⟨0,E⟩ (aT U) (aJ [1,2,3,4,5,6,7,8,9,11,12,13,0,10]) ?_
 clear E
 rintro ⟨i,⟨LR,A⟩⟩ J46 T
 try dsimp only
 have OE:(c0 l r.ay i).length=l.ag.length:=gO
 have OD:(dh fb l.ag.length).length=l.ag.length:=oc om
 refine WS fun _ C5=>rP 1 [] I ?_
 refine RK C5<|al fun _ Di=>cu U (aZ fun M2=>?_) (aY fun M2=>?_)
 ·refine bq<|ah<|ah<|aD<|KK C1<|al fun _ Fj=>al fun _ Fn=>?_
  have j:f_ l r:=DB om om A om
  refine au<|a_ 3 U<|RK Fn<|aF<|ig 2<|de fun R81 IV=>WS fun _ GE=>rS (SX (bw (r:= .bool true) U U U fj) U U)<|RK GE<|al fun _ GT=>aX U<|WK GT<|al fun _ Go=>aF<|WS fun _ Hi=>rS (Mx 0 0 U Iw U dc U)<|hE 2 [] (mr 8 U I) U<|RK Hi<|WS fun _ Hl=>a_ 1 U<|rS (SX (oO U U U (hf) (bj [7])) U U)<|a_ 1 U<|RK Hl<|WS fun _ H1=>rP 2 [] I ?_
  refine RK H1<|dF U (bL fun K=>?_) (bM fun K=>?_)
  ·refine WS fun _ IE=>rP 3 [] I ?_
   refine RK IE<|aB<|LX hQ (false,me,0,none,0,none,0,[],[],[],none,0,[],[],none,0) [] [] I U (by rfl) U U ?_
   exact pR<|HO (ng C j K) K
  refine cJ<|aH<|KK Go<|au<|rS (SX (bw (r:= .int .i64 1) U U U (fG ⟨dc,dc⟩)) U U)<|rP 1 [] I ?_
  refine RK IV<|de fun R89 OL=>WS fun _ IO=>rS (SX (bw (r:= .bool false) U U U fj) U U)<|RK IO<|al fun _ OK=>aM U<|bq<|ah<|ah<|aD<|KK Fj<|al fun _ IR=>?_
  rw [show c0 l r.ay i=c0 l r.ay r.ay.length from by rw [show i=r.ay.length by omega]]
  have A2:(c0 l r.ay r.ay.length).length=l.ag.length:=gO
  rw [show (List.map oC (dh fb l.ag.length))=(List.zipWith eV (c0 l r.ay r.ay.length) fb) from Nw om A2]
  rw [show (bJ AB 274 (bE.cells (bE.mk (mW l kA kC cA cC bA bC) (np r sgA sgC) (ba.mk a ((eF l l.ag.length).length) c) (ba.mk (some ⟨B,0,none⟩) l.ag.length l.ag.length) (ba.mk none 0 0) (ba.mk none 0 0))))=(bJ AB 274 (bE.cells (bE.mk (mW l kA kC cA cC bA bC) (np r sgA sgC) (ba.mk a ((eF l l.ag.length).length) c) (ba.mk (some ⟨B,0,none⟩) ((c0 l r.ay r.ay.length).length) l.ag.length) (ba.mk none 0 0) (ba.mk none 0 0)))) from by rw [A2]]
  have LA:=nx K8 d j
  have OM:(eF l l.ag.length).length=l.ag.length:=eg
  refine au<|rP 1 [] I ?_
  refine g8 10 U U U U (Eh (mW l kA kC cA cC bA bC) (np r sgA sgC) (eF l l.ag.length) (c0 l r.ay r.ay.length) a c fb (some ⟨B,0,none⟩) l.ag.length AB (by exact LA) (by exact eg.symm) (by rw [A2]; omega)) U (fx 9 U U (ki sm) (fx 11 U U (ki (by rw [List.length_zipWith]; omega)) (fx 13 U U px jg))) U (fun LK OB=>?_)
  obtain ⟨G,S,P,R,F,O,N,H⟩:=LK
  refine G1 (X:=[(bJ AB 274 (bE.cells (bE.mk (mW l kA kC cA cC bA bC) (np r sgA sgC) (ba.mk a ((eF l l.ag.length).length) c) (ba.mk (some ⟨B,0,none⟩) ((c0 l r.ay r.ay.length).length) l.ag.length) (ba.mk P G.length R) (ba.mk N F.length H)))),(own P R 278 1 (List.zipWith eV G S)),(bf (aR k8 G S)),(own N H 278 1 (List.zipWith eV F O)),(bf (aR k8 F O))]) 10 U U ?_
  try dsimp only
  obtain ⟨A1,K0,K4,K5⟩:=OB
  dsimp only at A1 K0 K4 K5
  refine RK IR<|al fun _ v=>WS fun _ w=>rP 1 [] I ?_
  refine cX (BD (mW l kA kC cA cC bA bC) (np r sgA sgC) (eF l l.ag.length) (c0 l r.ay r.ay.length) a c fb (some ⟨B,0,none⟩) l.ag.length G F S P R O N H AB (by exact LA) (by (simp; omega)) (by exact eg.symm) (by exact A1) asm) (ae (aa (n:=(eF l l.ag.length).length) 14 U sm)<|ae (aa (n:=(c0 l r.ay r.ay.length).length) 15 U (by rw [List.length_zipWith]; omega))<|ae (bS 17 U r9)<|ae (aa (n:=G.length) 1 U (by rw [List.length_zipWith]; omega))<|ae (bS 2 U r9)<|ae (aa (n:=F.length) 3 U (by rw [List.length_zipWith]; omega))<|ae (bS 4 U r9)<|cY 0 U U<|aC) U fun LQ OG=>?_
  obtain ⟨OI,OJ⟩:=LQ
  try dsimp only
  refine rP 2 [] I ?_
  refine RK w<|cu U (aZ fun W=>?_) (aY fun W=>?_)
  ·refine WK v<|WS fun _ AC=>rP 3 [] I ?_
   refine RK AC<|aB ?_
   refine LX hQ (true,0,AB,a,c,(some ⟨B,0,none⟩),l.ag.length,fb,G,S,P,R,F,O,N,H) [1,15,16,18,2,3,4,5] [] I U (by (show List.all _ _=true; simp only [cond_true,e6,List.all_nil,E0,KQ,Bool.and_true]; rfl)) U U ?_
   exact ⟨fun _=>⟨km C j (by first|rfl|exact K) (fun q=>W (congrArg (fun z:List Int=>(z.length:Int)) q)),A1,K0,K4,K5,dso⟩,Ku⟩
  refine WS fun _ y=>rP 2 [] I ?_
  refine RK y<|aB<|LX hQ (false,8,0,none,0,none,0,[],[],[],none,0,[],[],none,0) [] [] I U (by rfl) U U ?_
  exact pR<|m4 (oM (me:=me) C j (by first|rfl|exact K) (show iv (cq l r)=[] from nV (Int.natCast_eq_zero.1 W)))
 refine WK Di<|al fun _ AA=>aF<|WS fun _ Do=>rP 1 [] I ?_
 obtain ⟨x,hx⟩:=aQ r.ay i om
 have OF:=cG aK.cells hx
 refine rS (IA i U (aS 6 U) JS dc om om)<|rS (r_ i 0 (aK.cells x) U cz (aS 6 U) OF U dc U U)<|AL U DM fun OQ=>a_ 1 U<|fw U tx U<|RK Do<|al fun _ p=>WS fun _ L=>rP 6 [0,1] (mc 2 U (mc 0 U I)) ?_
 refine ck (xs:=[.tmp 95]) (cs:=[(vI x.fP)]) U b0 gI U U U U (by simp [Value.cells]) U U fun Lk=>?_
 refine rS (CL (dQ.eq (gi 0 ((l.ag.length:Int)-1) ([x.fP]) (some ⟨Lk,0,none⟩) 1 (by (simp; done))) bZ) (ae (aP 0 U U (by simp [aW]) U)<|aC) U) ?_
 refine rP 2 [] I ?_
 refine eH (t:=99) U (bL fun NB=>?_) (bM fun NB=>?_)
 ·refine a_ 27 U<|RK L<|aX U<|WS fun _ EB=>rP 2 [] I ?_
  refine RK EB<|aB<|LX hQ (false,51,0,none,0,none,0,[],[],[],none,0,[],[],none,0) [] [] I U (by rfl) U U ?_
  exact pR<|m4 (hP (me:=me) C (rp hx (by unfold kO mT; omega)))
 refine rP 2 [] (mc 1 U I) ?_
 refine ck (xs:=[.tmp 101]) (cs:=[(vI x.Read)]) U b0 gI U U U U (by simp [Value.cells]) U U fun Lo=>?_
 refine rS (CL (dQ.eq (gi 0 86400000 ([x.Read]) (some ⟨Lo,0,none⟩) 1 (by (simp; done))) bZ) (ae (aP 0 U U (by simp [aW]) U)<|aC) U) ?_
 refine rP 3 [] I ?_
 refine eH (t:=106) U (bL fun A3=>?_) (bM fun A3=>?_)
 ·refine a_ 20 U<|RK L<|aX U<|WS fun _ EQ=>rP 2 [] I ?_
  refine RK EQ<|aB<|LX hQ (false,51,0,none,0,none,0,[],[],[],none,0,[],[],none,0) [] [] I U (by rfl) U U ?_
  exact pR<|m4 (hP (me:=me) C (rp hx (by unfold kO mT; omega)))
 refine rP 7 [0,1] (mc 2 U (mc 15 U I)) ?_
 refine eH (t:=113) U (aY fun A4=>?_) (aZ fun A4=>?_)
 ·refine a_ 13 U<|RK L<|aX U<|WS fun _ Ej=>rP 2 [] I ?_
  refine RK Ej<|aB<|LX hQ (false,51,0,none,0,none,0,[],[],[],none,0,[],[],none,0) [] [] I U (by rfl) U U ?_
  exact pR<|m4 (hP (me:=me) C (rp hx (by unfold kO mT; omega)))
 refine rP 6 [0,1] (mc 2 U (mc 15 U I)) ?_
 refine bH (t:=119) U (aZ fun A5=>?_) (aY fun A5=>?_)
 ·refine a_ 7 U<|RK L<|aM U<|WK p<|al fun _ u=>WS fun _ FZ=>hE 2 [0,1] (mc 4 U (mc 2 U I)) U<|rS (CL (EJ l kA kC az cA cC bA bC x hin asm om) (bj [5,6,7,8]) U)<|AL U dK fun OS=>fw U cT U<|RK FZ<|WS fun _ Fd=>rP 5 [] (mc 0 U I) ?_
  refine RK Fd<|cu U (aZ fun D=>?_) (aY fun D=>?_)
  ·refine WK u<|au<|rP 1 [] (mc 3 U I) ?_
   refine ik (vs:=(aK.cells x)) (cs':=(aK.cells x)) (C':=[_,_,_,_,_,_,_,_,_,_,_,_,_,_,_,_,(bJ V 123 (aK.cells x)),_]) 16 U U U tx U U U U U U U<|aG<|aH<|KK AA ?_
   have KM:(aK.cells x)=(aK.cells (lW r.ay (i+1))):=by rw [mK hx]
   rw [KM]
   refine au<|rP 2 [] I ?_
   refine aG ?_
   rw [show (c0 l r.ay i)=(c0 l r.ay (i+1)) from (rO hx D).symm]
   have Kd:(vI (((i+1):Nat):Int))=(vI ((i:Int)+1)):=by exact cI om
   refine bc (T ⟨(i+1),⟨om,n5 A hx (by unfold kO mT; omega)⟩⟩ _ _ _ U os (du 9<|bO U Kd<|ew.nil _) (aJ [4,5,6,7,8,9,10,11,12,13,14,15,16,17]))
  obtain ⟨mb,Z⟩:=aQ (c0 l r.ay i) ((x.fP).toNat) om
  obtain ⟨ga,M⟩:=aQ fb ((x.fP).toNat) om
  refine Ae 17 Z M U U U ?_
  try dsimp only
  refine dR cE 10 kr<|rH 1 U<|dS (SX (bk U U) U U)<|dP 4 [0,1] (mc 16 U (mc 5 U I)) ?_
  have Kn:(List.map oC (dh fb l.ag.length))[(x.fP).toNat]? =some (oC (some ga)):=ou (lZ M)
  refine dS (IA ((x.fP).toNat) U (aa (n:=l.ag.length) 17 U sq) Ax dc om om) ?_
  refine dS (g4 ((x.fP).toNat) 0 (Value.map (some ga)) U cz (aa (n:=(dh fb l.ag.length).length) 17 U sm) Kn U dc U)<|m7 2 [] (mc 2 U I) U<|dJ<|im (kV:=iV) (x:=(i:Int)) (C':=[(fJ iV ga (bo cW (dB mb (i:Int) (dW l x)))),_,_,_,_,_,_,_,_,_,_,_,_,_,_,_,_,_,_]) 0 U U U U lf (dv nO) U (fE _ _ _ _).symm U<|RK u<|au<|rP 1 [] (mc 5 U I) ?_
  refine ik (vs:=(aK.cells x)) (cs':=(aK.cells x)) (C':=[_,_,_,_,_,_,_,_,_,_,_,_,_,_,_,_,_,_,(bJ V 123 (aK.cells x))]) 18 U U U tx U U U U U U U<|aG<|aH<|KK AA ?_
  have J8:(aK.cells x)=(aK.cells (lW r.ay (i+1))):=by rw [mK hx]
  rw [J8]
  refine au<|rP 2 [] I ?_
  refine aG ?_
  refine DV (f:=og) (ms:=(c0 l r.ay i)) (m:=(dB mb (i:Int) (dW l x))) 1 0 (by rw [gO]; omega) M U U U ?_
  rw [tv hx om D Z]
  have J9:(vI (((i+1):Nat):Int))=(vI ((i:Int)+1)):=by exact cI om
  refine bc (T ⟨(i+1),⟨om,n5 A hx (by unfold kO mT; omega)⟩⟩ _ _ _ U os (du 9<|bO U J9<|ew.nil _) (aJ [5,6,7,8,9,10,11,12,13,14,15,16,17,0]))
 refine rP 7 [0,1] (mc 2 U (mc 15 U I)) ?_
 refine RK L<|dF U (aY fun A6=>?_) (aZ fun A6=>?_)
 ·refine WS fun _ Eq=>rP 2 [] I ?_
  refine RK Eq<|aB<|LX hQ (false,51,0,none,0,none,0,[],[],[],none,0,[],[],none,0) [] [] I U (by rfl) U U ?_
  exact pR<|m4 (hP (me:=me) C (rp hx (by unfold kO mT; omega)))
 refine WK p<|al fun _ s=>WS fun _ E9=>hE 2 [0,1] (mc 4 U (mc 2 U I)) U<|rS (CL (EJ l kA kC az cA cC bA bC x hin asm om) (bj [5,6,7,8]) U)<|AL U dK fun OR=>fw U cT U<|RK E9<|WS fun _ FS=>rP 5 [] (mc 0 U I) ?_
 refine RK FS<|cu U (aZ fun D=>?_) (aY fun D=>?_)
 ·refine WK s<|au<|rP 1 [] (mc 3 U I) ?_
  refine ik (vs:=(aK.cells x)) (cs':=(aK.cells x)) (C':=[_,_,_,_,_,_,_,_,_,_,_,_,_,_,_,_,(bJ V 123 (aK.cells x)),_]) 16 U U U tx U U U U U U U<|aG<|aH<|KK AA ?_
  have J6:(aK.cells x)=(aK.cells (lW r.ay (i+1))):=by rw [mK hx]
  rw [J6]
  refine au<|rP 2 [] I ?_
  refine aG ?_
  rw [show (c0 l r.ay i)=(c0 l r.ay (i+1)) from (rO hx D).symm]
  have J7:(vI (((i+1):Nat):Int))=(vI ((i:Int)+1)):=by exact cI om
  refine bc (T ⟨(i+1),⟨om,n5 A hx (by unfold kO mT; omega)⟩⟩ _ _ _ U os (du 9<|bO U J7<|ew.nil _) (aJ [4,5,6,7,8,9,10,11,12,13,14,15,16,17]))
 obtain ⟨mb,Z⟩:=aQ (c0 l r.ay i) ((x.fP).toNat) om
 obtain ⟨ga,M⟩:=aQ fb ((x.fP).toNat) om
 refine Ae 17 Z M U U U ?_
 try dsimp only
 refine dR cE 10 kr<|rH 1 U<|dS (SX (bk U U) U U)<|dP 4 [0,1] (mc 16 U (mc 5 U I)) ?_
 have Ke:(List.map oC (dh fb l.ag.length))[(x.fP).toNat]? =some (oC (some ga)):=ou (lZ M)
 refine dS (IA ((x.fP).toNat) U (aa (n:=l.ag.length) 17 U sq) Ax dc om om) ?_
 refine dS (g4 ((x.fP).toNat) 0 (Value.map (some ga)) U cz (aa (n:=(dh fb l.ag.length).length) 17 U sm) Ke U dc U)<|m7 2 [] (mc 2 U I) U<|dJ<|im (kV:=iV) (x:=(i:Int)) (C':=[(fJ iV ga (bo cW (dB mb (i:Int) (dW l x)))),_,_,_,_,_,_,_,_,_,_,_,_,_,_,_,_,_,_]) 0 U U U U lf (dv nO) U (fE _ _ _ _).symm U<|RK s<|au<|rP 1 [] (mc 5 U I) ?_
 refine ik (vs:=(aK.cells x)) (cs':=(aK.cells x)) (C':=[_,_,_,_,_,_,_,_,_,_,_,_,_,_,_,_,_,_,(bJ V 123 (aK.cells x))]) 18 U U U tx U U U U U U U<|aG<|aH<|KK AA ?_
 have J4:(aK.cells x)=(aK.cells (lW r.ay (i+1))):=by rw [mK hx]
 rw [J4]
 refine au<|rP 2 [] I ?_
 refine aG ?_
 refine DV (f:=og) (ms:=(c0 l r.ay i)) (m:=(dB mb (i:Int) (dW l x))) 1 0 (by rw [gO]; omega) M U U U ?_
 rw [tv hx om D Z]
 have J5:(vI (((i+1):Nat):Int))=(vI ((i:Int)+1)):=by exact cI om
 refine bc (T ⟨(i+1),⟨om,n5 A hx (by unfold kO mT; omega)⟩⟩ _ _ _ U os (du 9<|bO U J5<|ew.nil _) (aJ [5,6,7,8,9,10,11,12,13,14,15,16,17,0]))
end
section
open Go.RowKit
theorem D2 (l:aU) (kA:OA) (kC:Nat) (az:List RA) (cA:OA) (cC:Nat) (bA:OA) (bC:Nat) (r:cK) (sgA:OA) (sgC:Nat) (bq_:Int) (hin:fh l az) (hsl:r.ay.length≤1000000):
 dQ Tryz.prog 204 [(vA (cj.cells (mW l kA kC cA cC bA bC))),(vA (eJ.cells (np r sgA sgC))),(vI bq_)] [(rd kA l.aO.length 9 (l.aO.map ao.cells)),(rd cA l.ak.length 2 (List.zipWith aA.cells l.ak az)),(eR (aR aA.jx l.ak az)),(rd bA l.ag.length 4 (l.ag.map bG.cells)),(rd sgA r.ay.length 2 (r.ay.map aK.cells))] (vT [(vA (ab.cells (dZ l r bq_))),(vI (dY l r bq_))]):=by
 have Jn:=hin.wJ
 have IV:=hin.wI
 have Hl:=hin.pQ
 have IO:=hin.v8
 have JO:=hin.side
 refine bx kr Tryz.func204 U U fun w0 Q hQ hN=>?_
 try dsimp only
 refine WS fun _ A3=>g5 U fun b2=>g5 U fun b3=>qo U U fun b4=>AL U dK fun b5=>a_ 1 U<|RK A3<|WS fun _ p=>rP 2 [0,1] (mc 3 U (mc 2 U I)) ?_
 refine rS (FU U)<|ck (xs:=[.tmp 17]) (cs:=[(Value.func (.func 206) [].toArray [(vP b2),(vP b4)].toArray)]) U Iw LS U U U U (by simp [Value.cells]) U U fun b7=>cX (HL l kA kC az cA cC bA bC r sgA sgC (Value.func (.func 206) [].toArray [(vP b2),(vP b4)].toArray) (eR [(rd kA l.aO.length 9 (l.aO.map ao.cells)),(rd cA l.ak.length 2 (List.zipWith aA.cells l.ak az)),(eR (aR aA.jx l.ak az)),(rd bA l.ag.length 4 (l.ag.map bG.cells)),(bJ b2 31 (cj.cells (mW l kA kC cA cC bA bC))),(bJ b4 3 [(vI bq_)])]) (iF l bq_) b7 (by exact kK (fi:=[]) (ca:=[(vP b2),(vP b4)]) (jP (yb l kA kC az cA cC bA bC b2 bq_ b4 (by first|assumption|omega)) (bj [0,1,2,3,4,5]))) hin hsl) (kp [5,6,7,8,9]<|ae (jO (bj [5,6,7,8,4,2]))<|cY 0 U U<|aC) U fun y8 Cx=>?_
 obtain ⟨C0,Fj,E,H,AB,g,j,m,B,L,J,K,A,G,d,f⟩:=y8
 cases C0
 ·obtain ⟨CY,he⟩:=Cx.2 rfl
  try dsimp only at CY he
  subst CY
  try dsimp only [cond_true,cond_false,List.cons_append,List.nil_append]
  refine a_ 5 U<|RK p<|al fun _ Fn=>WS fun _ B3=>rP 2 [] I ?_
  refine RK B3<|cu U (bM fun Bi=>?_) (bL fun Bi=>?_)
  ·exact absurd Bi he
  refine WS fun _ B7=>rS (SX (bh (xs:=[]) (cs:=(ab.cells (ab.mk 0 0))) U U (bg jt U)) U U)<|a_ 1 U<|vU U cT U<|rP 1 [] I ?_
  refine RK B7<|aB<|pP hQ [0] (mc 1 U I) U ?_
  (have e:=mL (b:=bq_) he; rw [e.1,e.2]<;>rfl)
 obtain ⟨he,D,C,Di,C5,EQ⟩:=Cx.1 rfl
 try dsimp only [cond_true,cond_false,List.cons_append,List.nil_append]
 dsimp only at D C Di C5 EQ
 obtain ⟨C2,A7,EB,If⟩:=jM he
 obtain ⟨Ej,Ck⟩:=kT C2
 have Do:=Ck.head
 unfold iU at Do
 have Eq:=nx Ej Ck A7
 have JK:=A7.time
 have In:=A7.len
 have Ci:(eF l l.ag.length).length=l.ag.length:=eg
 have Cp:(c0 l r.ay r.ay.length).length=l.ag.length:=gO
 have Id:B.length=l.ag.length+1:=by have:=D.len; rw [show (cq l r).n=l.ag.length from eg] at this; exact this
 have IR:A.length=l.ag.length+1:=by have:=C.len; rw [show (cq l r).n=l.ag.length from eg] at this; exact this
 obtain ⟨H1,IE⟩:=zc EB
 obtain ⟨b,A4⟩: ∃ b:Nat,bq_=(b:Int):=⟨bq_.toNat,om⟩
 rw [A4]
 refine a_ 5 U<|RK p<|al fun _ N=>WS fun _ O=>a_ 1 U<|rS (SX (bw (r:= .bool false) U U U lp) U U)<|RK O<|aM U<|WK N<|WS fun _ P=>rS (SX (bh (xs:=[(0,.const (vI 1))]) (cs:=(ab.cells (ab.mk 1 0))) U U (bg jt U)) U U)<|AL U dK fun A8=>fw U cT U<|RK P<|WS fun _ R=>hE 1 [] (mc 0 U I) U<|AL U dK fun A9=>fw U cT U<|RK R<|al fun _ T=>WS fun _ AA=>rP 2 [] (mc 12 U I) ?_
 obtain ⟨mf,Y⟩:=aQ B b om
 obtain ⟨mb,Z⟩:=aQ A (b+1) om
 refine cX (FK E b) (aC) U fun FS GE=>?_
 obtain ⟨AC,AO⟩:=FS
 try dsimp only
 refine RK AA<|aF ?_
 refine ko (L0:=[(3,(vP b2)),(4,(vP b3)),(5,(vP b4)),(6,(vP b5)),(7,(vI 0)),(10,(vP A8)),(11,(vP A9))]) (F:=[(own H AB 3 1 ((eF l l.ag.length).map iC)),(own g j 64 1 (List.zipWith eV (c0 l r.ay r.ay.length) m)),(bf (aR og (c0 l r.ay r.ay.length) m)),(own J K 278 1 (List.zipWith eV B L)),(bf (aR k8 B L)),(own d f 278 1 (List.zipWith eV A G)),(bf (aR k8 A G)),(bJ E 274 (bE.cells (bE.mk (mW l kA kC cA cC bA bC) (np r sgA sgC) (ba.mk H ((eF l l.ag.length).length) AB) (ba.mk g ((c0 l r.ay r.ay.length).length) j) (ba.mk J B.length K) (ba.mk d A.length f)))),(bJ AC 263 [(vP E)]),(bJ AO 3 [(vI (b:Int))])]) (fun k (y:ab)=>(j1 k y)∧(∀ q∈k,q∈mS (cq l r) b mf mb)) (fun k y=>[(bJ A9 40 (ab.cells y)),(bJ A8 40 (ab.cells (ab.mk 1 0))),(bJ b5 40 (ab.cells (ab.mk 0 0))),(bJ b4 3 [(vI (b:Int))]),(bJ b3 43 (eJ.cells (np r sgA sgC))),(bJ b2 31 (cj.cells (mW l kA kC cA cC bA bC))),(rd kA l.aO.length 9 (l.aO.map ao.cells)).ro,(rd cA l.ak.length 2 (List.zipWith aA.cells l.ak az)).ro,(eR (aR aA.jx l.ak az)).ro,(rd bA l.ag.length 4 (l.ag.map bG.cells)).ro,(rd sgA r.ay.length 2 (r.ay.map aK.cells)).ro]) (fun _ (_:Unit)=>False) (fun _ _=>[]) [2,3,13,14,15,16,17,18,19,20,21] [5,6,7,8,9,10,11,4,0,1] lI rfl rfl (A_ (mW l kA kC cA cC bA bC) (np r sgA sgC) (eF l l.ag.length) (c0 l r.ay r.ay.length) H AB m g j B A L J K G d f E b AC AO mf mb (by rw [Ci]; omega) (by exact Eq) (by rw [Cp]; omega) (by exact D) om (by exact C) om (by show r.ay.length≤1000; omega) (by exact Y) (by exact Z)) rfl rfl rfl (by exact ⟨wH,fun q hq=>by cases hq⟩) (by simp only [List.forall_mem_cons,List.not_mem_nil,false_imp_iff,implies_true,and_true]; exact ⟨⟨_,aN (i:=0) rfl,(ki sm)⟩,⟨_,aN (i:=1) rfl,(ki (by rw [List.length_zipWith]; omega))⟩,⟨_,aN (i:=2) rfl,px⟩,⟨_,aN (i:=3) rfl,(ki (by rw [List.length_zipWith]; omega))⟩,⟨_,aN (i:=4) rfl,px⟩,⟨_,aN (i:=5) rfl,(ki (by rw [List.length_zipWith]; omega))⟩,⟨_,aN (i:=6) rfl,px⟩,⟨_,aN (i:=7) rfl,(bI _)⟩,⟨_,aN (i:=8) rfl,(bI _)⟩,⟨_,aN (i:=9) rfl,(bI _)⟩⟩) (by rintro k x k2 ⟨o,_,rfl,_⟩; rfl) rfl (aT rfl) ?_ ?_ (fun _ _ _ h=>h.elim) (fun _ _ h=>h.elim)
 ·rintro k x k2 h lr ra rb S w1 K41 Qr42 JQ hx A5 B9 X E9 FZ
  obtain ⟨q,hq,rfl,rfl⟩:=hx
  obtain ⟨a,c⟩:=A5
  try dsimp only
  refine au<|AL U dK fun GT=>fw U cT U<|aG<|jB (fun _ _ h=>h) (aJ [1,0,2,3,4,5,6,7,8,9,10,11,12])<|bc (B9 _ _ ?_)
  refine aF<|al fun _ s=>WS fun _ CP=>rP 2 [0,1] (mc 2 U (mc 3 U I)) ?_
  refine rS (BI U (LH _ _ h (ab.mk 1 0)))<|RK CP<|cu U (bM fun M=>?_) (bL fun M=>?_)
  ·refine WK s<|au<|rP 1 [] (mc 1 U I) ?_
   refine Io U cT U<|aG<|aH ?_
   exact X q.2 _ _ (by refine ⟨uH a (mD hq) ?_,fun z hz=>?_⟩; (first|exact if_neg M|exact if_pos M); (rcases List.mem_append.1 hz with hz|hz; exact c z hz; (rw [List.mem_singleton.1 hz]; exact hq))) (aJ [0,2,3,4,5,6,7,8,9,10,11,12])
  refine au<|hE 4 [0,1] (mc 1 U (mc 2 U I)) U<|rS (MN U)<|hE 4 [0,1] (mc 1 U (mc 2 U I)) U<|rS (MX U)<|rS (SX (bh (xs:=[(0,.tmp 40),(1,.tmp 45)]) (cs:=(ab.cells (ab.mk (min q.2.Lo h.Lo) (max q.2.Hi h.Hi)))) U U (bg jt U)) U U)<|vU U cT U<|RK s<|au<|rP 1 [] (mc 1 U I) ?_
  refine Io U cT U<|aG<|aH ?_
  exact X (ab.mk (min q.2.Lo h.Lo) (max q.2.Hi h.Hi)) _ _ (by refine ⟨uH a (mD hq) ?_,fun z hz=>?_⟩; (first|exact if_neg M|exact if_pos M); (rcases List.mem_append.1 hz with hz|hz; exact c z hz; (rw [List.mem_singleton.1 hz]; exact hq))) (aJ [0,2,3,4,5,6,7,8,9,10,11,12])
 rintro J3 k h v A6
 obtain ⟨a,c⟩:=A6
 try dsimp only
 refine aH<|KK T<|al fun _ V=>WS fun _ W=>rP 2 [0,1] (mc 11 U (mc 12 U I)) ?_
 refine rS (BI U (r6 _ _ h (ab.mk 1 0)))<|RK W<|cu U (aZ fun A2=>?_) (aY fun A2=>?_)
 ·refine WK V<|WS fun _ u=>hE 1 [] (mc 11 U I) U<|ik (vs:=(ab.cells h)) (cs':=(ab.cells h)) (C':=[_,_,_,_,_,_,_,_,_,_,_,_,_,(bJ b5 40 (ab.cells h)),_,_,_,_,_,_,_,_]) 13 U U U cT U U U U U U U<|rP 1 [] I ?_
  refine RK u<|aB<|hQ _ _ _ (lK 0 U U<|fr (vs:=[(vA (ab.cells h)),(vI 0)]) ⟨⟨_,U,.inl ⟨_,_,cz,mx (vs:=(ab.cells h)) 13 U U,U,U⟩⟩,U,trivial⟩ fun w hs=>yV ?_ hs)
  show (vT [(vA (ab.cells h)),(vI 0)])=(vT [(vA (ab.cells (dZ l r bq_))),(vI (dY l r bq_))])
  clear hs w hQ hN u W V AA T R P O N p A3
  (rw [A4] at he ⊢; have hh:h=kF l r b:=uv (D.min _ _ Y) (C.max _ _ Z) (D.keys _ _ Y) (C.keys _ _ Z) c v a; (have e:=qO he (fun q=>A2 (hh.trans q)); rw [e.1,e.2,hh]<;>rfl))
 refine WS fun _ t=>rS (SX (bh (xs:=[]) (cs:=(ab.cells (ab.mk 0 0))) U U (bg jt U)) U U)<|ik (vs:=(ab.cells (ab.mk 0 0))) (cs':=(ab.cells (ab.mk 0 0))) (C':=[_,_,_,_,_,_,_,_,_,_,_,_,_,(bJ b5 40 (ab.cells (ab.mk 0 0))),_,_,_,_,_,_,_,_]) 13 U U U cT U U U U U U U<|rP 1 [] I ?_
 refine RK t<|aB<|hQ _ _ _ (lK 0 U U<|fr (vs:=[(vA (ab.cells (ab.mk 0 0))),(vI 6)]) ⟨⟨_,U,.inl ⟨_,_,cz,mx (vs:=(ab.cells (ab.mk 0 0))) 13 U U,U,U⟩⟩,U,trivial⟩ fun w hs=>yV ?_ hs)
 show (vT [(vA (ab.cells (ab.mk 0 0))),(vI 6)])=(vT [(vA (ab.cells (dZ l r bq_))),(vI (dY l r bq_))])
 clear hs w hQ hN t W V AA T R P O N p A3
 (rw [A4] at he ⊢; have hh:h=kF l r b:=uv (D.min _ _ Y) (C.max _ _ Z) (D.keys _ _ Y) (C.keys _ _ Z) c v a; (have e:=wc he (hh.symm.trans A2); rw [e.1,e.2]<;>rfl))
theorem KP (l:aU) (kA:OA) (kC:Nat) (az:List RA) (cA:OA) (cC:Nat) (bA:OA) (bC:Nat) (r:cK) (sgA:OA) (sgC:Nat) (hin:fh l az) (hsl:r.ay.length≤1000000):
 dQ Tryz.prog 203 [(vA (cj.cells (mW l kA kC cA cC bA bC))),(vA (eJ.cells (np r sgA sgC)))] [(rd kA l.aO.length 9 (l.aO.map ao.cells)),(rd cA l.ak.length 2 (List.zipWith aA.cells l.ak az)),(eR (aR aA.jx l.ak az)),(rd bA l.ag.length 4 (l.ag.map bG.cells)),(rd sgA r.ay.length 2 (r.ay.map aK.cells))] (vT [(vA (ab.cells (yG l r))),(vI (dY l r l.ct))]):=by
 have N:=hin.wJ
 have J:=hin.wI
 have H:=hin.pQ
 have AA:=hin.v8
 have M:=hin.side
 refine bx kr Tryz.func203 U U fun T Q hQ hN=>?_
 try dsimp only
 refine WS fun _ C=>g5 U fun O=>g5 U fun P=>AL U dK fun R=>a_ 1 U<|RK C<|WS fun _ D=>hE 4 [0,1] (mc 2 U (mc 1 U I)) U<|rS (CL (D2 l kA kC az cA cC bA bC r sgA sgC l.ct hin hsl) (bj [3,4,5,6,7]) U)<|a_ 3 U<|AL U dK fun S=>fw U cT U<|a_ 1 U<|RK D<|al fun _ E=>WS fun _ F=>rP 2 [] I ?_
 refine RK F<|dF U (bL fun A=>?_) (bM fun A=>?_)
 ·refine WS fun _ G=>rS (SX (bh (xs:=[]) (cs:=(ab.cells (ab.mk 0 0))) U U (bg jt U)) U U)<|a_ 1 U<|vU U cT U<|rP 1 [] I ?_
  refine RK G<|aB<|pP hQ [0] (mc 1 U I) U ?_
  (rw [Ki A]<;>rfl)
 refine WK E<|WS fun _ B=>rP 4 [0,1] (mc 0 U (mc 2 U I)) ?_
 have K:=wa A
 have L:=(qF A).time
 refine hE 6 [0,1] (mc 0 U (mc 2 U I)) U<|rS (SX (bh (xs:=[(0,.tmp 24),(1,.tmp 29)]) (cs:=(ab.cells (ab.mk (((dZ l r l.ct).Lo)-r.Start) (((dZ l r l.ct).Hi)-r.Start)))) U U (bg jt U)) U U)<|vU U cT U<|rP 1 [] I ?_
 refine RK B<|aB<|pP hQ [0] (mc 1 U I) U ?_
 (rw [zG A,A]<;>rfl)
end
section
open Go.RowKit
theorem Gt (l:aU) (kA:OA) (kC:Nat) (az:List RA) (cA:OA) (cC:Nat) (bA:OA) (bC:Nat) (d:av) (sgA:OA) (sgC:Nat) (hin:fh l az):
 dQ Tryz.prog 197 [(vA (cj.cells (mW l kA kC cA cC bA bC))),(vA (aV.cells (aV.mk d.Out d.eK d.Time (np d.cH sgA sgC))))] [(rd kA l.aO.length 9 (l.aO.map ao.cells)),(rd cA l.ak.length 2 (List.zipWith aA.cells l.ak az)),(eR (aR aA.jx l.ak az)),(rd bA l.ag.length 4 (l.ag.map bG.cells)),(rd sgA d.cH.ay.length 2 (d.cH.ay.map aK.cells))] (vT [(vA (ab.cells d.Time)),(vB (decide (d.eK=false∧d.Time=cZ∧mm d.cH)))]):=by
 refine bx kr Tryz.func197 U U fun K Q hQ hN=>?_
 try dsimp only
 refine WS fun _ B=>g5 U fun H=>g5 U fun AA=>AL U dK fun J=>rP 1 [] I ?_
 refine RK B<|al fun _ A=>ek cE [15] [] [] [1,2,3,4,5,6,7] [] U U U U U<|eS U (FA 2 U fI U)<|eS U (LP (ab.cells d.Time) 0 U cz U U U)<|eS U (FA 1 U fI U)<|eS U (L1 (vB d.eK) 0 U cz U U)<|eS U (NT U)<|eS U (MV U)<|rE (t:=11) U (fun G=>?_) (fun G=>?_)
 rotate_left 1
 ·rw [Bool.not_eq_false'] at G
  refine eS U (OX U)<|eS U (OX U)<|eS U (OX U)<|eS U (OX U)<|eS U (PK U)<|eS U (MV U)<|eS U (OX U)<|eS U (OX U)<|eS U (PK U)<|eS U (AG U)<|e7 U<|cf U fun T10 C=>fw U cT U<|aG (C _ _ (aJ [1,2,3,4,5,6,7]) ?_)
  refine fH U<|KK A<|aB<|pP hQ [0] (mc 0 U I) U ?_
  clear hQ hN C T10 A B
  refine congrArg (fun z=>Value.tuple #[_,vB z]) ?_
  first|rfl|(simp_all [cZ]; done)
 rw [Bool.not_eq_true'] at G
 refine eS U (FA 2 U fI U)<|eS U (LP (ab.cells d.Time) 0 U cz U U U)<|eS U (SX (bh (xs:=[]) (cs:=(ab.cells (ab.mk 0 0))) U U (bg jt U)) U U)<|eS U (BI U (r6 _ _ d.Time (ab.mk 0 0)))<|eS U (PK U)<|eS U (MV U)<|rE (t:=17) U (fun D=>?_) (fun D=>?_)
 rotate_left 1
 ·replace D:=DF D
  refine eS U (OX U)<|eS U (OX U)<|eS U (PK U)<|eS U (AG U)<|e7 U<|cf U fun T9 F=>fw U cT U<|aG (F _ _ (aJ [1,2,3,4,5,6,7]) ?_)
  refine fH U<|KK A<|aB<|pP hQ [0] (mc 0 U I) U ?_
  clear hQ hN F T9 A B
  refine congrArg (fun z=>Value.tuple #[_,vB z]) ?_
  first|rfl|(simp_all [cZ]; done)
 replace D:=DT D
 refine eS U (LW 0 U cz U U)<|eS U (CL (F6 d sgA sgC) (bj [6]) U)<|eS U (PK U)<|eS U (AG U)<|e7 U<|cf U fun T8 E=>fw U cT U<|aG (E _ _ (aJ [1,2,3,4,5,6,7]) ?_)
 refine fH U<|KK A<|aB<|pP hQ [0] (mc 0 U I) U ?_
 clear hQ hN E T8 A B
 refine congrArg (fun z=>Value.tuple #[_,vB z]) ?_
 first|rfl|(simp_all [cZ]; done)
theorem GL (l:aU) (kA:OA) (kC:Nat) (az:List RA) (cA:OA) (cC:Nat) (bA:OA) (bC:Nat) (d:av) (sgA:OA) (sgC:Nat) (hin:fh l az):
 dQ Tryz.prog 200 [(vA (cj.cells (mW l kA kC cA cC bA bC))),(vA (aV.cells (aV.mk d.Out d.eK d.Time (np d.cH sgA sgC))))] [(rd kA l.aO.length 9 (l.aO.map ao.cells)),(rd cA l.ak.length 2 (List.zipWith aA.cells l.ak az)),(eR (aR aA.jx l.ak az)),(rd bA l.ag.length 4 (l.ag.map bG.cells)),(rd sgA d.cH.ay.length 2 (d.cH.ay.map aK.cells))] (vT [(vA (ab.cells d.Time)),(vB (decide (hO d.Time∧mm d.cH)))]):=by
 refine bx kr Tryz.func200 U U fun AA Q hQ hN=>?_
 try dsimp only
 refine WS fun _ B=>g5 U fun F=>g5 U fun G=>AL U dK fun H=>rP 1 [] I ?_
 refine RK B<|al fun _ A=>ek cE [9] [] [] [1,2,3,4,5,6,7] [] U U U U U<|eS U (FA 2 U fI U)<|eS U (LP (ab.cells d.Time) 0 U cz U U U)<|eS U (FA 2 U fI U)<|eS U (LP (ab.cells d.Time) 0 U cz U U U)<|eS U (CL (AE d.Time) (aC) U)<|eS U (MV U)<|rE (t:=11) U (fun C=>?_) (fun C=>?_)
 rotate_left 1
 ·replace C:=DF C
  refine eS U (OX U)<|eS U (OX U)<|eS U (PK U)<|eS U (AG U)<|e7 U<|cf U fun T8 E=>fw U cT U<|aG (E _ _ (aJ [1,2,3,4,5,6,7]) ?_)
  refine fH U<|KK A<|aB<|pP hQ [0] (mc 0 U I) U ?_
  clear hQ hN E T8 A B
  refine congrArg (fun z=>Value.tuple #[_,vB z]) ?_
  first|rfl|(simp_all; done)
 replace C:=DT C
 refine eS U (LW 0 U cz U U)<|eS U (CL (F6 d sgA sgC) (bj [6]) U)<|eS U (PK U)<|eS U (AG U)<|e7 U<|cf U fun T7 D=>fw U cT U<|aG (D _ _ (aJ [1,2,3,4,5,6,7]) ?_)
 refine fH U<|KK A<|aB<|pP hQ [0] (mc 0 U I) U ?_
 clear hQ hN D T7 A B
 refine congrArg (fun z=>Value.tuple #[_,vB z]) ?_
 first|rfl|(simp_all; done)
theorem Hm (l:aU) (kA:OA) (kC:Nat) (az:List RA) (cA:OA) (cC:Nat) (bA:OA) (bC:Nat) (d:av) (sgA:OA) (sgC:Nat) (hin:fh l az) (hsl:d.cH.ay.length≤1000000):
 dQ Tryz.prog 202 [(vA (cj.cells (mW l kA kC cA cC bA bC))),(vA (aV.cells (aV.mk d.Out d.eK d.Time (np d.cH sgA sgC))))] [(rd kA l.aO.length 9 (l.aO.map ao.cells)),(rd cA l.ak.length 2 (List.zipWith aA.cells l.ak az)),(eR (aR aA.jx l.ak az)),(rd bA l.ag.length 4 (l.ag.map bG.cells)),(rd sgA d.cH.ay.length 2 (d.cH.ay.map aK.cells))] (vT [(vA (ab.cells (yG l d.cH))),(vB (decide (dY l d.cH l.ct=0∧d.Time=cZ)))]):=by
 have K:=hin.wJ
 have AA:=hin.wI
 have G:=hin.pQ
 have H:=hin.v8
 have J:=hin.side
 refine bx kr Tryz.func202 U U fun P Q hQ hN=>?_
 try dsimp only
 refine WS fun _ C=>g5 U fun L=>g5 U fun M=>AL U dK fun N=>a_ 1 U<|RK C<|WS fun _ D=>hE 2 [] (mc 2 U I) U<|rS (LP (eJ.cells (np d.cH sgA sgC)) 1 U cz U U U)<|rS (CL (KP l kA kC az cA cC bA bC d.cH sgA sgC hin hsl) (bj [3,4,5,6,7]) U)<|a_ 3 U<|AL U dK fun O=>fw U cT U<|rP 1 [] I ?_
 refine RK D<|al fun _ A=>ek cE [9] [] [] [0,2,3,4,5,6,7,8] [] U U U U U<|eS U (LW 0 U cz U U)<|eS U (MV U)<|eS U (BI U oy)<|eS U (MV U)<|rE (t:=18) U (fun E=>?_) (fun E=>?_)
 rotate_left 1
 ·replace E:=DF E
  refine eS U (OX U)<|eS U (OX U)<|eS U (OX U)<|eS U (OX U)<|eS U (PK U)<|eS U (AG U)<|e7 U<|cf U fun T10 B=>vU U cT U<|aG (B _ _ (aJ [0,2,3,4,5,6,7,8]) ?_)
  refine fH U<|KK A<|aB<|pP hQ [0] (mc 1 U I) U ?_
  clear hQ hN B T10 A D C
  refine congrArg (fun z=>Value.tuple #[_,vB z]) ?_
  first|rfl|(simp_all [cZ]; done)
 replace E:=DT E
 refine eS U (FA 2 U fI U)<|eS U (LP (ab.cells d.Time) 1 U cz U U U)<|eS U (SX (bh (xs:=[]) (cs:=(ab.cells (ab.mk 0 0))) U U (bg jt U)) U U)<|eS U (BI U (r6 _ _ d.Time (ab.mk 0 0)))<|eS U (PK U)<|eS U (AG U)<|e7 U<|cf U fun T9 F=>vU U cT U<|aG (F _ _ (aJ [0,2,3,4,5,6,7,8]) ?_)
 refine fH U<|KK A<|aB<|pP hQ [0] (mc 1 U I) U ?_
 clear hQ hN F T9 A D C
 refine congrArg (fun z=>Value.tuple #[_,vB z]) ?_
 first|rfl|(simp_all [cZ]; done)
theorem BY (d:av) (sgA:OA) (sgC g1:Nat):
 dQ Tryz.prog 85 [(vA (j6.cells (j6.mk (Value.func (.func 196) [].toArray [].toArray) (Value.func (.func 197) [].toArray [].toArray)))),(vP g1)] [(rd sgA d.cH.ay.length 2 (d.cH.ay.map aK.cells)),(bJ g1 45 (aV.cells (aV.mk d.Out d.eK d.Time (np d.cH sgA sgC))))] (vB d.Out):=by
 refine bx kr Tryz.func85 U U fun D Q hQ hN=>?_
 try dsimp only
 refine WS fun _ A=>g5 U fun C=>a_ 1 U<|RK A<|WS fun _ B=>hE 3 [0,1] (mc 0 U (mr 2 U I)) U<|rS (CL (Mh d sgA sgC) (bj [1]) U)<|rP 1 [] I ?_
 refine RK B<|aB<|Q1 hQ U U U ?_
 rfl
theorem CE (d:av) (sgA:OA) (sgC g1:Nat):
 dQ Tryz.prog 85 [(vA (j6.cells (j6.mk (Value.func (.func 199) [].toArray [].toArray) (Value.func (.func 200) [].toArray [].toArray)))),(vP g1)] [(rd sgA d.cH.ay.length 2 (d.cH.ay.map aK.cells)),(bJ g1 45 (aV.cells (aV.mk d.Out d.eK d.Time (np d.cH sgA sgC))))] (vB d.eK):=by
 refine bx kr Tryz.func85 U U fun D Q hQ hN=>?_
 try dsimp only
 refine WS fun _ A=>g5 U fun C=>a_ 1 U<|RK A<|WS fun _ B=>hE 3 [0,1] (mc 0 U (mr 2 U I)) U<|rS (CL (KG d sgA sgC) (bj [1]) U)<|rP 1 [] I ?_
 refine RK B<|aB<|Q1 hQ U U U ?_
 rfl
theorem B4 (d:av) (sgA:OA) (sgC g1:Nat):
 dQ Tryz.prog 85 [(vA (j6.cells (j6.mk (Value.func (.func 201) [].toArray [].toArray) (Value.func (.func 202) [].toArray [].toArray)))),(vP g1)] [(rd sgA d.cH.ay.length 2 (d.cH.ay.map aK.cells)),(bJ g1 45 (aV.cells (aV.mk d.Out d.eK d.Time (np d.cH sgA sgC))))] (vB true):=by
 refine bx kr Tryz.func85 U U fun D Q hQ hN=>?_
 try dsimp only
 refine WS fun _ A=>g5 U fun C=>a_ 1 U<|RK A<|WS fun _ B=>hE 3 [0,1] (mc 0 U (mr 2 U I)) U<|rS (CL (Lx d sgA sgC) (bj [1]) U)<|rP 1 [] I ?_
 refine RK B<|aB<|Q1 hQ U U U ?_
 rfl
end
section
open Go.RowKit
theorem s4 (d:av) (sgA:OA) (sgC g1:Nat):
 dQ Tryz.prog 84 [(vS dH 3 3),(Value.func (.func 85) [].toArray [(vP g1)].toArray)] [(rd dH 3 2 c4),(rd sgA d.cH.ay.length 2 (d.cH.ay.map aK.cells)),(bJ g1 45 (aV.cells (aV.mk d.Out d.eK d.Time (np d.cH sgA sgC))))] (vI (lL d)):=by
 refine bx kr Tryz.func84 U U fun b Q hQ hN=>?_
 try dsimp only
 refine WS fun _ F=>a_ 1 U<|RK F<|al fun _ AA=>WS fun _ G=>a_ 3 U<|RK G<|aF<|ig 4<|de fun R4 Z=>WS fun _ H=>rS (SX (bw (r:= .bool true) U U U fj) U U)<|RK H<|al fun _ AB=>aX U<|WK AB<|al fun _ J=>aF<|WS fun _ K=>a_ 2 U<|RK K<|WS fun _ L=>rP 3 [] I ?_
 refine rS (IA 0 U (aS 0 U) DI dc U om)<|rS (r_ 0 0 (j6.cells (j6.mk (Value.func (.func 196) [].toArray [].toArray) (Value.func (.func 197) [].toArray [].toArray))) U cz (aS 0 U) (show c4[0]? =some [(Value.func (.func 196) [].toArray [].toArray),(Value.func (.func 197) [].toArray [].toArray)] from U) U dc U U)<|rS (CL (BY d sgA sgC g1) (bj [1,2]) U)<|RK L<|dF U (fun X=>?_) (fun X=>?_)
 ·refine WS fun _ M=>rP 2 [] I ?_
  refine RK M<|aB<|Q1 hQ U U U ?_
  clear hQ hN M L K J AB H G AA F
  refine cI ?_
  simp [lL, *]
 refine cJ<|aH<|KK J<|au<|rS (SX (bw (r:= .int .i64 1) U U U (fG ⟨dc,dc⟩)) U U)<|a_ 1 U<|RK Z<|de fun R12 W=>WS fun _ A=>rS (SX (bw (r:= .bool true) U U U fj) U U)<|RK A<|al fun _ B=>aX U<|WK B<|al fun _ C=>aF<|WS fun _ D=>a_ 2 U<|RK D<|WS fun _ E=>rP 3 [] I ?_
 refine rS (IA 1 U (aS 0 U) DI dc U om)<|rS (r_ 1 0 (j6.cells (j6.mk (Value.func (.func 199) [].toArray [].toArray) (Value.func (.func 200) [].toArray [].toArray))) U cz (aS 0 U) (show c4[1]? =some [(Value.func (.func 199) [].toArray [].toArray),(Value.func (.func 200) [].toArray [].toArray)] from U) U dc U U)<|rS (CL (CE d sgA sgC g1) (bj [1,2]) U)<|RK E<|dF U (fun Y=>?_) (fun Y=>?_)
 ·refine WS fun _ N=>rP 2 [] I ?_
  refine RK N<|aB<|Q1 hQ U U U ?_
  clear hQ hN N E D C B A L K J AB H G AA F
  refine cI ?_
  simp [lL, *]
 refine cJ<|aH<|KK C<|au<|rS (SX (bw (r:= .int .i64 2) U U U (fG ⟨dc,dc⟩)) U U)<|a_ 1 U<|RK W<|de fun R20 a=>WS fun _ O=>rS (SX (bw (r:= .bool true) U U U fj) U U)<|RK O<|al fun _ P=>aX U<|WK P<|al fun _ V=>aF<|WS fun _ R=>a_ 2 U<|RK R<|WS fun _ S=>a_ 3 U<|rS (IA 2 U (aS 0 U) DI dc U om)<|rS (r_ 2 0 (j6.cells (j6.mk (Value.func (.func 201) [].toArray [].toArray) (Value.func (.func 202) [].toArray [].toArray))) U cz (aS 0 U) (show c4[2]? =some [(Value.func (.func 201) [].toArray [].toArray),(Value.func (.func 202) [].toArray [].toArray)] from U) U dc U U)<|rS (CL (B4 d sgA sgC g1) (bj [1,2]) U)<|RK S<|aX U<|WS fun _ T=>rP 2 [] I ?_
 refine RK T<|aB<|Q1 hQ U U U ?_
 clear hQ hN T S R V P O E D C B A L K J AB H G AA F
 refine cI ?_
 simp [lL, *]
end
section
open Go.RowKit
theorem K9 (d:av) (sgA:OA) (sgC g1:Nat) (hk:d.Out=true):
 dQ Tryz.prog 84 [(vS dH 3 3),(Value.func (.func 85) [].toArray [(vP g1)].toArray)] [(rd dH 3 2 c4),(rd sgA d.cH.ay.length 2 (d.cH.ay.map aK.cells)),(bJ g1 45 (aV.cells (aV.mk d.Out d.eK d.Time (np d.cH sgA sgC))))] (vI 0):=by
 have h:=s4 d sgA sgC g1
 have e:lL d=0:=by simp [lL,hk]
 rw [e] at h
 exact h
theorem L_ (d:av) (sgA:OA) (sgC g1:Nat) (hk:d.Out=false∧d.eK=true):
 dQ Tryz.prog 84 [(vS dH 3 3),(Value.func (.func 85) [].toArray [(vP g1)].toArray)] [(rd dH 3 2 c4),(rd sgA d.cH.ay.length 2 (d.cH.ay.map aK.cells)),(bJ g1 45 (aV.cells (aV.mk d.Out d.eK d.Time (np d.cH sgA sgC))))] (vI 1):=by
 have h:=s4 d sgA sgC g1
 have e:lL d=1:=by simp [lL,hk]
 rw [e] at h
 exact h
theorem LO (d:av) (sgA:OA) (sgC g1:Nat) (hk:d.Out=false∧d.eK=false):
 dQ Tryz.prog 84 [(vS dH 3 3),(Value.func (.func 85) [].toArray [(vP g1)].toArray)] [(rd dH 3 2 c4),(rd sgA d.cH.ay.length 2 (d.cH.ay.map aK.cells)),(bJ g1 45 (aV.cells (aV.mk d.Out d.eK d.Time (np d.cH sgA sgC))))] (vI 2):=by
 have h:=s4 d sgA sgC g1
 have e:lL d=2:=by simp [lL,hk]
 rw [e] at h
 exact h
theorem xy (l:aU) (kA:OA) (kC:Nat) (az:List RA) (cA:OA) (cC:Nat) (bA:OA) (bC:Nat) (d:av) (sgA:OA) (sgC:Nat) (hin:fh l az) (hsl:d.cH.ay.length≤1000000) (hk:d.Out=true):
 dQ Tryz.prog 62 [(vA (cj.cells (mW l kA kC cA cC bA bC))),(vA (aV.cells (aV.mk d.Out d.eK d.Time (np d.cH sgA sgC))))] [(rd dH 3 2 c4),(rd kA l.aO.length 9 (l.aO.map ao.cells)),(rd cA l.ak.length 2 (List.zipWith aA.cells l.ak az)),(eR (aR aA.jx l.ak az)),(rd bA l.ag.length 4 (l.ag.map bG.cells)),(rd sgA d.cH.ay.length 2 (d.cH.ay.map aK.cells))] (vT [(vA (ab.cells (cy l d))),(vB (decide (g3 l d)))]):=by
 refine bx kr Tryz.func62 U U fun AA Q hQ hN=>?_
 try dsimp only
 refine WS fun _ A=>g5 U fun G=>g5 U fun D=>AL U dK fun H=>a_ 1 U<|RK A<|WS fun _ B=>rS (SX (yd U U tJ) U U)<|rS (FU U)<|rS (CL (K9 d sgA sgC D hk) (Hy 3 8 1 U U U U U U) U)<|a_ 1 U<|RK B<|al fun _ C=>dR cE 9 kr<|rH 1 U<|dS (SX (zA (k:=0) U U U tJ U om) U U)<|dS (sV ((0*2)+1) U (aS 3 U) (Nat.mul_pos om dc) fI U)<|dS (g4 0 1 (Value.func (.func 197) [].toArray [].toArray) U cz (aS 3 U) (show c4[0]? =some [(Value.func (.func 196) [].toArray [].toArray),(Value.func (.func 197) [].toArray [].toArray)] from U) U dc U)<|m7 2 [0,1] (mc 2 U (mc 1 U I)) U<|dS (CL (Gt l kA kC az cA cC bA bC d sgA sgC hin) (bj [4,5,6,7,8]) U)<|rH 2 U<|dJ<|fw U cT U<|rP 1 [] I ?_
 refine RK C<|aB<|pP hQ [0] (mc 0 U I) U ?_
 have E:=GQ (l:=l) hk
 have F:=xK (l:=l) hk
 simp only [E,F]
theorem xV (l:aU) (kA:OA) (kC:Nat) (az:List RA) (cA:OA) (cC:Nat) (bA:OA) (bC:Nat) (d:av) (sgA:OA) (sgC:Nat) (hin:fh l az) (hsl:d.cH.ay.length≤1000000) (hk:d.Out=false∧d.eK=true):
 dQ Tryz.prog 62 [(vA (cj.cells (mW l kA kC cA cC bA bC))),(vA (aV.cells (aV.mk d.Out d.eK d.Time (np d.cH sgA sgC))))] [(rd dH 3 2 c4),(rd kA l.aO.length 9 (l.aO.map ao.cells)),(rd cA l.ak.length 2 (List.zipWith aA.cells l.ak az)),(eR (aR aA.jx l.ak az)),(rd bA l.ag.length 4 (l.ag.map bG.cells)),(rd sgA d.cH.ay.length 2 (d.cH.ay.map aK.cells))] (vT [(vA (ab.cells (cy l d))),(vB (decide (g3 l d)))]):=by
 refine bx kr Tryz.func62 U U fun AA Q hQ hN=>?_
 try dsimp only
 refine WS fun _ A=>g5 U fun G=>g5 U fun D=>AL U dK fun H=>a_ 1 U<|RK A<|WS fun _ B=>rS (SX (yd U U tJ) U U)<|rS (FU U)<|rS (CL (L_ d sgA sgC D hk) (Hy 3 8 1 U U U U U U) U)<|a_ 1 U<|RK B<|al fun _ C=>dR cE 9 kr<|rH 1 U<|dS (SX (zA (k:=1) U U U tJ U om) U U)<|dS (sV ((1*2)+1) U (aS 3 U) (Nat.mul_pos om dc) fI U)<|dS (g4 1 1 (Value.func (.func 200) [].toArray [].toArray) U cz (aS 3 U) (show c4[1]? =some [(Value.func (.func 199) [].toArray [].toArray),(Value.func (.func 200) [].toArray [].toArray)] from U) U dc U)<|m7 2 [0,1] (mc 2 U (mc 1 U I)) U<|dS (CL (GL l kA kC az cA cC bA bC d sgA sgC hin) (bj [4,5,6,7,8]) U)<|rH 2 U<|dJ<|fw U cT U<|rP 1 [] I ?_
 refine RK C<|aB<|pP hQ [0] (mc 0 U I) U ?_
 have E:=Ap (l:=l) hk
 have F:=xQ (l:=l) hk
 simp only [E,F]
theorem xU (l:aU) (kA:OA) (kC:Nat) (az:List RA) (cA:OA) (cC:Nat) (bA:OA) (bC:Nat) (d:av) (sgA:OA) (sgC:Nat) (hin:fh l az) (hsl:d.cH.ay.length≤1000000) (hk:d.Out=false∧d.eK=false):
 dQ Tryz.prog 62 [(vA (cj.cells (mW l kA kC cA cC bA bC))),(vA (aV.cells (aV.mk d.Out d.eK d.Time (np d.cH sgA sgC))))] [(rd dH 3 2 c4),(rd kA l.aO.length 9 (l.aO.map ao.cells)),(rd cA l.ak.length 2 (List.zipWith aA.cells l.ak az)),(eR (aR aA.jx l.ak az)),(rd bA l.ag.length 4 (l.ag.map bG.cells)),(rd sgA d.cH.ay.length 2 (d.cH.ay.map aK.cells))] (vT [(vA (ab.cells (cy l d))),(vB (decide (g3 l d)))]):=by
 refine bx kr Tryz.func62 U U fun AA Q hQ hN=>?_
 try dsimp only
 refine WS fun _ A=>g5 U fun G=>g5 U fun D=>AL U dK fun H=>a_ 1 U<|RK A<|WS fun _ B=>rS (SX (yd U U tJ) U U)<|rS (FU U)<|rS (CL (LO d sgA sgC D hk) (Hy 3 8 1 U U U U U U) U)<|a_ 1 U<|RK B<|al fun _ C=>dR cE 9 kr<|rH 1 U<|dS (SX (zA (k:=2) U U U tJ U om) U U)<|dS (sV ((2*2)+1) U (aS 3 U) (Nat.mul_pos om dc) fI U)<|dS (g4 2 1 (Value.func (.func 202) [].toArray [].toArray) U cz (aS 3 U) (show c4[2]? =some [(Value.func (.func 201) [].toArray [].toArray),(Value.func (.func 202) [].toArray [].toArray)] from U) U dc U)<|m7 2 [0,1] (mc 2 U (mc 1 U I)) U<|dS (CL (Hm l kA kC az cA cC bA bC d sgA sgC hin hsl) (bj [4,5,6,7,8]) U)<|rH 2 U<|dJ<|fw U cT U<|rP 1 [] I ?_
 refine RK C<|aB<|pP hQ [0] (mc 0 U I) U ?_
 have E:=uQ (l:=l) hk
 have F:=wQ (l:=l) hk
 simp only [E,F]
theorem yQ (l:aU) (kA:OA) (kC:Nat) (az:List RA) (cA:OA) (cC:Nat) (bA:OA) (bC:Nat) (d:av) (sgA:OA) (sgC:Nat) (hin:fh l az) (hsl:d.cH.ay.length≤1000000):
 dQ Tryz.prog 62 [(vA (cj.cells (mW l kA kC cA cC bA bC))),(vA (aV.cells (aV.mk d.Out d.eK d.Time (np d.cH sgA sgC))))] [(rd dH 3 2 c4),(rd kA l.aO.length 9 (l.aO.map ao.cells)),(rd cA l.ak.length 2 (List.zipWith aA.cells l.ak az)),(eR (aR aA.jx l.ak az)),(rd bA l.ag.length 4 (l.ag.map bG.cells)),(rd sgA d.cH.ay.length 2 (d.cH.ay.map aK.cells))] (vT [(vA (ab.cells (cy l d))),(vB (decide (g3 l d)))]):=by
 by_cases ho:d.Out=true
 ·exact xy l kA kC az cA cC bA bC d sgA sgC hin hsl ho
 by_cases hf:d.eK=true
 ·exact xV l kA kC az cA cC bA bC d sgA sgC hin hsl ⟨by simpa using ho,hf⟩
 ·exact xU l kA kC az cA cC bA bC d sgA sgC hin hsl ⟨by simpa using ho,by simpa using hf⟩
end
section
open Go.RowKit
theorem E4 (r:bQ) (kA:OA) (kC:Nat) (az:List RA) (cA:OA) (cC:Nat) (bA:OA) (bC:Nat) (slA:OA) (slC:Nat) (drA:OA) (drC:Nat) (ha:List cb) (heA:OA) (heC:Nat) (tz:List RA) (tA:OA) (tC:Nat) (ms:Value) (gw h:Nat) (gm g1 g2:Nat) (hin:dG r az ha) (htz:tz.length=r.aq.length) (hh:h<r.aq.length) (hok:jQ r (h+1)):
 Bh Tryz.prog 72 [(vI (h:Int)),(vP g1),(vP g2)] [(rd kA r.ai.aO.length 9 (r.ai.aO.map ao.cells)),(rd cA r.ai.ak.length 2 (List.zipWith aA.cells r.ai.ak az)),(eR (aR aA.jx r.ai.ak az)),(rd bA r.ai.ag.length 4 (r.ai.ag.map bG.cells)),(rd slA r.aI.length 1 (r.aI.map iC)),(rd drA r.bu.length 1 (r.bu.map iC)),(rd heA r.aq.length 1 (List.zipWith cm r.aq ha)),(eR (aR ja r.aq ha)),(rd tA ((cr r).length) 1 (List.zipWith BV (cr r) tz)),(eR (aR Gl (cr r) tz)),(bJ gw 91 (eu.cells (eu.mk (nM r kA kC cA cC bA bC slA slC drA drC heA heC) (ba.mk tA ((cr r).length) tC) ms))),(bJ g1 81 [(vP gw)]),(bJ g2 64 [(Value.map (some gm))])] (fJ iV gm (bo cW (c3 r.ai r.aq r.aI.length h 0))) (fun (x:Unit)=>(vT [])) (fun (x:Unit)=>True) (fun (x:Unit)=>(fJ iV gm (bo cW (c3 r.ai r.aq r.aI.length (h+1) 0)))):=by
 have v:=hin.line
 have A6:=hin.g9
 have A7:=hin.has
 have A0:=hin.gT
 have AC:=hin.draw
 have A1:=dy (r:=r)
 refine kv kr Tryz.func72 U U fun w0 Q hQ hN=>?_
 try dsimp only
 refine WS fun _ g=>hE 1 [] (mr 12 U I) U<|rS (SX (bk U U) U U)<|rP 3 [] (mr 11 U I) ?_
 obtain ⟨ht,B⟩:=aQ r.aq h om
 obtain ⟨A,C⟩:=aQ ha h om
 have Z:(List.zipWith cm r.aq ha)[h]? =some (cm ht A):=dE B C
 have s:=hin.mU _ _ _ B C
 have AO:=s.pQ
 have N:=hok h ht om B
 obtain ⟨tr,G⟩:=aQ (cr r) h om
 obtain ⟨tra,F⟩:=aQ tz h om
 have c:(List.zipWith BV (cr r) tz)[h]? =some (BV tr tra):=dE G F
 refine rS (IA h U (aS 9 U) I5 dc om om)<|rS (g4 h 0 (vS tra.1 tr.length tra.2) U cz (aS 9 U) c U dc U) ?_
 have AB:=uB B G
 have A3:tr.length=r.aI.length:=by rw [AB,List.length_map]; exact N.1
 have A2:=N.1
 refine rP 2 [] I ?_
 refine RK g<|aF ?_
 have E:(0≤r.aI.length):=by exact Nat.zero_le _
 refine bX (ι:={z:Nat // (z≤r.aI.length)}) [0,1,2,14,15] [1,2,3,4,5,6,7,8,9,10,11,12,13] U U (fun z=>[(16,(vI (z.1:Int)))]) (fun z=>[(fJ iV gm (bo cW (c3 r.ai r.aq r.aI.length h z.1)))]) (fun _=>rfl) (fun _=>rfl) (fun z=>r.aI.length-z.1) ⟨0,E⟩ (aT U) (aJ [1,2,3,4,5,6,7,8,9,10,11,12,13,0]) ?_
 clear E
 rintro ⟨i,u⟩ J2 K
 try dsimp only
 have a:i<r.aI.length→(c3 r.ai r.aq r.aI.length h i).lookup (i:Int)=eo r.ai r.aq i h:=Dw
 refine WS fun _ k=>rP 1 [] I ?_
 refine RK k<|al fun _ m=>cu U (aZ fun h5=>?_) (aY fun h5=>?_)
 ·refine bq<|ah<|ah<|aD ?_
  rw [show (c3 r.ai r.aq r.aI.length h i)=(c3 r.ai r.aq r.aI.length (h+1) 0) from by rw [show i=r.aI.length by omega]; exact GR]
  refine LM hN () 13 [] I U U U U ?_
  trivial
 refine WK m<|al fun _ L=>aF<|WS fun _ n=>rP 1 [] I ?_
 obtain ⟨x,hx⟩:=aQ tr i om
 have y:=cG ab.cells hx
 refine rS (IA i U (show jf _ (rd tra.1 tr.length 2 (tr.map ab.cells)).holds from (eh 9 U (bY G F (by simp [Gl])))) jZ dc om om)<|rS (r_ i 0 (ab.cells x) U cz (show jf _ (rd tra.1 tr.length 2 (tr.map ab.cells)).holds from (eh 9 U (bY G F (by simp [Gl])))) y U dc U U)<|AL U dK fun b8=>a_ 1 U<|fw U cT U<|RK n<|WS fun _ o=>hE 2 [] (mr 13 U I) U<|rS (SX (iQ (kV:=iV) (x:=(i:Int)) (l:=(c3 r.ai r.aq r.aI.length h i)) (f:=cW) (z:=(ab.mk 0 0)) U U U lf (dv nO) sx (by exact aS 14 U)) U U)<|a_ 3 U<|AL U dK fun A4=>fw U cT U<|a_ 1 U<|RK o<|al fun _ P=>WS fun _ H=>hE 1 [] (mr 13 U I) U<|rS (SX (bk U U) U U)<|hE 4 [] (mr 12 U I) U<|rS (IA h U (aS 8 U) q9 dc om om)<|rS (g4 h 0 (vS A.1.1 ht.length A.1.2) U cz (aS 8 U) Z U dc U)<|rP 1 [] I ?_
 obtain ⟨d,hd⟩:=aQ ht i om
 obtain ⟨da,p⟩:=aQ A.2 i om
 have q:(List.zipWith av.cells ht A.2)[i]? =some (av.cells d da):=dE hd p
 refine rS (IA i U (show jf _ (rd A.1.1 ht.length 7 (List.zipWith av.cells ht A.2)).holds from (eh 9 U (bY B C bU))) td dc om om)<|rS (sV (i*7) U (show jf _ (rd A.1.1 ht.length 7 (List.zipWith av.cells ht A.2)).holds from (eh 9 U (bY B C bU))) (Nat.mul_pos om dc) fI U)<|rS (g4 i 0 (vB d.Out) U cz (show jf _ (rd A.1.1 ht.length 7 (List.zipWith av.cells ht A.2)).holds from (eh 9 U (bY B C bU))) q U dc U)<|rP 1 [] I ?_
 refine eH (t:=39) U (fun J=>?_) (fun J=>?_)
 ·refine a_ 3 U<|RK H<|aX U<|WS fun _ R=>rP 2 [] (mr 14 U I) ?_
  have T:(bR (c3 r.ai r.aq r.aI.length h i) (i:Int))=(c3 r.ai r.aq r.aI.length h (i+1)):=by exact Aq (by exact Bw B hd J)
  refine mz (kV:=iV) (x:=(i:Int)) (C':=[_,_,_,_,_,_,_,_,_,_,_,_,_,_,_,(fJ iV gm (bo cW (c3 r.ai r.aq r.aI.length h (i+1))))]) 15 U U U U lf (dv nO) U ((jI _ _ _).symm.trans (congrArg _ T)) U<|RK R<|bq<|ah<|aD<|KK L<|au<|rP 2 [] I ?_
  refine aG ?_
  have AA:(vI (((i+1):Nat):Int))=(vI ((i:Int)+1)):=by exact cI om
  refine bc (K ⟨(i+1),(by first|omega|(simp only []; omega))⟩ _ _ _ U os (du 5<|bO U AA<|ew.nil _) (aJ [2,3,4,5,6,7,8,9,10,11,12,13,14,15]))
 refine rP 3 [] I ?_
 refine RK H<|dF U (fun D=>?_) (fun D=>?_)
 ·rw [Bool.not_eq_true'] at D
  refine WS fun _ S=>rP 2 [] (mr 14 U I) ?_
  have V:(bR (c3 r.ai r.aq r.aI.length h i) (i:Int))=(c3 r.ai r.aq r.aI.length h (i+1)):=by exact Aq (by exact yR ((a om).symm.trans (Option.not_isSome_iff_eq_none.1 (by rw [D]; decide))))
  refine mz (kV:=iV) (x:=(i:Int)) (C':=[_,_,_,_,_,_,_,_,_,_,_,_,_,_,_,(fJ iV gm (bo cW (c3 r.ai r.aq r.aI.length h (i+1))))]) 15 U U U U lf (dv nO) U ((jI _ _ _).symm.trans (congrArg _ V)) U<|RK S<|bq<|ah<|aD<|KK L<|au<|rP 2 [] I ?_
  refine aG ?_
  have W:(vI (((i+1):Nat):Int))=(vI ((i:Int)+1)):=by exact cI om
  refine bc (K ⟨(i+1),(by first|omega|(simp only []; omega))⟩ _ _ _ U os (du 5<|bO U W<|ew.nil _) (aJ [2,3,4,5,6,7,8,9,10,11,12,13,14,15]))
 rw [Bool.not_eq_false'] at D
 refine WK P<|au ?_
 obtain ⟨O,b⟩:=Option.isSome_iff_exists.1 D
 have M:eo r.ai r.aq i h=some O:=(a om).symm.trans b
 have e:=Ew AB hx hd
 have A8:=uU (fun j x hj hx=>hok j x om hx) om M
 have w:=zT (N.2 d (aN hd))
 rw [← e] at w
 rw [show ((List.lookup (i:Int) (c3 r.ai r.aq r.aI.length h i)).getD (ab.mk 0 0))=O from by rw [b]; rfl]
 refine hE 6 [0,1,2] (mr 14 U (mc 0 U (mc 1 U I))) U<|rS (BI U (Aw om om om))<|hE 5 [0,1] (mc 0 U (mc 1 U I)) U<|rS (BI U (Aw om om om))<|rP 1 [] I ?_
 refine rS (SX (bh (xs:=[(0,.tmp 52),(1,.tmp 58)]) (cs:=(ab.cells (ab.mk (O.Lo+(x.Lo/10)) (O.Hi+(x.Hi/10))))) U U (bg jt U)) U U) ?_
 have X:(dB (c3 r.ai r.aq r.aI.length h i) (i:Int) (ab.mk (O.Lo+(x.Lo/10)) (O.Hi+(x.Hi/10))))=(c3 r.ai r.aq r.aI.length h (i+1)):=by exact HD om (by rw [M]; rfl) (by rw [e]; exact zz B hd (by rw [J]; decide) M)
 refine im (kV:=iV) (x:=(i:Int)) (C':=[_,_,_,_,_,_,_,_,_,_,_,_,_,_,_,(fJ iV gm (bo cW (c3 r.ai r.aq r.aI.length h (i+1))))]) 15 U U U U lf (dv nO) U ((fE _ _ _ _).symm.trans (congrArg _ X)) U<|aG<|aH<|KK L<|au<|rP 2 [] I ?_
 refine aG ?_
 have Y:(vI (((i+1):Nat):Int))=(vI ((i:Int)+1)):=by exact cI om
 refine bc (K ⟨(i+1),(by first|omega|(simp only []; omega))⟩ _ _ _ U os (du 5<|bO U Y<|ew.nil _) (aJ [2,3,4,5,6,7,8,9,10,11,12,13,14,15]))
theorem IS (r:bQ) (kA:OA) (kC:Nat) (az:List RA) (cA:OA) (cC:Nat) (bA:OA) (bC:Nat) (slA:OA) (slC:Nat) (drA:OA) (drC:Nat) (ha:List cb) (heA:OA) (heC:Nat) (tz:List RA) (tA:OA) (tC:Nat) (ms:Value) (gw n:Nat) (hin:dG r az ha) (htz:tz.length=r.aq.length) (hn:n≤r.aq.length) (hok:jQ r n):
 kd Tryz.prog 46 [(vP gw),(vI (n:Int))] [(rd kA r.ai.aO.length 9 (r.ai.aO.map ao.cells)),(rd cA r.ai.ak.length 2 (List.zipWith aA.cells r.ai.ak az)),(eR (aR aA.jx r.ai.ak az)),(rd bA r.ai.ag.length 4 (r.ai.ag.map bG.cells)),(rd slA r.aI.length 1 (r.aI.map iC)),(rd drA r.bu.length 1 (r.bu.map iC)),(rd heA r.aq.length 1 (List.zipWith cm r.aq ha)),(eR (aR ja r.aq ha)),(rd tA ((cr r).length) 1 (List.zipWith BV (cr r) tz)),(eR (aR Gl (cr r) tz)),(bJ gw 91 (eu.cells (eu.mk (nM r kA kC cA cC bA bC slA slC drA drC heA heC) (ba.mk tA ((cr r).length) tC) ms)))] (fun (x:Nat)=>(Value.map (some x))) (fun (x:Nat)=>True) (fun (x:Nat)=>[(fJ iV x (bo cW (dn r n)))]):=by
 have c:=hin.line
 have m:=hin.g9
 have o:=hin.has
 have e:=hin.gT
 have d:=hin.draw
 have f:=dy (r:=r)
 refine cS kr Tryz.func46 U U fun q Q hQ hN=>?_
 try dsimp only
 refine WS fun _ V=>qo U U fun k=>rP 1 [] I ?_
 refine RK V<|WS fun _ W=>lY (kV:=iV) U U fun B=>?_
 try dsimp only
 refine AL U L9 fun l=>CD U Gp U U<|RK W<|al fun _ X=>WS fun _ Y=>hE 1 [] (mc 2 U I) U<|rS (SX (bk U U) U U)<|rP 5 [] (mr 13 U I) ?_
 refine RK Y<|aF ?_
 skip
 have A:(0≤r.aI.length):=by exact Nat.zero_le _
 refine bX (ι:={z:Nat // (z≤r.aI.length)}) [1,2,5,15] [0,2,3,4,5,6,7,8,9,10,11,12,13] U U (fun z=>[(16,(vI (z.1:Int)))]) (fun z=>[(fJ iV B (bo cW (c3 r.ai r.aq z.1 0 0)))]) (fun _=>rfl) (fun _=>rfl) (fun z=>r.aI.length-z.1) ⟨0,A⟩ (aT U) (aJ [0,2,3,4,5,6,7,8,9,10,11,12,13,1]) ?_
 clear A
 rintro ⟨i,a⟩ J8 AA
 try dsimp only
 refine WS fun _ Z=>rP 1 [] I ?_
 refine RK Z<|al fun _ D=>dF U (aY fun S=>?_) (aZ fun S=>?_)
 ·refine WK D<|al fun _ E=>aF<|WS fun _ F=>a_ 2 U<|RK F<|au<|rP 2 [] (mc 0 U I) ?_
  refine rS (SX (bh (xs:=[]) (cs:=(ab.cells (ab.mk 0 0))) U U (bg jt U)) U U) ?_
  have O:(dB (c3 r.ai r.aq i 0 0) (i:Int) (ab.mk 0 0))=(c3 r.ai r.aq (i+1) 0 0):=by exact HQ
  refine im (kV:=iV) (x:=(i:Int)) (C':=[_,_,_,_,_,_,_,_,_,_,_,_,_,(fJ iV B (bo cW (c3 r.ai r.aq (i+1) 0 0)))]) 13 U U U U lf (dv nO) U ((fE _ _ _ _).symm.trans (congrArg _ O)) U<|aG<|aH<|KK E<|au<|rP 2 [] I ?_
  refine aG ?_
  have P:(vI (((i+1):Nat):Int))=(vI ((i:Int)+1)):=by exact cI om
  refine bc (AA ⟨(i+1),(by first|omega|(simp only []; omega))⟩ _ _ _ U os (du 4<|bO U P<|ew.nil _) (aJ [0,1,2,3,4,5,6,7,8,9,10,11,12,13]))
 refine bq<|ah<|ah<|aD<|KK X<|WS fun _ G=>rS (FU U)<|a_ 1 U<|RK G<|al fun _ H=>WS fun _ AB=>rP 2 [] I ?_
 refine RK AB<|aF ?_
 rw [show (c3 r.ai r.aq i 0 0)=(c3 r.ai r.aq r.aI.length 0 0) from by rw [show i=r.aI.length by omega]]
 have A:(0≤n):=by exact Nat.zero_le _
 refine bX (ι:={z:Nat // (z≤n)}) [2,5,7,24] [0,1,2,3,4,5,6,7,8,9,10,11,12] U U (fun z=>[(25,(vI (z.1:Int)))]) (fun z=>[(fJ iV B (bo cW (c3 r.ai r.aq r.aI.length z.1 0)))]) (fun _=>rfl) (fun _=>rfl) (fun z=>n-z.1) ⟨0,A⟩ (aT U) (aJ [0,1,2,3,4,5,6,7,8,9,10,11,12,13]) ?_
 clear A
 rintro ⟨h,b⟩ J19 C
 try dsimp only
 refine WS fun _ J=>rP 1 [] I ?_
 refine RK J<|al fun _ K=>cu U (aZ fun T=>?_) (aY fun T=>?_)
 ·refine bq<|ah<|ah<|aD<|KK H<|al fun _ N=>?_
  rw [show (c3 r.ai r.aq r.aI.length h 0)=(dn r n) from by rw [show h=n by omega]; exact Ht]
  refine au<|rP 2 [] (mc 0 U I) ?_
  refine RK N<|aB<|LX hQ B [13] [] I U U U U ?_
  trivial
 refine WK K<|al fun _ L=>aF<|WS fun _ M=>a_ 2 U<|RK M<|au<|rP 2 [] I ?_
 refine g8 13 U U U U (E4 r kA kC az cA cC bA bC slA slC drA drC ha heA heC tz tA tC ms gw h B k l hin htz om (by exact fun j x hj hx=>hok j x om hx)) U (fx 2 U U (dT (bI _)) (fx 3 U U (dT (bI _)) (fx 4 U U (dT (bI _)) (fx 5 U U (dT (bI _)) (fx 6 U U (dT (bI _)) (fx 7 U U (dT (bI _)) (fx 8 U U (dT (bI _)) (fx 9 U U (dT (bI _)) (fx 10 U U (dT (bI _)) (fx 11 U U (dT (bI _)) (fx 12 U U (dT (bI _)) (fx 1 U U (bI _) (fx 0 U U (bI _) jg))))))))))))) U (fun p g=>?_)
 try dsimp only
 refine aG<|aH<|KK L<|au<|rP 2 [] I ?_
 refine aG ?_
 have R:(vI (((h+1):Nat):Int))=(vI ((h:Int)+1)):=by exact cI om
 refine bc (C ⟨(h+1),(by first|omega|(simp only []; omega))⟩ _ _ _ U os (du 4<|bO U R<|ew.nil _) (aJ [0,1,2,3,4,5,6,7,8,9,10,11,12,13]))
end
section
open Go.RowKit
theorem ly (r:bQ) (kA:OA) (kC:Nat) (az:List RA) (cA:OA) (cC:Nat) (bA:OA) (bC:Nat) (slA:OA) (slC:Nat) (drA:OA) (drC:Nat) (ha:List cb) (heA:OA) (heC:Nat) (hin:dG r az ha):
 kd Tryz.prog 36 [(vA (bV.cells (nM r kA kC cA cC bA bC slA slC drA drC heA heC)))] [(rd dH 3 2 c4),(rd kA r.ai.aO.length 9 (r.ai.aO.map ao.cells)),(rd cA r.ai.ak.length 2 (List.zipWith aA.cells r.ai.ak az)),(eR (aR aA.jx r.ai.ak az)),(rd bA r.ai.ag.length 4 (r.ai.ag.map bG.cells)),(rd slA r.aI.length 1 (r.aI.map iC)),(rd drA r.bu.length 1 (r.bu.map iC)),(rd heA r.aq.length 1 (List.zipWith cm r.aq ha)),(eR (aR ja r.aq ha))] (fun (x:Bool×Int×Nat×Nat×(OA)×Nat×(List RA))=>bif x.1 then (vT [(Value.pointer (some ⟨x.2.2.1,0,none⟩)),(vI 0)]) else (vT [(Value.pointer none),(vI x.2.1)])) (fun (x:Bool×Int×Nat×Nat×(OA)×Nat×(List RA))=>(x.1=true→(cc r=0∧x.2.2.2.2.2.2.length=r.aq.length))∧(x.1=false→(x.2.1=cc r∧ ¬ cc r=0))) (fun (x:Bool×Int×Nat×Nat×(OA)×Nat×(List RA))=>bif x.1 then [(bJ x.2.2.1 91 (eu.cells (eu.mk (nM r kA kC cA cC bA bC slA slC drA drC heA heC) (ba.mk x.2.2.2.2.1 ((cr r).length) x.2.2.2.2.2.1) (Value.map (some x.2.2.2.1))))),(own x.2.2.2.2.1 x.2.2.2.2.2.1 82 1 (List.zipWith BV (cr r) x.2.2.2.2.2.2)),(bf (aR CR (cr r) x.2.2.2.2.2.2)),(fJ iV x.2.2.2.1 (bo cW (ax r)))] else []):=by
 have J9:=hin.line
 have L2:=hin.g9
 have ML:=hin.has
 have LE:=hin.gT
 have K8:=hin.draw
 have FS:=dy (r:=r)
 refine cS kr Tryz.func36 U U fun w0 Q hQ hN=>?_
 try dsimp only
 refine WS fun _ JO=>g5 U fun b2=>a_ 2 U<|RK JO<|al fun _ JQ=>WS fun _ Jn=>a_ 1 U<|rS (LP (cj.cells (mW r.ai kA kC cA cC bA bC)) 0 U cz U U U)<|rS (CL (xr r.ai kA kC az cA cC bA bC asm) (bj [2,3,4,5]) U)<|a_ 1 U<|RK Jn<|WS fun _ J2=>rP 2 [] I ?_
 refine RK J2<|dF U (bL fun B=>?_) (bM fun B=>?_)
 ·refine WS fun _ J3=>rP 3 [] I ?_
  refine RK J3<|aB<|LX hQ (false,(dN r.ai),0,0,none,0,[]) [] [] I U (by rfl) U U ?_
  exact pR<|HO (tm B) B
 refine WK JQ<|WS fun _ J4=>hE 4 [] (mc 0 U I) U<|RK J4<|WS fun _ J5=>rP 2 [] (mc 0 U I) ?_
 refine cX (sW drA r.bu.length drC) (aC) U fun GE LK=>?_
 try dsimp only
 refine cX (rT r.bu drA drC GE asm) (bj [8,0]) U fun K5 LQ=>?_
 obtain ⟨LT,L0⟩:=K5
 try dsimp only
 refine a_ 1 U<|RK J5<|al fun _ e=>WS fun _ H=>rP 1 [] I ?_
 refine ck (xs:=[.tmp 29]) (cs:=[(vI (r.aI.length:Int))]) U b0 gI U U U U (by simp [Value.cells]) U U fun GT=>?_
 refine rS (CL (dQ.eq (il 1 5 ([(r.aI.length:Int)]) (some ⟨GT,0,none⟩) 1 (by (simp; done))) bZ) (ae (aP 0 U U (by simp [aW]) U)<|aC) U) ?_
 refine rP 2 [] I ?_
 refine eH (t:=33) U (bL fun H1=>?_) (bM fun H1=>?_)
 ·refine a_ 26 U<|RK H<|aX U<|WS fun _ f=>rP 2 [] I ?_
  refine RK f<|aB<|LX hQ (false,60,0,0,none,0,[]) [] [] I U (by rfl) U U ?_
  exact pR<|m4 (iI B (fun q:eQ r=>by have q1:=q.num; have q2:=q.zI; have q3:=q.nh; have q4:=q.Fj; omega))
 refine rP 6 [] I ?_
 refine eH (t:=39) U (bL fun IE=>?_) (bM fun IE=>?_)
 ·refine a_ 20 U<|RK H<|aX U<|WS fun _ g=>rP 2 [] I ?_
  refine RK g<|aB<|LX hQ (false,60,0,0,none,0,[]) [] [] I U (by rfl) U U ?_
  exact pR<|m4 (iI B (fun q:eQ r=>by have q1:=q.num; have q2:=q.zI; have q3:=q.nh; have q4:=q.Fj; omega))
 refine rP 2 [] (mc 3 U I) ?_
 refine ck (xs:=[.tmp 41]) (cs:=[(vI r.gf)]) U b0 gI U U U U (by simp [Value.cells]) U U fun Go=>?_
 refine rS (CL (dQ.eq (il 0 5 ([r.gf]) (some ⟨Go,0,none⟩) 1 (by (simp; done))) bZ) (ae (aP 0 U U (by simp [aW]) U)<|aC) U) ?_
 refine rP 3 [] I ?_
 refine eH (t:=46) U (bL fun IO=>?_) (bM fun IO=>?_)
 ·refine a_ 13 U<|RK H<|aX U<|WS fun _ k=>rP 2 [] I ?_
  refine RK k<|aB<|LX hQ (false,60,0,0,none,0,[]) [] [] I U (by rfl) U U ?_
  exact pR<|m4 (iI B (fun q:eQ r=>by have q1:=q.num; have q2:=q.zI; have q3:=q.nh; have q4:=q.Fj; omega))
 refine rP 3 [] (mc 4 U I) ?_
 refine ck (xs:=[.tmp 49]) (cs:=[(vI (r.aq.length:Int))]) U b0 gI U U U U (by simp [Value.cells]) U U fun Hi=>?_
 refine rS (CL (dQ.eq (il 1 3 ([(r.aq.length:Int)]) (some ⟨Hi,0,none⟩) 1 (by (simp; done))) bZ) (ae (aP 0 U U (by simp [aW]) U)<|aC) U) ?_
 refine rP 3 [] I ?_
 refine eH (t:=54) U (bL fun IR=>?_) (bM fun IR=>?_)
 ·refine a_ 5 U<|RK H<|aX U<|WS fun _ l=>rP 2 [] I ?_
  refine RK l<|aB<|LX hQ (false,60,0,0,none,0,[]) [] [] I U (by rfl) U U ?_
  exact pR<|m4 (iI B (fun q:eQ r=>by have q1:=q.num; have q2:=q.zI; have q3:=q.nh; have q4:=q.Fj; omega))
 refine hE 2 [] (mc 5 U I) U<|rS (CL (il 0 9999 r.aI slA slC asm) (bj [11]) U)<|rP 2 [] I ?_
 refine RK H<|dF U (fun N=>?_) (fun N=>?_)
 ·rw [Bool.not_eq_true'] at N
  refine WS fun _ m=>rP 2 [] I ?_
  refine RK m<|aB<|LX hQ (false,60,0,0,none,0,[]) [] [] I U (by rfl) U U ?_
  exact pR<|m4 (iI B (fun q:eQ r=>by exact absurd (q.ins.symm.trans N) dc))
 rw [Bool.not_eq_false'] at N
 refine WK e<|al fun _ o=>WS fun _ p=>?_
 have M2:(cp r.bu).length=r.aI.length:=by rw [e5]; omega
 refine rP 2 [] I ?_
 refine RK p<|aF ?_
 have A:(0≤r.aI.length)∧(oa r 0):=by exact ⟨Nat.zero_le _,zD⟩
 refine bX (ι:={z:Nat // (z≤r.aI.length)∧(oa r z)}) [1,5,6,60] [3,5,6,7,8,9,10,11,12,13,14] U U (fun z=>[(61,(vI (z.1:Int)))]) (fun z=>[]) (fun _=>rfl) (fun _=>rfl) (fun z=>r.aI.length-z.1) ⟨0,A⟩ (aT U) (aJ [3,5,6,7,8,9,10,11,12,13,14]) ?_
 clear A
 rintro ⟨i,⟨J8,J⟩⟩ J28 V
 try dsimp only
 refine WS fun _ s=>rP 1 [] I ?_
 refine RK s<|al fun _ w=>dF U (aY fun Id=>?_) (aZ fun Id=>?_)
 ·refine WK w<|al fun _ W=>aF<|WS fun _ AC=>a_ 2 U<|RK AC<|al fun _ O=>dR cE 24 kr<|dP 2 [] I ?_
  obtain ⟨x,hx⟩:=aQ (cp r.bu) i om
  have KM:=cG iC hx
  refine dS (IA i U (aa (n:=r.bu.length) 0 U sq) b0 dc om om) ?_
  refine dS (g4 i 0 (vI x) U cz (aa (n:=(cp r.bu).length) 0 U sm) KM U dc U)<|dP 3 [] I ?_
  refine vn (t:=70) U (bL fun S=>?_) (bM fun S=>?_)
  ·refine rH 17 U<|dJ<|RK O<|aX U<|WS fun _ AO=>rP 2 [] I ?_
   refine RK AO<|aB<|LX hQ (false,60,0,0,none,0,[]) [] [] I U (by rfl) U U ?_
   exact pR<|m4 (iI B (fun q:eQ r=>by exact absurd (q.drawn hx) S))
  refine dP 3 [] I ?_
  refine j8 (t:=73) U (aZ fun If=>?_) (aY fun If=>?_)
  ·refine rH 14 U<|dJ<|RK O<|aM U<|cJ<|aH<|KK W<|au<|rP 2 [] I ?_
   refine aG ?_
   have Do:(vI (((i+1):Nat):Int))=(vI ((i:Int)+1)):=by exact cI om
   refine bc (V ⟨(i+1),⟨om,sQ J hx S (fun u v hu hv hw=>by omega)⟩⟩ _ _ _ U os (du 4<|bO U Do<|ew.nil _) (aJ [0,1,2,3,4,5,6,7,8,9,10]))
  refine dP 3 [] (mc 1 U I) ?_
  obtain ⟨y,hy⟩:=aQ r.aI i om
  have Kd:=cG iC hy
  refine dS (IA i U (aS 7 U) b0 dc om om)<|dS (g4 i 0 (vI y) U cz (aS 7 U) Kd U dc U)<|dP 4 [] (mc 1 U I) ?_
  obtain ⟨z,hz⟩:=aQ r.aI (i-1) om
  have Ke:=cG iC hz
  refine dS (IA (i-1) U (aS 7 U) b0 dc om om)<|dS (g4 (i-1) 0 (vI z) U cz (aS 7 U) Ke U dc U)<|dP 3 [] I ?_
  refine dJ<|RK O<|cu U (aZ fun In=>?_) (aY fun In=>?_)
  ·refine cJ<|aH<|KK W<|au<|rP 2 [] I ?_
   refine aG ?_
   have Di:(vI (((i+1):Nat):Int))=(vI ((i:Int)+1)):=by exact cI om
   refine bc (V ⟨(i+1),⟨om,sQ J hx S (fun u v hu hv hw=>by (rw [hy] at hu; cases hu; rw [hz] at hw; cases hw; omega))⟩⟩ _ _ _ rfl os (du 4<|bO rfl Di<|ew.nil _) (aJ [0,1,2,3,4,5,6,7,8,9,10]))
  refine WS fun _ A0=>rP 2 [] I ?_
  refine RK A0<|aB<|LX hQ (false,60,0,0,none,0,[]) [] [] I U (by rfl) U U ?_
  exact pR<|m4 (iI B (fun q:eQ r=>by have q1:=(q.ids i y hy).2 z om hz; omega))
 refine bq<|ah<|ah<|aD<|KK o<|WS fun _ A1=>hE 1 [] (mc 1 U I) U<|rS (SX (bh (xs:=[(0,.tmp 89)]) (cs:=(eu.cells (eu.mk (nM r kA kC cA cC bA bC slA slC drA drC heA heC) (ba.mk none 0 0) (Value.map none)))) U U (bg No U)) U U)<|g5 U fun L=>a_ 1 U<|RK A1<|al fun _ A2=>WS fun _ A3=>rP 4 [] (mc 2 U I) ?_
 refine RK A3<|aF<|gl 82 1<|nt ?_
 have A:(0≤r.aq.length)∧(([]:List RA).length=0)∧(jQ r 0):=by exact ⟨Nat.zero_le _,rfl,yY⟩
 refine bX (ι:={z:Nat×(List RA)×(OA)×Nat // (z.1≤r.aq.length)∧(z.2.1.length=z.1)∧(jQ r z.1)}) [1,5,8,93,94] [3,4,5,6,7,8,9,10,11,12,13] U U (fun z=>[(95,(vI (z.1.1:Int)))]) (fun z=>[(bf (aR CR (fY r z.1.1) z.1.2.1)),(own z.1.2.2.1 z.1.2.2.2 82 1 (List.map sC (List.zipWith CS (fY r z.1.1) z.1.2.1))),(bJ L 91 (eu.cells (eu.mk (nM r kA kC cA cC bA bC slA slC drA drC heA heC) (ba.mk z.1.2.2.1 ((List.zipWith CS (fY r z.1.1) z.1.2.1).length) z.1.2.2.2) (Value.map none))))]) (fun _=>rfl) (fun _=>rfl) (fun z=>r.aq.length-z.1.1) ⟨(0,([]:List RA),none,0),A⟩ (aT U) (aJ [3,4,5,6,7,8,9,10,11,12,13,0,1,2]) ?_
 clear A
 rintro ⟨⟨h,tz,a,c⟩,⟨T,C,E⟩⟩ J42 Z
 try dsimp only at T C E
 try dsimp only
 refine WS fun _ A4=>rP 1 [] I ?_
 refine RK A4<|al fun _ A5=>cu U (aZ fun JK=>?_) (aY fun JK=>?_)
 ·refine bq<|ah<|ah<|aD<|KK A2<|al fun _ C2=>?_
  have J7:fY r h=cr r:=by unfold cr; rw [show h=r.aq.length by omega]
  have FZ:tz.length=r.aq.length:=by omega
  rw [J7,Bb,show (List.zipWith CS (cr r) tz).length=(cr r).length from by rw [List.length_zipWith]; omega]
  have X:eQ r:=Eg (n:=i) om om om om om N J E om
  refine au<|rP 5 [] (mc 1 U I) ?_
  refine cX (IS r kA kC az cA cC bA bC slA slC drA drC ha heA heC tz a c (Value.map none) L r.aq.length hin asm om (by exact X.uM)) (kp [3,4,5,6,7,8,9,10]<|ae (aa (n:=(cr r).length) 12 U (ke (by rw [FS]; exact FZ)))<|ae (bS 11 U pM)<|cY 13 U U<|aC) U fun K LR=>?_
  try dsimp only
  refine rS (SX (bk U U) U U)<|rP 1 [] I ?_
  refine ik (vs:=[(Value.map (some K))]) (cs':=(eu.cells (eu.mk (nM r kA kC cA cC bA bC slA slC drA drC heA heC) (ba.mk a ((cr r).length) c) (Value.map (some K))))) (C':=[_,_,_,_,_,_,_,_,_,_,_,_,_,_,(bJ L 91 (eu.cells (eu.mk (nM r kA kC cA cC bA bC slA slC drA drC heA heC) (ba.mk a ((cr r).length) c) (Value.map (some K)))))]) 14 U U U Gp U U U U U U U<|RK C2<|al fun _ C5=>?_
  rw [show dn r r.aq.length=ax r from rfl]
  refine au<|rP 3 [] I ?_
  refine RK C5<|aB ?_
  refine LX hQ (true,0,L,K,a,c,tz) [14,13,12,0] [] I U (by (show List.all _ _=true; simp only [cond_true,e6,List.all_nil,yH,Bool.and_true]; rfl)) U U ?_
  exact ⟨fun _=>⟨wG B X,FZ⟩,Ku⟩
 refine WK A5<|al fun _ A6=>aF<|WS fun _ A7=>?_
 obtain ⟨ht,D⟩:=aQ r.aq h om
 obtain ⟨G,AB⟩:=aQ ha h om
 have E9:(List.zipWith cm r.aq ha)[h]? =some (cm ht G):=dE D AB
 refine rS (IA h U (aS 9 U) q9 dc om om)<|rS (g4 h 0 (vS G.1.1 ht.length G.1.2) U cz (aS 9 U) E9 U dc U)<|rP 1 [] I ?_
 refine RK A7<|al fun _ A8=>WS fun _ A9=>?_
 have Eq:=hin.mU _ _ _ D AB
 have LA:=Eq.pQ
 refine rP 4 [] I ?_
 refine RK A9<|dF U (bL fun Y=>?_) (bM fun Y=>?_)
 ·refine WS fun _ Bi=>rP 2 [] I ?_
  refine RK Bi<|aB<|LX hQ (false,60,0,0,none,0,[]) [] [] I U (by rfl) U U ?_
  exact pR<|m4 (iI B (fun q:eQ r=>by have q1:=(q.mU ht (aN D)).1; omega))
 refine WK A8<|WS fun _ B3=>a_ 1 U<|RK B3<|al fun _ B7=>WS fun _ B9=>rP 3 [] I ?_
 refine RK B9<|aF<|gl 40 2 ?_
 have A:(0≤ht.length)∧(nR r.ai ht 0):=by exact ⟨Nat.zero_le _,xf⟩
 refine bX (ι:={z:Nat×(OA)×Nat // (z.1≤ht.length)∧(nR r.ai ht z.1)}) [1,5,8,10,93,94,95,103,104] [1,2,3,4,5,6,7,8,9,10,11,12,13,14] U U (fun z=>[(11,(vS z.1.2.1 (((ht.take z.1.1).map (cy r.ai)).length) z.1.2.2)),(105,(vI (z.1.1:Int)))]) (fun z=>[(own z.1.2.1 z.1.2.2 40 2 (((ht.take z.1.1).map (cy r.ai)).map ab.cells))]) (fun _=>rfl) (fun _=>rfl) (fun z=>ht.length-z.1.1) ⟨(0,none,0),A⟩ (aT U) (aJ [1,2,3,4,5,6,7,8,9,10,11,12,13,14,0]) ?_
 clear A
 rintro ⟨⟨j,la,lc⟩,⟨AA,F⟩⟩ J53 b
 try dsimp only at AA F
 try dsimp only
 refine WS fun _ CP=>rP 1 [] I ?_
 refine RK CP<|al fun _ CY=>cu U (aZ fun IV=>?_) (aY fun IV=>?_)
 ·refine bq<|ah<|ah<|aD<|KK B7<|au<|a_ 2 U<|rS (SX (bk U U) U U)<|rP 2 [] (mc 13 U I) ?_
  rw [show ((ht.take j).map (cy r.ai))=ht.map (cy r.ai) from by rw [List.take_of_length_le om]]
  refine rP 1 [] I ?_
  refine ck (xs:=[.tmp 128]) (cs:=[(vS la ((ht.map (cy r.ai)).length) lc)]) U I5 MO U U U U (by simp [Value.cells]) U U fun Lw=>?_
  refine dL (es2:=(List.map sC (List.zipWith CS (fY r (h+1)) (tz++[(la,lc)])))) (m':=(List.zipWith CS (fY r (h+1)) (tz++[(la,lc)])).length) 13 U U U Np U U sm (aP (es:=List.map sC [(ba.mk la ((ht.map (cy r.ai)).length) lc)]) 0 U U (by simp [CA]) U) (JY _) (by rw [List.length_zipWith,kM om]; omega) (by rw [List.length_zipWith,kM om]; simp only [maxLen]; omega) (by rw [wS D C,List.map_append]; rfl) (by rw [wS D C]; simp) U fun P R=>?_
  try dsimp only
  refine rS (SX (bk U U) U U)<|a_ 1 U<|ik (vs:=[(vS P ((List.zipWith CS (fY r (h+1)) (tz++[(la,lc)])).length) R)]) (cs':=(eu.cells (eu.mk (nM r kA kC cA cC bA bC slA slC drA drC heA heC) (ba.mk P ((List.zipWith CS (fY r (h+1)) (tz++[(la,lc)])).length) R) (Value.map none)))) (C':=[_,_,_,_,_,_,_,_,_,_,_,_,_,_,(bJ L 91 (eu.cells (eu.mk (nM r kA kC cA cC bA bC slA slC drA drC heA heC) (ba.mk P ((List.zipWith CS (fY r (h+1)) (tz++[(la,lc)])).length) R) (Value.map none)))),_]) 14 U U U MQ U U U U U U U<|aG<|aH<|KK A6<|au<|rP 2 [] I ?_
  refine aG<|z6 (X':=aR CR (fY r (h+1)) (tz++[(la,lc)])) 12 15 U U (EO (a:=(la,lc)) D C) ?_
  have EQ:(vI (((h+1):Nat):Int))=(vI ((h:Int)+1)):=by exact cI om
  refine bc (Z ⟨((h+1),(tz++[(la,lc)]),P,R),⟨om,by simp; omega,zj E D (GW om F om)⟩⟩ _ _ _ U os (du 5<|bO U EQ<|ew.nil _) (aJ [2,3,4,5,6,7,8,9,10,11,12,0,13,14]))
 refine WK CY<|al fun _ Ci=>aF<|WS fun _ Ck=>?_
 obtain ⟨d,hd⟩:=aQ ht j om
 obtain ⟨da,Ej⟩:=aQ G.2 j om
 have J6:(List.zipWith av.cells ht G.2)[j]? =some (av.cells d da):=dE hd Ej
 refine rS (IA j U (show jf _ (rd G.1.1 ht.length 7 (List.zipWith av.cells ht G.2)).holds from (eh 10 U (bY D AB bU))) td dc om om)<|rS (r_ j 0 (aV.cells (aV.mk d.Out d.eK d.Time (eJ.mk d.cH.Start d.cH.gk (ba.mk da.1 d.cH.ay.length da.2)))) U cz (show jf _ (rd G.1.1 ht.length 7 (List.zipWith av.cells ht G.2)).holds from (eh 10 U (bY D AB bU))) J6 U dc U U)<|AL U H7 fun Li=>fw U Hd U<|RK Ck<|WS fun _ Cp=>a_ 1 U<|rS (LP (cj.cells (mW r.ai kA kC cA cC bA bC)) 2 U cz U U U)<|rP 1 [] (mc 0 U I) ?_
 have NB:=Eq.sig d (aN hd)
 refine rS (CL (yQ r.ai kA kC az cA cC bA bC d da.1 da.2 asm asm) (kp [3,4,5,6,7]<|ae (show jf _ (rd da.1 d.cH.ay.length 2 (d.cH.ay.map aK.cells)).holds from (eh 11 U (bY D AB (cL _ (bY hd Ej (by simp [av.jx]))))))<|aC) U)<|a_ 3 U<|AL U dK fun Lk=>fw U cT U<|a_ 1 U<|RK Cp<|al fun _ Cx=>WS fun _ C0=>rP 2 [] I ?_
 refine RK C0<|cu U (bM fun M=>?_) (bL fun M=>?_)
 ·refine WK Cx<|au<|rP 2 [] (mc 0 U I) ?_
  refine ck (xs:=[.tmp 119]) (cs:=(ab.cells (cy r.ai d))) U jZ dK U U U U (by simp [Value.cells,ab.aL]) U U fun Lo=>?_
  refine dL (es2:=(List.map ab.cells ((ht.take (j+1)).map (cy r.ai)))) (m':=((ht.take (j+1)).map (cy r.ai)).length) 17 U U U G2 U U sm (aP (es:=List.map ab.cells [(cy r.ai d)]) 0 U U (by simp [ab.aL]) U) (iM _) (by simp only [List.length_map,List.length_take]; omega) (by simp only [maxLen,List.length_map,List.length_take]; omega) (by rw [List.take_add_one,hd]; simp) sq U fun Fn Hl=>?_
  try dsimp only
  refine a_ 1 U<|aG<|aH<|KK Ci<|au<|rP 2 [] I ?_
  refine aG ?_
  have EB:(vI (((j+1):Nat):Int))=(vI ((j:Int)+1)):=by exact cI om
  refine bc (b ⟨((j+1),Fn,Hl),⟨om,wC F hd M⟩⟩ _ _ _ U os (du 10<|bO U EB<|ew.nil _) (aJ [3,4,5,6,7,8,9,10,11,12,13,14,15,16,17]))
 refine WS fun _ C1=>rP 2 [] I ?_
 refine RK C1<|aB<|LX hQ (false,60,0,0,none,0,[]) [] [] I U (by rfl) U U ?_
 exact pR<|m4 (iI B (fun q:eQ r=>by exact M ((q.mU ht (aN D)).2 d (aN hd))))
end
section
open Go.RowKit
theorem yL (l:List Int) (lA:OA) (lC:Nat) (hlen:l.length=1):
 Bh Tryz.prog 59 [(vS lA 1 lC)] [] (own lA lC 3 1 (l.map iC)) (fun (x:Unit)=>(vS lA 1 lC)) (fun (x:Unit)=>True) (fun (x:Unit)=>(own lA lC 3 1 (l.map iC))):=by
 refine kv kr Tryz.func59 U U fun E Q hQ hN=>?_
 try dsimp only
 refine WS fun _ A=>a_ 1 U<|RK A<|al fun _ D=>WS fun _ B=>a_ 2 U<|rS (SX (bw (r:= .bool true) U U U fj) U U)<|RK B<|aX U<|WS fun _ C=>rP 2 [] I ?_
 refine RK C<|aB<|LM hQ () 0 [] I U U U U ?_
 trivial
theorem yE (l:List Int) (lA:OA) (lC:Nat) (hlen:l.length=2):
 Bh Tryz.prog 59 [(vS lA 2 lC)] [] (own lA lC 3 1 (l.map iC)) (fun (x:(List Int))=>(vS lA (Fx l) lC)) (fun (x:(List Int))=>True) (fun (x:(List Int))=>(own lA lC 3 1 (x.map iC))):=by
 refine kv kr Tryz.func59 U U fun c Q hQ hN=>?_
 try dsimp only
 refine WS fun _ M=>a_ 1 U<|RK M<|al fun _ N=>WS fun _ O=>a_ 2 U<|rS (SX (bw (r:= .bool false) U U U fj) U U)<|RK O<|aM U<|WK N<|al fun _ P=>WS fun _ R=>a_ 1 U<|RK R<|aF<|ig 3<|de fun R6 V=>al fun _ S=>WS fun _ T=>a_ 3 U<|rS (SX (bw (r:= .bool true) U U U fj) U U)<|RK T<|aX U<|WK S<|al fun _ AA=>aF<|al fun _ B=>dR cE 10 kr<|dP 2 [] I ?_
 obtain ⟨x,hx⟩:=aQ l 1 om
 have W:=cG iC hx
 refine dS (IA 1 U (aa (n:=2) 0 U sq) b0 dc U om) ?_
 refine dS (g4 1 0 (vI x) U cz (aa (n:=l.length) 0 U sm) W U dc U)<|dP 2 [] I ?_
 refine dS (SX (bw (r:= .int .i64 0) U U U (pJ ⟨dc,dc⟩)) U U) ?_
 obtain ⟨y,hy⟩:=aQ l 0 om
 have X:=cG iC hy
 refine dS (IA 0 U (aa (n:=2) 0 U sq) b0 dc U om) ?_
 refine dS (g4 0 0 (vI y) U cz (aa (n:=l.length) 0 U sm) X U dc U)<|dP 1 [] I ?_
 refine dJ<|RK B<|cu U (aZ fun A=>?_) (aY fun A=>?_)
 ·refine cJ<|aH<|KK AA<|au<|a_ 1 U<|rS (SX (bw (r:= .int .i64 2) U U U (fG ⟨dc,dc⟩)) U U)<|a_ 1 U<|RK V<|de fun R19 b=>al fun _ Z=>WS fun _ AB=>a_ 3 U<|rS (SX (bw (r:= .bool false) U U U fj) U U)<|RK AB<|aM U<|bq<|ah<|ah<|aD<|KK P<|WS fun _ J=>rP 2 [] I ?_
  refine RK J<|aB ?_
  refine LM hQ l 0 [] I U U U ?_ ?_
  ·(rw [wV hlen hy hx A,hlen]; rfl)
  ·trivial
 refine WS fun _ C=>rP 2 [] I ?_
 refine rS (NW 1 U b0 U os) ?_
 refine a_ 1 U<|RK C<|al fun _ D=>WS fun _ E=>a_ 1 U<|RK E<|aF<|ig 2<|de fun R14 a=>al fun _ Y=>WS fun _ F=>rP 4 [] I ?_
 refine RK F<|dF U (aY fun L=>?_) (aZ fun L=>?_)
 ·exfalso; omega
 refine bq<|ah<|ah<|aD<|KK D<|WS fun _ G=>rP 2 [] I ?_
 refine rS (NW 1 U b0 U os) ?_
 refine GY (k:=1) 0 rfl rfl q8 (by intro v hv; simp [Value.cells] at hv; subst hv; rfl) rfl os om ?_
 try dsimp only
 rw [show (own lA lC 3 1 ((l.map iC).take 1))=(own lA lC 3 1 ((l.take 1).map iC)) from by rw [List.map_take]]
 refine RK G<|WS fun _ H=>DS 0 U fun K=>?_
 simp only [List.length_map,List.length_take] at K
 refine a_ 2 U<|rS (Nl 1 U b0 U om)<|rP 1 [] I ?_
 refine RK H<|aB ?_
 refine LM hQ (l.take 1) 0 [] I U U U ?_ ?_
 ·(rw [uw hlen hy hx A]; rfl)
 ·trivial
end
section
open Go.RowKit
theorem tT (r:bQ) (kA:OA) (kC:Nat) (az:List RA) (cA:OA) (cC:Nat) (bA:OA) (bC:Nat) (slA:OA) (slC:Nat) (drA:OA) (drC:Nat) (ha:List cb) (heA:OA) (heC:Nat) (a:Int) (gq:Nat) (hin:dG r az ha):
 kd Tryz.prog 35 [(vA (bV.cells (nM r kA kC cA cC bA bC slA slC drA drC heA heC))),(vS (some ⟨gq,0,none⟩) 1 1)] [(rd dH 3 2 c4),(rd kA r.ai.aO.length 9 (r.ai.aO.map ao.cells)),(rd cA r.ai.ak.length 2 (List.zipWith aA.cells r.ai.ak az)),(eR (aR aA.jx r.ai.ak az)),(rd bA r.ai.ag.length 4 (r.ai.ag.map bG.cells)),(rd slA r.aI.length 1 (r.aI.map iC)),(rd drA r.bu.length 1 (r.bu.map iC)),(rd heA r.aq.length 1 (List.zipWith cm r.aq ha)),(eR (aR ja r.aq ha)),(bJ gq 3 [(vI a)])] (fun (x:Bool×Int×Nat×Nat×(OA)×Nat×(List RA)×(OA)×Nat)=>bif x.1 then (vT [(Value.pointer (some ⟨x.2.2.1,0,none⟩)),(vS x.2.2.2.2.2.2.2.1 1 x.2.2.2.2.2.2.2.2),(vI 0)]) else (vT [(Value.pointer none),(vS none 0 0),(vI x.2.1)])) (fun (x:Bool×Int×Nat×Nat×(OA)×Nat×(List RA)×(OA)×Nat)=>(x.1=true→(gU r a=0∧x.2.2.2.2.2.2.1.length=r.aq.length))∧(x.1=false→(x.2.1=gU r a∧ ¬ gU r a=0))) (fun (x:Bool×Int×Nat×Nat×(OA)×Nat×(List RA)×(OA)×Nat)=>bif x.1 then [(bJ x.2.2.1 91 (eu.cells (eu.mk (nM r kA kC cA cC bA bC slA slC drA drC heA heC) (ba.mk x.2.2.2.2.1 ((cr r).length) x.2.2.2.2.2.1) (Value.map (some x.2.2.2.1))))),(own x.2.2.2.2.1 x.2.2.2.2.2.1 82 1 (List.zipWith BV (cr r) x.2.2.2.2.2.2.1)),(bf (aR CR (cr r) x.2.2.2.2.2.2.1)),(fJ iV x.2.2.2.1 (bo cW (ax r))),(own x.2.2.2.2.2.2.2.1 x.2.2.2.2.2.2.2.2 40 2 ([(ar (ax r) a)].map ab.cells))] else []):=by
 have y:=hin.line
 have Bi:=hin.g9
 have B3:=hin.has
 have A3:=hin.gT
 have A2:=hin.draw
 have g:=dy (r:=r)
 refine cS kr Tryz.func35 U U fun w0 Q hQ hN=>?_
 try dsimp only
 refine WS fun _ w=>g5 U fun b2=>a_ 3 U<|RK w<|WS fun _ N=>rP 1 [] (mc 0 U I) ?_
 refine cX (ly r kA kC az cA cC bA bC slA slC drA drC ha heA heC hin) (bj [1,2,3,4,5,6,7,8,9]) U fun y4 j=>?_
 obtain ⟨k,A9,F,E,m,B,C⟩:=y4
 cases k
 ·obtain ⟨e,he⟩:=j.2 rfl
  try dsimp only at e he
  subst e
  try dsimp only [cond_true,cond_false,List.cons_append,List.nil_append]
  refine a_ 5 U<|RK N<|al fun _ AO=>WS fun _ H=>rP 2 [] I ?_
  refine RK H<|cu U (bM fun G=>?_) (bL fun G=>?_)
  ·exact absurd G he
  refine WS fun _ AB=>rP 4 [] I ?_
  refine RK AB<|aB<|LX hQ (false,(cc r),0,0,none,0,[],none,0) [] [] I U (by rfl) U U ?_
  exact pR<|HO (rK (i:=a) he) he
 obtain ⟨he,h⟩:=j.1 rfl
 try dsimp only [cond_true,cond_false,List.cons_append,List.nil_append]
 refine a_ 5 U<|RK N<|al fun _ J=>WS fun _ K=>a_ 1 U<|rS (SX (bw (r:= .bool false) U U U lp) U U)<|RK K<|aM U<|WK J<|al fun _ L=>WS fun _ A=>rP 2 [] I ?_
 refine rS (CL (dQ.eq (vL r kA kC az cA cC bA bC slA slC drA drC ha heA heC C m B (Value.map (some E)) F ([a]) (some ⟨gq,0,none⟩) 1 hin (by (simp; done))) bZ) (kp [6,7,8,9,10,11,12,13]<|ae (aa (n:=(cr r).length) 1 U (ke (by rw [g]; exact h)))<|ae (bS 2 U pM)<|cY 0 U U<|ae (lH 14 U U (by simp [aW]) U)<|aC) U) ?_
 refine rP 2 [] I ?_
 refine eH (t:=26) U (bL fun v=>?_) (bM fun v=>?_)
 ·refine a_ 3 U<|a_ 4 U<|a_ 2 U<|RK A<|aX U<|WS fun _ M=>rP 3 [] I ?_
  refine RK M<|aB<|LX hQ (false,2,0,0,none,0,[],none,0) [] [] I U (by rfl) U U ?_
  exact pR<|m4 (F1 (i:=a) he om)
 refine rP 1 [] I ?_
 refine cX (sW (some ⟨gq,0,none⟩) 1 1) (aC) U fun q A4=>?_
 try dsimp only
 refine cX (rT ([a]) (some ⟨gq,0,none⟩) 1 q (by (simp; done))) (ae (lH 15 U U (by simp [aW]) U)<|cY 0 U U<|aC) U fun AC A5=>?_
 obtain ⟨o,s⟩:=AC
 try dsimp only
 try dsimp only
 refine g8 0 U U U U (yL (cp ([a])) o s (by (simp; done))) U jg U (fun B7 A6=>?_)
 try dsimp only
 refine a_ 3 U<|rS (SX (bw (r:= .bool false) U U U fj) U U)<|a_ 1 U<|RK A<|aM U<|WK L<|WS fun _ O=>a_ 1 U<|RK O<|al fun _ P=>WS fun _ R=>a_ 3 U<|RK R<|aF<|ig 2<|de fun R33 d=>WS fun _ S=>rS (SX (bw (r:= .bool true) U U U fj) U U)<|RK S<|al fun _ T=>aX U<|WK T<|al fun _ AA=>aF<|WS fun _ V=>rS (Mx 0 0 U b0 U dc U)<|hE 2 [] (mr 16 U I) U<|RK V<|WS fun _ W=>a_ 1 U<|rS (SX (bk U U) U U)<|hE 3 [] (mc 2 U I) U<|rS (SX (iQ (kV:=iV) (x:=a) (l:=(ax r)) (f:=cW) (z:=(ab.mk 0 0)) U U U lf (dv nO) sx (by exact aS 5 U)) U U)<|a_ 3 U<|AL U dK fun A7=>fw U cT U<|rP 1 [] I ?_
 refine RK W<|al fun _ X=>WS fun _ Y=>?_
 rw [show ((List.lookup a (ax r)).getD (ab.mk 0 0))=(ar (ax r) a) from rfl]
 refine rP 2 [] I ?_
 refine RK Y<|dF U (fun D=>?_) (fun D=>?_)
 ·rw [Bool.not_eq_true'] at D
  refine WS fun _ Z=>rP 3 [] I ?_
  refine RK Z<|aB<|LX hQ (false,6,0,0,none,0,[],none,0) [] [] I U (by rfl) U U ?_
  exact pR<|m4 (tu (i:=a) he om asm)
 rw [Bool.not_eq_false'] at D
 refine WK X<|au<|rP 2 [] (mc 0 U I) ?_
 refine ck (xs:=[.tmp 54]) (cs:=(ab.cells (ar (ax r) a))) U jZ dK U U U U (by simp [Value.cells,ab.aL]) U U fun A8=>dw 40 2<|dL (es2:=(List.map ab.cells ([(ar (ax r) a)]))) (m':=([(ar (ax r) a)]).length) 0 U U U G2 U U sm (aP (es:=List.map ab.cells [(ar (ax r) a)]) 1 U U (by simp [ab.aL]) U) (iM _) sm (by simp [maxLen]) sm sm U fun p u=>?_
 try dsimp only
 refine a_ 1 U<|aG<|aH<|KK AA<|au<|rS (SX (bw (r:= .int .i64 1) U U U (fG ⟨dc,dc⟩)) U U)<|a_ 1 U<|RK d<|de fun R46 A1=>WS fun _ b=>rS (SX (bw (r:= .bool false) U U U fj) U U)<|RK b<|al fun _ A0=>aM U<|bq<|ah<|ah<|aD<|KK P<|WS fun _ c=>rP 5 [] I ?_
 refine RK c<|aB ?_
 refine LX hQ (true,0,F,E,m,B,C,p,u) [5,6,7,8,0] [] I U (by (show List.all _ _=true; simp only [cond_true,e6,List.all_nil,yH,Bool.and_true]; rfl)) U U ?_
 exact ⟨fun _=>⟨Gy he om asm,h⟩,Ku⟩
end
section
open Go.RowKit
theorem uc (r:bQ) (kA:OA) (kC:Nat) (az:List RA) (cA:OA) (cC:Nat) (bA:OA) (bC:Nat) (slA:OA) (slC:Nat) (drA:OA) (drC:Nat) (ha:List cb) (heA:OA) (heC:Nat) (a b:Int) (gq:Nat) (hin:dG r az ha):
 kd Tryz.prog 35 [(vA (bV.cells (nM r kA kC cA cC bA bC slA slC drA drC heA heC))),(vS (some ⟨gq,0,none⟩) 2 2)] [(rd dH 3 2 c4),(rd kA r.ai.aO.length 9 (r.ai.aO.map ao.cells)),(rd cA r.ai.ak.length 2 (List.zipWith aA.cells r.ai.ak az)),(eR (aR aA.jx r.ai.ak az)),(rd bA r.ai.ag.length 4 (r.ai.ag.map bG.cells)),(rd slA r.aI.length 1 (r.aI.map iC)),(rd drA r.bu.length 1 (r.bu.map iC)),(rd heA r.aq.length 1 (List.zipWith cm r.aq ha)),(eR (aR ja r.aq ha)),(bJ gq 3 [(vI a),(vI b)])] (fun (x:Bool×Int×Nat×Nat×(OA)×Nat×(List RA)×(OA)×Nat)=>bif x.1 then (vT [(Value.pointer (some ⟨x.2.2.1,0,none⟩)),(vS x.2.2.2.2.2.2.2.1 2 x.2.2.2.2.2.2.2.2),(vI 0)]) else (vT [(Value.pointer none),(vS none 0 0),(vI x.2.1)])) (fun (x:Bool×Int×Nat×Nat×(OA)×Nat×(List RA)×(OA)×Nat)=>(x.1=true→(je r a b=0∧x.2.2.2.2.2.2.1.length=r.aq.length))∧(x.1=false→(x.2.1=je r a b∧ ¬ je r a b=0))) (fun (x:Bool×Int×Nat×Nat×(OA)×Nat×(List RA)×(OA)×Nat)=>bif x.1 then [(bJ x.2.2.1 91 (eu.cells (eu.mk (nM r kA kC cA cC bA bC slA slC drA drC heA heC) (ba.mk x.2.2.2.2.1 ((cr r).length) x.2.2.2.2.2.1) (Value.map (some x.2.2.2.1))))),(own x.2.2.2.2.1 x.2.2.2.2.2.1 82 1 (List.zipWith BV (cr r) x.2.2.2.2.2.2.1)),(bf (aR CR (cr r) x.2.2.2.2.2.2.1)),(fJ iV x.2.2.2.1 (bo cW (ax r))),(own x.2.2.2.2.2.2.2.1 x.2.2.2.2.2.2.2.2 40 2 ([(ar (ax r) a),(ar (ax r) b)].map ab.cells))] else []):=by
 have A8:=hin.line
 have EB:=hin.g9
 have EQ:=hin.has
 have CP:=hin.gT
 have B9:=hin.draw
 have v:=dy (r:=r)
 refine cS kr Tryz.func35 U U fun w0 Q hQ hN=>?_
 try dsimp only
 refine WS fun _ A7=>g5 U fun b2=>a_ 3 U<|RK A7<|WS fun _ N=>rP 1 [] (mc 0 U I) ?_
 refine cX (ly r kA kC az cA cC bA bC slA slC drA drC ha heA heC hin) (bj [1,2,3,4,5,6,7,8,9]) U fun y4 y=>?_
 obtain ⟨AC,Di,F,E,AO,C,D⟩:=y4
 cases AC
 ·obtain ⟨u,he⟩:=y.2 rfl
  try dsimp only at u he
  subst u
  try dsimp only [cond_true,cond_false,List.cons_append,List.nil_append]
  refine a_ 5 U<|RK N<|al fun _ Bi=>WS fun _ H=>rP 2 [] I ?_
  refine RK H<|cu U (bM fun G=>?_) (bL fun G=>?_)
  ·exact absurd G he
  refine WS fun _ AB=>rP 4 [] I ?_
  refine RK AB<|aB<|LX hQ (false,(cc r),0,0,none,0,[],none,0) [] [] I U (by rfl) U U ?_
  exact pR<|HO (Ef (a:=a) (b:=b) he) he
 obtain ⟨he,w⟩:=y.1 rfl
 try dsimp only [cond_true,cond_false,List.cons_append,List.nil_append]
 refine a_ 5 U<|RK N<|al fun _ J=>WS fun _ K=>a_ 1 U<|rS (SX (bw (r:= .bool false) U U U lp) U U)<|RK K<|aM U<|WK J<|al fun _ L=>WS fun _ B=>rP 2 [] I ?_
 refine rS (CL (dQ.eq (vL r kA kC az cA cC bA bC slA slC drA drC ha heA heC D AO C (Value.map (some E)) F ([a,b]) (some ⟨gq,0,none⟩) 2 hin (by (simp; done))) nS) (kp [6,7,8,9,10,11,12,13]<|ae (aa (n:=(cr r).length) 1 U (ke (by rw [v]; exact w)))<|ae (bS 2 U pM)<|cY 0 U U<|ae (lH 14 U U (by simp [aW]) U)<|aC) U) ?_
 refine rP 2 [] I ?_
 refine eH (t:=26) U (bL fun A5=>?_) (bM fun A5=>?_)
 ·refine a_ 3 U<|a_ 4 U<|a_ 2 U<|RK B<|aX U<|WS fun _ M=>rP 3 [] I ?_
  refine RK M<|aB<|LX hQ (false,2,0,0,none,0,[],none,0) [] [] I U (by rfl) U U ?_
  exact pR<|m4 (xo (a:=a) (b:=b) he om)
 refine rP 1 [] I ?_
 refine cX (sW (some ⟨gq,0,none⟩) 2 2) (aC) U fun A2 CY=>?_
 try dsimp only
 refine cX (rT ([a,b]) (some ⟨gq,0,none⟩) 2 A2 (by (simp; done))) (ae (lH 15 U U (by simp [aW]) U)<|cY 0 U U<|aC) U fun A9 Ci=>?_
 obtain ⟨A0,A3⟩:=A9
 try dsimp only
 try dsimp only
 refine g8 0 U U U U (yE (cp ([a,b])) A0 A3 (by (simp; done))) U jg U (fun Ej Ck=>?_)
 try dsimp only
 refine rP 3 [] I ?_
 have Do:=FH a b
 refine rP 2 [] I ?_
 refine RK B<|dF U (aY fun A6=>?_) (aZ fun A6=>?_)
 ·refine WS fun _ O=>rP 3 [] I ?_
  refine RK O<|aB<|LX hQ (false,2,0,0,none,0,[],none,0) [] [] I U (by rfl) U U ?_
  exact pR<|m4 (xo (a:=a) (b:=b) he om)
 refine WK L<|WS fun _ P=>a_ 1 U<|RK P<|al fun _ R=>WS fun _ S=>a_ 3 U<|RK S<|aF<|ig 3<|de fun R35 q=>WS fun _ T=>rS (SX (bw (r:= .bool true) U U U fj) U U)<|RK T<|al fun _ AA=>aX U<|WK AA<|al fun _ V=>aF<|WS fun _ W=>rS (Mx 0 0 U b0 U dc U)<|hE 2 [] (mr 16 U I) U<|RK W<|WS fun _ X=>a_ 1 U<|rS (SX (bk U U) U U)<|hE 3 [] (mc 2 U I) U<|rS (SX (iQ (kV:=iV) (x:=a) (l:=(ax r)) (f:=cW) (z:=(ab.mk 0 0)) U U U lf (dv nO) sx (by exact aS 5 U)) U U)<|a_ 3 U<|AL U dK fun Cx=>fw U cT U<|rP 1 [] I ?_
 refine RK X<|al fun _ Y=>WS fun _ Z=>?_
 rw [show ((List.lookup a (ax r)).getD (ab.mk 0 0))=(ar (ax r) a) from rfl]
 refine rP 2 [] I ?_
 refine RK Z<|dF U (fun A=>?_) (fun A=>?_)
 ·rw [Bool.not_eq_true'] at A
  refine WS fun _ c=>rP 3 [] I ?_
  refine RK c<|aB<|LX hQ (false,6,0,0,none,0,[],none,0) [] [] I U (by rfl) U U ?_
  exact pR<|m4 (pS (a:=a) (b:=b) he om (by exact .inl asm))
 rw [Bool.not_eq_false'] at A
 refine WK Y<|au<|rP 2 [] (mc 0 U I) ?_
 refine ck (xs:=[.tmp 54]) (cs:=(ab.cells (ar (ax r) a))) U jZ dK U U U U (by simp [Value.cells,ab.aL]) U U fun C0=>dw 40 2<|dL (es2:=(List.map ab.cells ([(ar (ax r) a)]))) (m':=([(ar (ax r) a)]).length) 0 U U U G2 U U sm (aP (es:=List.map ab.cells [(ar (ax r) a)]) 1 U U (by simp [ab.aL]) U) (iM _) sm (by simp [maxLen]) sm sm U fun Cp C5=>?_
 try dsimp only
 refine a_ 1 U<|aG<|aH<|KK V<|au<|rS (SX (bw (r:= .int .i64 1) U U U (fG ⟨dc,dc⟩)) U U)<|a_ 1 U<|RK q<|de fun R48 s=>WS fun _ d=>rS (SX (bw (r:= .bool true) U U U fj) U U)<|RK d<|al fun _ e=>aX U<|WK e<|al fun _ g=>aF<|WS fun _ h=>rS (Mx 1 1 U b0 U dc U)<|hE 2 [] (mr 19 U I) U<|RK h<|WS fun _ i=>a_ 1 U<|rS (SX (bk U U) U U)<|hE 3 [] (mc 5 U I) U<|rS (SX (iQ (kV:=iV) (x:=b) (l:=(ax r)) (f:=cW) (z:=(ab.mk 0 0)) U U U lf (dv nO) sx (by exact aS 8 U)) U U)<|a_ 3 U<|AL U dK fun C1=>fw U cT U<|rP 1 [] I ?_
 refine RK i<|al fun _ j=>WS fun _ k=>?_
 rw [show ((List.lookup b (ax r)).getD (ab.mk 0 0))=(ar (ax r) b) from rfl]
 refine rP 2 [] I ?_
 refine RK k<|dF U (fun A=>?_) (fun A=>?_)
 ·rw [Bool.not_eq_true'] at A
  refine WS fun _ m=>rP 3 [] I ?_
  refine RK m<|aB<|LX hQ (false,6,0,0,none,0,[],none,0) [] [] I U (by rfl) U U ?_
  exact pR<|m4 (pS (a:=a) (b:=b) he om (by exact .inr asm))
 rw [Bool.not_eq_false'] at A
 refine WK j<|au<|rP 2 [] (mc 0 U I) ?_
 refine ck (xs:=[.tmp 54]) (cs:=(ab.cells (ar (ax r) b))) U jZ dK U U U U (by simp [Value.cells,ab.aL]) U U fun C2=>dL (es2:=(List.map ab.cells ([(ar (ax r) a),(ar (ax r) b)]))) (m':=([(ar (ax r) a),(ar (ax r) b)]).length) 2 U U U G2 U U sm (aP (es:=List.map ab.cells [(ar (ax r) b)]) 0 U U (by simp [ab.aL]) U) (iM _) sm (by simp [maxLen]) sm sm U fun A1 A4=>?_
 try dsimp only
 refine a_ 1 U<|aG<|aH<|KK g<|au<|rS (SX (bw (r:= .int .i64 2) U U U (fG ⟨dc,dc⟩)) U U)<|a_ 1 U<|RK s<|de fun R61 B7=>WS fun _ o=>rS (SX (bw (r:= .bool false) U U U fj) U U)<|RK o<|al fun _ B3=>aM U<|bq<|ah<|ah<|aD<|KK R<|WS fun _ p=>rP 5 [] I ?_
 refine RK p<|aB ?_
 refine LX hQ (true,0,F,E,AO,C,D,A1,A4) [7,8,9,10,2] [] I U (by (show List.all _ _=true; simp only [cond_true,e6,List.all_nil,yH,Bool.and_true]; rfl)) U U ?_
 exact ⟨fun _=>⟨GM he om asm asm,w⟩,Ku⟩
end
section
open Go.RowKit
theorem Dt (m:nG) (gm g1:Nat):
 zC Tryz.prog 97 [] [(vP g1)] [(fJ iV gm (bo vB m)),(bJ g1 67 [(Value.map (some gm))])] ([]:List Int) (fun ys x ys'=> ∃ n zs,(ys++[n]++zs).Perm (m.map (·.1))∧x=[vI n]∧ys'=ys++[n]) (fun ys=>ys.Perm (m.map (·.1))):=by
 refine o9 kr Tryz.func97 U U fun l J Z A0 S Q hY M L hQ hN=>?_
 try dsimp only
 refine WS fun _ O=>rP 1 [] (mr 2 U I) ?_
 refine ic (kV:=iV) (m:=bo vB m) 1 U U xw U ⟨U,fun h=>h⟩ (by exact jr 1 U) U fun V=>?_
 try dsimp only
 refine RK O<|aF ?_
 have G:(lQ m m ([]:List Int))∧(∀ p∈m,p∈m)∧(J ([]:List Int) A0)∧(Fo A0 S A0):=by exact ⟨qU,fun p hp=>hp,M,L⟩
 refine bX (ι:={z:nG×(List Int)×aj // (lQ m z.1 z.2.1)∧(∀ p∈z.1,p∈m)∧(J z.2.1 z.2.2)∧(Fo A0 S z.2.2)}) [0,1,5] [2,3] U U (fun z=>[]) (fun z=>[(ti iV V gm (bo vB m) (bo vB z.1.1) none),z.1.2.2]) (fun _=>rfl) (fun _=>rfl) (fun z=>z.1.1.length) ⟨(m,([]:List Int),A0),G⟩ (ew.nil _) (aJ [2,3,0,1]) ?_
 clear G
 rintro ⟨⟨left,ys,A⟩,⟨B,H,C,D⟩⟩ J3 N
 try dsimp only at B H C D
 try dsimp only
 refine WS fun _ AB=>gL (dv nO).inj (f:=Value.bool) 2 U U U U (fun T=>?_) (fun x y hm hn=>?_)
 ·refine rP 1 [] I ?_
  refine RK AB<|al fun _ AA=>aM U<|bq<|ah<|ah<|aD ?_
  refine hN _ _ _ (fr (vs:=[]) trivial fun w hs=>Fg 3 U (by rw [T] at B; exact se B) C D hs)
 try dsimp only
 refine a_ 1 U<|RK AB<|al fun _ P=>aX U<|WK P<|aF<|WS fun _ R=>rS (SX (gJ 2 U U U) U U)<|a_ 2 U<|RK R<|WS fun _ K=>rP 2 [] I ?_
 refine iE (k:=ys) (k':=(ys++[(x)])) 3 (by first|exact hsz|exact Nat.le_refl _) hY C D U U U (by exact ⟨x,_,lF hn hm B,U,U⟩) U U (fun B9 F E=>?_) (fun B9 F E=>?_)
 rotate_left 1
 ·refine rP 1 [] I ?_
  refine RK K<|aX U<|aB ?_
  refine hQ _ _ _ (fr (vs:=[]) trivial fun w hs=>oB 3 U F E hs)
 refine rP 1 [] I ?_
 refine RK K<|aM U<|cJ<|aH<|fm 2 U ef U ?_
 refine bc (N ⟨((bR left x),(ys++[(x)]),B9),⟨lF hn hm B,eG H,F,E⟩⟩ _ _ _ U (dD hm) (aT U) (aJ [0,1,2,3]))
theorem HG (gm:Nat):
 kd Tryz.prog 71 [(Value.map (some gm))] [] (fun (x:Nat)=>(Value.func (.func 97) [].toArray [(vP x)].toArray)) (fun (x:Nat)=>True) (fun (x:Nat)=>[(bJ x 67 [(Value.map (some gm))])]):=by
 refine cS kr Tryz.func71 U U fun D Q hQ hN=>?_
 try dsimp only
 refine WS fun _ A=>qo U U fun C=>a_ 1 U<|RK A<|WS fun _ B=>rS (FU U)<|rP 1 [] I ?_
 refine RK B<|aB<|LX hQ C [0] [] I U U U U ?_
 trivial
end
section
open Go.RowKit
theorem AZ (m:nG) (gm g1:Nat) (hlen:m.length≤12):
 kd Tryz.prog 94 [(vS none 0 0),(Value.func (.func 97) [].toArray [(vP g1)].toArray)] [(fJ iV gm (bo vB m)),(bJ g1 67 [(Value.map (some gm))])] (fun (x:(List Int)×(OA)×Nat)=>(vS x.2.1 x.1.length x.2.2)) (fun (x:(List Int)×(OA)×Nat)=>x.1.Perm (m.map (·.1))) (fun (x:(List Int)×(OA)×Nat)=>[(own x.2.1 x.2.2 3 1 (x.1.map iC))]):=by
 refine cS kr Tryz.func94 U U fun X Q hQ hN=>?_
 try dsimp only
 refine WS fun _ AB=>qo U U fun N=>a_ 1 U<|RK AB<|al fun _ J=>WS fun _ K=>rP 1 [] I ?_
 refine RK K<|aF<|iG 1 U (by exact fun _ h=>h)<|iG 3 U (by exact fun _ h=>h)<|gl 3 1 ?_
 refine ko (L0:=[(2,(vP N))]) (F:=[(fJ iV gm (bo vB m)).ro,(bJ g1 67 [(Value.map (some gm))]).ro]) (fun k (y:(OA)×Nat)=>(∃ zs,(k++zs).Perm (m.map (·.1)))) (fun k y=>[(own y.1 y.2 3 1 (k.map iC)),(bJ N 32 [(vS y.1 k.length y.2)]),(fJ iV gm (bo vB m)).ro]) (fun _ (_:Unit)=>False) (fun _ _=>[]) [0,3,4] [2,1] (none,0) rfl rfl (Dt m gm g1) rfl rfl rfl (by exact ⟨_,List.Perm.refl _⟩) (by simp only [List.forall_mem_cons,List.not_mem_nil,false_imp_iff,implies_true,and_true]; exact ⟨⟨_,sm,(dT (bI _))⟩,⟨_,sm,(dT (bI _))⟩⟩) (by rintro k x AA ⟨n,zs,_,rfl,_⟩; rfl) rfl (aT rfl) ?_ ?_ (fun _ _ _ h=>h.elim) (fun _ _ h=>h.elim)
 rotate_left 1
 ·rintro V k ⟨a,c⟩ E A
  have B:=A
  try dsimp only at B
  try dsimp only
  refine aH<|KK J<|WS fun _ C=>rP 2 [] (mc 4 U I) ?_
  refine RK C<|aB<|hQ _ _ _ (lK 0 U U<|fr (vs:=[(vS a k.length c)]) ⟨U,trivial⟩ fun w hs=>FB (k,a,c) [3] ?_ ?_ U U U hs)
  ·rfl
  ·first|exact E|exact hys
 rintro k x AA ⟨a,c⟩ l ra rb S Y K5 Qr6 T hx G L D O P
 obtain ⟨n,zs,hn,rfl,rfl⟩:=hx; have M:=hn.length_eq; simp only [List.length_append,List.length_map,List.length_singleton] at M
 have B:=G
 try dsimp only at B
 try dsimp only
 refine au<|rP 1 [] I ?_
 refine aG<|bc (L _ _ ?_)
 refine aF<|au<|rP 2 [] (mc 2 U I) ?_
 refine ck (xs:=[.tmp 9]) (cs:=[(vI n)]) U b0 gI U U U U (by simp [Value.cells]) U U fun W=>?_
 refine dL (es2:=(List.map iC (k++[n]))) (m':=(k++[n]).length) 2 U U U q8 U U sm (aP (es:=List.map iC [n]) 0 U U (by simp [aW]) U) (ku _) os (by simp only [maxLen]; omega) sm sm U fun R H=>?_
 try dsimp only
 refine Nr U xn U U<|aG<|aH ?_
 exact D (R,H) _ _ (by exact ⟨_,hn⟩) (aJ [1,2,3,4])
end
section
open Go.RowKit
theorem zi (m:nG) (gm g1:Nat) (hlen:m.length≤12):
 kd Tryz.prog 67 [(Value.func (.func 97) [].toArray [(vP g1)].toArray)] [(fJ iV gm (bo vB m)),(bJ g1 67 [(Value.map (some gm))])] (fun (x:(List Int)×(OA)×Nat)=>(vS x.2.1 x.1.length x.2.2)) (fun (x:(List Int)×(OA)×Nat)=>x.1.Perm (m.map (·.1))) (fun (x:(List Int)×(OA)×Nat)=>[(own x.2.1 x.2.2 3 1 (x.1.map iC))]):=by
 refine cS kr Tryz.func67 U U fun AA Q hQ hN=>?_
 try dsimp only
 refine WS fun _ A=>a_ 1 U<|RK A<|WS fun _ B=>rP 1 [] I ?_
 refine cX (AZ m gm g1 hlen) (bj [0,1]) U fun H C=>?_
 obtain ⟨E,F,G⟩:=H
 try dsimp only
 have D:=C
 refine rP 1 [] I ?_
 refine RK B<|aB<|LX hQ (E,F,G) [0] [] I U U U U ?_
 first|exact hfin|exact D
theorem Cj (m:nG) (gm g1:Nat) (hlen:m.length≤12):
 kd Tryz.prog 41 [(Value.func (.func 97) [].toArray [(vP g1)].toArray)] [(fJ iV gm (bo vB m)),(bJ g1 67 [(Value.map (some gm))])] (fun (x:(OA)×Nat)=>(vS x.1 m.length x.2)) (fun (x:(OA)×Nat)=>True) (fun (x:(OA)×Nat)=>[(own x.1 x.2 3 1 ((cp (m.map (·.1))).map iC))]):=by
 refine cS kr Tryz.func41 U U fun M Q hQ hN=>?_
 try dsimp only
 refine WS fun _ E=>a_ 1 U<|RK E<|WS fun _ F=>rP 1 [] I ?_
 refine cX (zi m gm g1 hlen) (bj [0,1]) U fun L H=>?_
 obtain ⟨AA,J,K⟩:=L
 try dsimp only
 have D:=H
 refine a_ 1 U<|RK F<|WS fun _ G=>rP 1 [] I ?_
 have B:=D.length_eq
 simp only [List.length_map] at B
 refine g8 0 U U U U (vO AA J K om) U jg U (fun ms C=>?_)
 try dsimp only
 refine RK G<|WS fun _ A=>?_
 obtain rfl:=ni (C.1.trans D) C.2
 skip
 refine rP 2 [] I ?_
 refine RK A<|aB ?_
 refine LX hQ (J,K) [0] [] I U U U ?_ ?_
 ·first|rfl|(rw [B]; rfl)
 ·trivial
end
section
open Go.RowKit
theorem DR (m:nG) (gm:Nat):
 kd Tryz.prog 69 [(Value.map (some gm))] [(fJ iV gm (bo vB m))] (fun (x:Nat)=>(Value.map (some x))) (fun (x:Nat)=>True) (fun (x:Nat)=>[(fJ iV x (bo vB m))]):=by
 refine cS NM Tryz.func69 U U fun F Q hQ hN=>?_
 try dsimp only
 refine WS fun _ A=>a_ 1 U<|RK A<|al fun _ B=>WS fun _ C=>a_ 1 U<|rS (SX (bw (r:= .bool false) U U U (Jf xw)) U U)<|RK C<|aM U<|WK B<|WS fun _ D=>rP 1 [] I ?_
 refine rS (SX (H5 U U xw) U U)<|C_ (kV:=iV) (fn:=Tryz.f95) U U Tryz.func95 U U U kr (by exact jr 0 U) U fun E=>?_
 try dsimp only
 refine rS (SX (Lq U U xw) U U)<|rP 1 [] I ?_
 refine RK D<|aB<|LX hQ E [0] [] I U U U U ?_
 trivial
end
section
open Go.RowKit
theorem Cl (r:bQ) (kA:OA) (kC:Nat) (cA:OA) (cC:Nat) (bA:OA) (bC:Nat) (slA:OA) (slC:Nat) (drA:OA) (drC:Nat) (heA:OA) (heC:Nat) (tA:OA) (tN tC:Nat) (gs gw:Nat) (m:fp) (i:Int) (g1 g2:Nat) (hb: ∀ p∈m,0≤p.2.Lo∧p.2.Lo≤p.2.Hi∧p.2.Hi≤30000000):
 zC Tryz.prog 96 [] [(vP g1),(vP g2)] [(bJ gw 91 (eu.cells (eu.mk (nM r kA kC cA cC bA bC slA slC drA drC heA heC) (ba.mk tA tN tC) (Value.map (some gs))))),(fJ iV gs (bo cW m)),(bJ g1 81 [(vP gw)]),(bJ g2 3 [(vI i)])] ([]:List Int) (fun ys x ys'=> ∃ n,n∈(g7 m i (ar m i))∧x=[vI n]∧ys'=ys++[n]) (fun ys=> ∀ n,n∈ys↔n∈(g7 m i (ar m i))):=by
 have K5:=fg (i:=i) hb
 refine o9 kr Tryz.func96 U U fun l J Z A0 w0 Q hY Go GT hQ hN=>?_
 try dsimp only
 refine al fun _ Hl=>ek cE [6,7] [] [] [0,1,2,3,4] [] U U U U U<|eS U (My 3 U cz U)<|eS U (SX (bk U U) U U)<|eS U (FA 12 U fI U)<|eS U (CT (Value.map (some gs)) 1 U cz U U)<|eS U (My 4 U cz U)<|eS U (SX (i_ (kV:=iV) (x:=i) (l:=m) (f:=cW) (z:=(ab.mk 0 0)) U U U lf (dv nO) sx (by exact jr 2 U)) U U)<|e7 U<|cf U fun T2 IE=>AL U dK fun b3=>aG (IE _ _ (aJ [1,2,3,4,5]) ?_)
 refine cf U fun T4 IO=>fw U cT U<|aG (IO _ _ (aJ [1,2,3,4,5]) ?_)
 refine fH U<|KK Hl<|al fun _ H1=>WS fun _ Ci=>?_
 rw [show ((List.lookup i m).getD (ab.mk 0 0))=(ar m i) from rfl]
 refine rP 3 [] (mc 0 U I) ?_
 refine iE (k:=([]:List Int)) (k':=(([]:List Int)++[((ar m i).Lo)])) 1 (by first|exact hsz|exact Nat.le_refl _) hY Go GT U U U (by exact ⟨_,bU ..,U,U⟩) U U (fun B7 u s=>?_) (fun B7 u s=>?_)
 rotate_left 1
 ·refine rP 1 [] I ?_
  refine RK Ci<|aX U<|aB ?_
  refine hQ _ _ _ (fr (vs:=[]) trivial fun w hs=>oB 1 U u s hs)
 refine a_ 1 U<|RK Ci<|aM U<|WK H1<|WS fun _ AC=>hE 1 [] (mr 4 U I) U<|rS (SX (bk U U) U U)<|rP 2 [] (mr 2 U I) ?_
 refine ic (kV:=iV) (m:=bo cW m) 3 U U lf U ⟨U,fun h=>h⟩ (by exact jr 3 U) U fun IV=>?_
 try dsimp only
 refine RK AC<|aF ?_
 have j:(tq m i (ar m i) m (([]:List Int)++[((ar m i).Lo)]))∧(∀ p∈m,p∈m)∧(J (([]:List Int)++[((ar m i).Lo)]) B7)∧(Fo A0 w0 B7):=by exact ⟨FX,fun p hp=>hp,asm,asm⟩
 refine bX (ι:={z:fp×(List Int)×aj // (tq m i (ar m i) z.1 z.2.1)∧(∀ p∈z.1,p∈m)∧(J z.2.1 z.2.2)∧(Fo A0 w0 z.2.2)}) [0,1,2,4,24] [1,3,4,5,6] U U (fun z=>[]) (fun z=>[(ti iV IV gs (bo cW m) (bo cW z.1.1) none),z.1.2.2]) (fun _=>rfl) (fun _=>rfl) (fun z=>z.1.1.length) ⟨(m,(([]:List Int)++[((ar m i).Lo)]),B7),j⟩ (ew.nil _) (aJ [1,3,4,5,6,0,2]) ?_
 clear j
 rintro ⟨⟨left,ys,A⟩,⟨D,B,E,F⟩⟩ J12 G
 try dsimp only at D B E F
 try dsimp only
 refine WS fun _ o=>gL (dv nO).inj (f:=cW) 5 U U U U (fun q=>?_) (fun x y hm hn=>?_)
 ·refine rP 1 [] I ?_
  refine RK o<|al fun _ Id=>aM U<|bq<|ah<|ah<|aD ?_
  refine hN _ _ _ (fr (vs:=[]) trivial fun w hs=>Fg 6 U (by rw [q] at D; exact Hc D) E F hs)
 try dsimp only
 refine a_ 1 U<|RK o<|al fun _ AO=>aX U<|WK AO<|aF<|WS fun _ A1=>rS (SX (gJ 5 U U U) U U)<|a_ 2 U<|AL U dK fun K4=>a_ 1 U<|fw U cT U<|RK A1<|WS fun _ A2=>rP 1 [] I ?_
 have IR:=hb _ (B _ hm)
 dsimp only at IR
 refine hE 5 [] (mc 0 U I) U<|rS (SX (bh (xs:=[(0,.tmp 32),(1,.tmp 35)]) (cs:=[(vI (y.Lo+1)),(vI (y.Hi+1))]) U U (bg KZ U)) U U)<|a_ 1 U<|RK A2<|aF<|ig 3<|de fun R19 c=>WS fun _ A3=>rS (SX (bw (r:= .bool true) U U U fj) U U)<|RK A3<|al fun _ A4=>aX U<|WK A4<|al fun _ X=>aF<|WS fun _ A5=>rS (SX (nY (v:=(vI (y.Lo+1))) 0 U U U AH cz U dc U) U U)<|a_ 1 U<|RK A5<|WS fun _ M=>rP 4 [] (mr 5 U I) ?_
 refine bH (t:=43) U (bM fun q=>?_) (bL fun q=>?_)
 ·refine a_ 14 U<|RK M<|aM U<|cJ<|aH<|KK X<|au<|rS (SX (bw (r:= .int .i64 1) U U U (fG ⟨dc,dc⟩)) U U)<|a_ 1 U<|RK c<|de fun R73 g=>WS fun _ C0=>rS (SX (bw (r:= .bool true) U U U fj) U U)<|RK C0<|al fun _ C1=>aX U<|WK C1<|al fun _ b=>aF<|WS fun _ C2=>rS (SX (nY (v:=(vI (y.Hi+1))) 1 U U U AH cz U dc U) U U)<|a_ 1 U<|RK C2<|WS fun _ P=>rP 4 [] (mr 5 U I) ?_
  refine bH (t:=43) U (bM fun Fn=>?_) (bL fun Fn=>?_)
  ·refine a_ 14 U<|RK P<|aM U<|cJ<|aH<|KK b<|au<|rS (SX (bw (r:= .int .i64 2) U U U (fG ⟨dc,dc⟩)) U U)<|rP 1 [] I ?_
   refine RK g<|de fun R91 Kn=>WS fun _ Do=>rS (SX (bw (r:= .bool false) U U U fj) U U)<|RK Do<|al fun _ J4=>aM U<|bq<|ah<|ah<|aD<|aH<|fm 6 U ef U ?_
   refine bc (G ⟨((bR left x),ys,A),⟨jn hn hm B D (fun n C=>by first|exact C|(simp [C]; done)) (fun n C=>by exact .inl C) (fun L n C K=>by simp only [cO,List.not_mem_nil,or_false] at C; rcases C with rfl|rfl<;>first|(simp; done)|(exfalso; omega)),eG B,E,F⟩⟩ _ _ _ rfl (dD hm) (aT rfl) (aJ [1,2,3,4,5,6,7]))
  refine hE 5 [] (mc 1 U I) U<|ck (xs:=[.tmp 48]) (cs:=[(vI (y.Hi+1))]) U b0 gI U U U U (by simp [Value.cells]) U U fun Eq=>rS (CL (dQ.eq (il ((ar m i).Lo) ((ar m i).Hi) ([(y.Hi+1)]) (some ⟨Eq,0,none⟩) 1 om) bZ) (ae (aP 0 U U (by simp [aW]) U)<|aC) U)<|rP 2 [] I ?_
  refine bH (t:=52) U (aZ fun GE=>?_) (aY fun GE=>?_)
  ·refine a_ 5 U<|RK P<|aM U<|cJ<|aH<|KK b<|au<|rS (SX (bw (r:= .int .i64 2) U U U (fG ⟨dc,dc⟩)) U U)<|rP 1 [] I ?_
   refine RK g<|de fun R88 Ke=>WS fun _ Di=>rS (SX (bw (r:= .bool false) U U U fj) U U)<|RK Di<|al fun _ J3=>aM U<|bq<|ah<|ah<|aD<|aH<|fm 7 U ef U ?_
   refine bc (G ⟨((bR left x),ys,A),⟨jn hn hm B D (fun n C=>by first|exact C|(simp [C]; done)) (fun n C=>by exact .inl C) (fun L n C K=>by simp only [cO,List.not_mem_nil,or_false] at C; rcases C with rfl|rfl<;>first|(simp; done)|(exfalso; omega)),eG B,E,F⟩⟩ _ _ _ rfl (dD hm) (aT rfl) (aJ [2,3,4,5,6,7,8]))
  refine rP 2 [] I ?_
  refine iE (k:=ys) (k':=(ys++[((y.Hi+1))])) 8 (by first|exact hsz|exact Nat.le_refl _) hY E F U U U (by exact ⟨_,ka (B _ hm) dso (by first|exact .inl rfl|exact .inr U) om,U,U⟩) U U (fun B82 W T=>?_) (fun B82 W T=>?_)
  rotate_left 1
  ·refine rP 2 [] I ?_
   refine RK P<|aX U<|aB ?_
   refine hQ _ _ _ (fr (vs:=[]) trivial fun w hs=>oB 8 U W T hs)
  refine a_ 2 U<|RK P<|aM U<|cJ<|aH<|KK b<|au<|rS (SX (bw (r:= .int .i64 2) U U U (fG ⟨dc,dc⟩)) U U)<|rP 1 [] I ?_
  refine RK g<|de fun R85 Kd=>WS fun _ C5=>rS (SX (bw (r:= .bool false) U U U fj) U U)<|RK C5<|al fun _ J2=>aM U<|bq<|ah<|ah<|aD<|aH<|fm 7 U ef U ?_
  refine bc (G ⟨((bR left x),(ys++[((y.Hi+1))]),B82),⟨jn hn hm B D (fun n C=>by first|exact C|(simp [C]; done)) (fun n C=>by (simp only [jH,bD] at C; rcases C with C|rfl<;>first|exact .inl C|exact .inr (ka (B _ hm) dso sm om))) (fun L n C K=>by simp only [cO,List.not_mem_nil,or_false] at C; rcases C with rfl|rfl<;>first|(simp; done)|(exfalso; omega)),eG B,W,T⟩⟩ _ _ _ rfl (dD hm) (aT rfl) (aJ [2,3,4,5,6,7,8]))
 refine rP 5 [] (mc 1 U I) ?_
 refine ck (xs:=[.tmp 48]) (cs:=[(vI (y.Lo+1))]) U b0 gI U U U U (by simp [Value.cells]) U U fun EB=>?_
 refine rS (CL (dQ.eq (il ((ar m i).Lo) ((ar m i).Hi) ([(y.Lo+1)]) (some ⟨EB,0,none⟩) 1 (by (simp; done))) bZ) (ae (aP 0 U U (by simp [aW]) U)<|aC) U) ?_
 refine rP 2 [] I ?_
 refine bH (t:=52) U (aZ fun E9=>?_) (aY fun E9=>?_)
 ·refine a_ 5 U<|RK M<|aM U<|cJ<|aH<|KK X<|au<|rS (SX (bw (r:= .int .i64 1) U U U (fG ⟨dc,dc⟩)) U U)<|a_ 1 U<|RK c<|de fun R52 e=>WS fun _ B9=>rS (SX (bw (r:= .bool true) U U U fj) U U)<|RK B9<|al fun _ CP=>aX U<|WK CP<|al fun _ a=>aF<|WS fun _ CY=>rS (SX (nY (v:=(vI (y.Hi+1))) 1 U U U AH cz U dc U) U U)<|a_ 1 U<|RK CY<|WS fun _ O=>rP 4 [] (mr 6 U I) ?_
  refine bH (t:=43) U (bM fun Fd=>?_) (bL fun Fd=>?_)
  ·refine a_ 14 U<|RK O<|aM U<|cJ<|aH<|KK a<|au<|rS (SX (bw (r:= .int .i64 2) U U U (fG ⟨dc,dc⟩)) U U)<|rP 1 [] I ?_
   refine RK e<|de fun R70 KM=>WS fun _ Cx=>rS (SX (bw (r:= .bool false) U U U fj) U U)<|RK Cx<|al fun _ Jn=>aM U<|bq<|ah<|ah<|aD<|aH<|fm 7 U ef U ?_
   refine bc (G ⟨((bR left x),ys,A),⟨jn hn hm B D (fun n C=>by first|exact C|(simp [C]; done)) (fun n C=>by exact .inl C) (fun L n C K=>by simp only [cO,List.not_mem_nil,or_false] at C; rcases C with rfl|rfl<;>first|(simp; done)|(exfalso; omega)),eG B,E,F⟩⟩ _ _ _ rfl (dD hm) (aT rfl) (aJ [2,3,4,5,6,7,8]))
  refine rP 5 [] (mc 2 U I) ?_
  refine ck (xs:=[.tmp 48]) (cs:=[(vI (y.Hi+1))]) U b0 gI U U U U (by simp [Value.cells]) U U fun Ej=>?_
  refine rS (CL (dQ.eq (il ((ar m i).Lo) ((ar m i).Hi) ([(y.Hi+1)]) (some ⟨Ej,0,none⟩) 1 (by (simp; done))) bZ) (ae (aP 0 U U (by simp [aW]) U)<|aC) U) ?_
  refine rP 2 [] I ?_
  refine bH (t:=52) U (aZ fun Fj=>?_) (aY fun Fj=>?_)
  ·refine a_ 5 U<|RK O<|aM U<|cJ<|aH<|KK a<|au<|rS (SX (bw (r:= .int .i64 2) U U U (fG ⟨dc,dc⟩)) U U)<|rP 1 [] I ?_
   refine RK e<|de fun R67 J9=>WS fun _ Cp=>rS (SX (bw (r:= .bool false) U U U fj) U U)<|RK Cp<|al fun _ JQ=>aM U<|bq<|ah<|ah<|aD<|aH<|fm 8 U ef U ?_
   refine bc (G ⟨((bR left x),ys,A),⟨jn hn hm B D (fun n C=>by first|exact C|(simp [C]; done)) (fun n C=>by exact .inl C) (fun L n C K=>by simp only [cO,List.not_mem_nil,or_false] at C; rcases C with rfl|rfl<;>first|(simp; done)|(exfalso; omega)),eG B,E,F⟩⟩ _ _ _ rfl (dD hm) (aT rfl) (aJ [3,4,5,6,7,8,9]))
  refine rP 2 [] I ?_
  refine iE (k:=ys) (k':=(ys++[((y.Hi+1))])) 9 (by first|exact hsz|exact Nat.le_refl _) hY E F U U U (by exact ⟨_,ka (B _ hm) dso (by first|exact .inl rfl|exact .inr U) om,U,U⟩) U U (fun B61 V S=>?_) (fun B61 V S=>?_)
  rotate_left 1
  ·refine rP 2 [] I ?_
   refine RK O<|aX U<|aB ?_
   refine hQ _ _ _ (fr (vs:=[]) trivial fun w hs=>oB 9 U V S hs)
  refine a_ 2 U<|RK O<|aM U<|cJ<|aH<|KK a<|au<|rS (SX (bw (r:= .int .i64 2) U U U (fG ⟨dc,dc⟩)) U U)<|rP 1 [] I ?_
  refine RK e<|de fun R64 J8=>WS fun _ Ck=>rS (SX (bw (r:= .bool false) U U U fj) U U)<|RK Ck<|al fun _ JO=>aM U<|bq<|ah<|ah<|aD<|aH<|fm 8 U ef U ?_
  refine bc (G ⟨((bR left x),(ys++[((y.Hi+1))]),B61),⟨jn hn hm B D (fun n C=>by first|exact C|(simp [C]; done)) (fun n C=>by (simp only [jH,bD] at C; rcases C with C|rfl<;>first|exact .inl C|exact .inr (ka (B _ hm) dso sm om))) (fun L n C K=>by simp only [cO,List.not_mem_nil,or_false] at C; rcases C with rfl|rfl<;>first|(simp; done)|(exfalso; omega)),eG B,V,S⟩⟩ _ _ _ rfl (dD hm) (aT rfl) (aJ [3,4,5,6,7,8,9]))
 refine rP 2 [] I ?_
 refine iE (k:=ys) (k':=(ys++[((y.Lo+1))])) 8 (by first|exact hsz|exact Nat.le_refl _) hY E F U U U (by exact ⟨_,ka (B _ hm) dso (by first|exact .inl rfl|exact .inr U) om,U,U⟩) U U (fun B28 AB H=>?_) (fun B28 AB H=>?_)
 rotate_left 1
 ·refine rP 2 [] I ?_
  refine RK M<|aX U<|aB ?_
  refine hQ _ _ _ (fr (vs:=[]) trivial fun w hs=>oB 8 U AB H hs)
 refine a_ 2 U<|RK M<|aM U<|cJ<|aH<|KK X<|au<|rS (SX (bw (r:= .int .i64 1) U U U (fG ⟨dc,dc⟩)) U U)<|a_ 1 U<|RK c<|de fun R31 d=>WS fun _ A6=>rS (SX (bw (r:= .bool true) U U U fj) U U)<|RK A6<|al fun _ A7=>aX U<|WK A7<|al fun _ Y=>aF<|WS fun _ A8=>rS (SX (nY (v:=(vI (y.Hi+1))) 1 U U U AH cz U dc U) U U)<|a_ 1 U<|RK A8<|WS fun _ N=>rP 4 [] (mr 6 U I) ?_
 refine bH (t:=43) U (bM fun FS=>?_) (bL fun FS=>?_)
 ·refine a_ 14 U<|RK N<|aM U<|cJ<|aH<|KK Y<|au<|rS (SX (bw (r:= .int .i64 2) U U U (fG ⟨dc,dc⟩)) U U)<|rP 1 [] I ?_
  refine RK d<|de fun R49 J7=>WS fun _ B3=>rS (SX (bw (r:= .bool false) U U U fj) U U)<|RK B3<|al fun _ JK=>aM U<|bq<|ah<|ah<|aD<|aH<|fm 7 U ef U ?_
  refine bc (G ⟨((bR left x),(ys++[((y.Lo+1))]),B28),⟨jn hn hm B D (fun n C=>by first|exact C|(simp [C]; done)) (fun n C=>by (simp only [jH,bD] at C; rcases C with C|rfl<;>first|exact .inl C|exact .inr (ka (B _ hm) dso sm om))) (fun L n C K=>by simp only [cO,List.not_mem_nil,or_false] at C; rcases C with rfl|rfl<;>first|(simp; done)|(exfalso; omega)),eG B,AB,H⟩⟩ _ _ _ rfl (dD hm) (aT rfl) (aJ [2,3,4,5,6,7,8]))
 refine rP 5 [] (mc 2 U I) ?_
 refine ck (xs:=[.tmp 48]) (cs:=[(vI (y.Hi+1))]) U b0 gI U U U U (by simp [Value.cells]) U U fun EQ=>?_
 refine rS (CL (dQ.eq (il ((ar m i).Lo) ((ar m i).Hi) ([(y.Hi+1)]) (some ⟨EQ,0,none⟩) 1 (by (simp; done))) bZ) (ae (aP 0 U U (by simp [aW]) U)<|aC) U) ?_
 refine rP 2 [] I ?_
 refine bH (t:=52) U (aZ fun FZ=>?_) (aY fun FZ=>?_)
 ·refine a_ 5 U<|RK N<|aM U<|cJ<|aH<|KK Y<|au<|rS (SX (bw (r:= .int .i64 2) U U U (fG ⟨dc,dc⟩)) U U)<|rP 1 [] I ?_
  refine RK d<|de fun R46 J6=>WS fun _ Bi=>rS (SX (bw (r:= .bool false) U U U fj) U U)<|RK Bi<|al fun _ In=>aM U<|bq<|ah<|ah<|aD<|aH<|fm 8 U ef U ?_
  refine bc (G ⟨((bR left x),(ys++[((y.Lo+1))]),B28),⟨jn hn hm B D (fun n C=>by first|exact C|(simp [C]; done)) (fun n C=>by (simp only [jH,bD] at C; rcases C with C|rfl<;>first|exact .inl C|exact .inr (ka (B _ hm) dso sm om))) (fun L n C K=>by simp only [cO,List.not_mem_nil,or_false] at C; rcases C with rfl|rfl<;>first|(simp; done)|(exfalso; omega)),eG B,AB,H⟩⟩ _ _ _ rfl (dD hm) (aT rfl) (aJ [3,4,5,6,7,8,9]))
 refine rP 2 [] I ?_
 refine iE (k:=(ys++[((y.Lo+1))])) (k':=((ys++[((y.Lo+1))])++[((y.Hi+1))])) 9 (by first|exact hsz|exact Nat.le_refl _) hY AB H U U U (by exact ⟨_,ka (B _ hm) dso (by first|exact .inl rfl|exact .inr U) om,U,U⟩) U U (fun B40 AA R=>?_) (fun B40 AA R=>?_)
 rotate_left 1
 ·refine rP 2 [] I ?_
  refine RK N<|aX U<|aB ?_
  refine hQ _ _ _ (fr (vs:=[]) trivial fun w hs=>oB 9 U AA R hs)
 refine a_ 2 U<|RK N<|aM U<|cJ<|aH<|KK Y<|au<|rS (SX (bw (r:= .int .i64 2) U U U (fG ⟨dc,dc⟩)) U U)<|rP 1 [] I ?_
 refine RK d<|de fun R43 J5=>WS fun _ A9=>rS (SX (bw (r:= .bool false) U U U fj) U U)<|RK A9<|al fun _ If=>aM U<|bq<|ah<|ah<|aD<|aH<|fm 8 U ef U ?_
 refine bc (G ⟨((bR left x),((ys++[((y.Lo+1))])++[((y.Hi+1))]),B40),⟨jn hn hm B D (fun n C=>by first|exact C|(simp [C]; done)) (fun n C=>by (simp only [jH,bD] at C; rcases C with (C|rfl)|rfl<;>first|exact .inl C|exact .inr (ka (B _ hm) dso sm om))) (fun L n C K=>by simp only [cO,List.not_mem_nil,or_false] at C; rcases C with rfl|rfl<;>first|(simp; done)|(exfalso; omega)),eG B,AA,R⟩⟩ _ _ _ rfl (dD hm) (aT rfl) (aJ [3,4,5,6,7,8,9]))
theorem Dc (gw:Nat) (i:Int):
 kd Tryz.prog 70 [(vP gw),(vI i)] [] (fun (x:Nat×Nat)=>(Value.func (.func 96) [].toArray [(Value.pointer (some ⟨x.1,0,none⟩)),(Value.pointer (some ⟨x.2,0,none⟩))].toArray)) (fun (x:Nat×Nat)=>True) (fun (x:Nat×Nat)=>[(bJ x.1 81 [(vP gw)]),(bJ x.2 3 [(vI i)])]):=by
 refine cS kr Tryz.func70 U U fun E Q hQ hN=>?_
 try dsimp only
 refine WS fun _ A=>qo U U fun C=>qo U U fun D=>a_ 1 U<|RK A<|WS fun _ B=>rS (FU U)<|rP 1 [] I ?_
 refine RK B<|aB<|LX hQ (C,D) [1,0] [] I U U U U ?_
 trivial
end
section
open Go.RowKit
theorem uX (r:bQ) (kA:OA) (kC:Nat) (cA:OA) (cC:Nat) (bA:OA) (bC:Nat) (slA:OA) (slC:Nat) (drA:OA) (drC:Nat) (heA:OA) (heC:Nat) (tA:OA) (tN tC:Nat) (gs gw:Nat) (m:fp) (i:Int) (hb: ∀ p∈m,0≤p.2.Lo∧p.2.Lo≤p.2.Hi∧p.2.Hi≤30000000) (hi:m.lookup i≠none) (hm12:m.length≤12):
 kd Tryz.prog 44 [(vP gw),(vI i)] [(bJ gw 91 (eu.cells (eu.mk (nM r kA kC cA cC bA bC slA slC drA drC heA heC) (ba.mk tA tN tC) (Value.map (some gs))))),(fJ iV gs (bo cW m))] (fun (x:(OA)×Nat)=>(vS x.1 ((cR m i (ar m i)).length) x.2)) (fun (x:(OA)×Nat)=>True) (fun (x:(OA)×Nat)=>[(own x.1 x.2 3 1 ((cR m i (ar m i)).map iC))]):=by
 refine cS kr Tryz.func44 U U fun w0 Q hQ hN=>?_
 try dsimp only
 refine WS fun _ GT=>qo U U fun b2=>qo U U fun b3=>rP 1 [] I ?_
 refine RK GT<|WS fun _ Go=>lY (kV:=iV) U U fun AA=>?_
 try dsimp only
 refine AL U M8 fun b6=>CD U NN U U<|RK Go<|al fun _ Hl=>WS fun _ H1=>hE 1 [] (mc 3 U I) U<|rS (SX (bk U U) U U)<|hE 2 [] (mr 4 U I) U<|rS (SX (yu U U lf (by exact jr 5 U)) U U)<|rP 1 [] I ?_
 refine RK H1<|aF ?_
 have A:(0≤m.length)∧(gv ([]:nG) (fun u=>1≤u∧u≤(0:Int))):=by exact ⟨Nat.zero_le _,Gf fun k=>by omega⟩
 refine bX (ι:={z:Nat×nG // (z.1≤m.length)∧(gv z.2 (fun u=>1≤u∧u≤(z.1:Int)))}) [2,3,5,20] [0,2,3,4,5] U U (fun z=>[(21,(vI (z.1.1:Int)))]) (fun z=>[(fJ iV AA (bo vB z.1.2))]) (fun _=>rfl) (fun _=>rfl) (fun z=>m.length-z.1.1) ⟨(0,([]:nG)),A⟩ (aT U) (aJ [0,2,3,4,5,1]) ?_
 clear A
 rintro ⟨⟨n,nv⟩,⟨j,K⟩⟩ J9 GE
 try dsimp only at j K
 try dsimp only
 refine WS fun _ A1=>rP 1 [] I ?_
 refine RK A1<|al fun _ A2=>dF U (aY fun Fd=>?_) (aZ fun Fd=>?_)
 ·refine WK A2<|al fun _ A3=>aF<|WS fun _ A4=>a_ 2 U<|RK A4<|au<|hE 3 [] (mc 0 U I) U<|im (kV:=iV) (x:=((n:Int)+1)) (C':=[_,_,_,_,_,(fJ iV AA (bo vB (dB nv ((n:Int)+1) true)))]) 5 U U U U xw (dv nO) U (fE _ _ _ _).symm U<|aG<|aH<|KK A3<|au<|rP 2 [] I ?_
  refine aG ?_
  have Ej:(vI (((n+1):Nat):Int))=(vI ((n:Int)+1)):=by exact cI om
  refine bc (GE ⟨((n+1),(dB nv ((n:Int)+1) true)),⟨om,(D6 K om).s_ fun k=>by omega⟩⟩ _ _ _ U os (du 4<|bO U Ej<|ew.nil _) (aJ [0,1,2,3,4,5]))
 refine bq<|ah<|ah<|aD<|KK Hl<|WS fun _ A5=>rP 1 [] (mc 0 U I) ?_
 refine cX (DR nv AA) (bj [5]) U fun G J6=>?_
 try dsimp only
 refine a_ 1 U<|RK A5<|al fun _ A6=>WS fun _ A7=>rP 2 [0,1] (mc 3 U (mc 2 U I)) ?_
 refine cX (Dc gw i) (aC) U fun JK J7=>?_
 obtain ⟨Z,c⟩:=JK
 try dsimp only
 refine RK A7<|aF<|iG 6 U (by exact fun _ h=>h)<|iG 8 U (by exact fun _ h=>h) ?_
 refine ko (L0:=[(2,(vP b2)),(3,(vP b3)),(5,(vP b6)),(7,(Value.map (some G)))]) (F:=[(bJ gw 91 (eu.cells (eu.mk (nM r kA kC cA cC bA bC slA slC drA drC heA heC) (ba.mk tA tN tC) (Value.map (some gs))))).ro,(fJ iV gs (bo cW m)).ro,(bJ Z 81 [(vP gw)]),(bJ c 3 [(vI i)])]) (fun k (y:nG)=>(gv y (p5 m i k))) (fun k y=>[(fJ iV G (bo vB nv)),(bJ b6 67 [(Value.map (some AA))]),(bJ b3 3 [(vI i)]),(bJ b2 81 [(vP gw)]),(bJ gw 91 (eu.cells (eu.mk (nM r kA kC cA cC bA bC slA slC drA drC heA heC) (ba.mk tA tN tC) (Value.map (some gs))))).ro,(fJ iV gs (bo cW m)).ro,(fJ iV AA (bo vB y))]) (fun _ (_:Unit)=>False) (fun _ _=>[]) [4,5,6,7,8,9,10] [1,0,2,3] nv rfl rfl (Cl r kA kC cA cC bA bC slA slC drA drC heA heC tA tN tC gs gw m i Z c (by exact hb)) rfl rfl rfl (by exact ED (K.s_ fun k=>by omega)) (by simp only [List.forall_mem_cons,List.not_mem_nil,false_imp_iff,implies_true,and_true]; exact ⟨⟨_,sm,(dT (bI _))⟩,⟨_,sm,(dT (bI _))⟩,⟨_,sm,(bI _)⟩,⟨_,sm,(bI _)⟩⟩) (by rintro k x k2 ⟨n,_,rfl,_⟩; rfl) rfl (aT rfl) ?_ ?_ (fun _ _ _ h=>h.elim) (fun _ _ h=>h.elim)
 rotate_left 1
 ·rintro LE k nw Eq g
  have T:=g
  try dsimp only
  refine aH<|KK A6<|al fun _ C5=>WS fun _ Di=>rP 1 [] (mc 6 U I) ?_
  refine ql 11 U U xw U U fun If=>?_
  try dsimp only
  refine RK Di<|aF ?_
  have A:(∀ p∈nw,p∈nw)∧(gv nv (fun u=>(1≤u∧u≤(m.length:Int))∧ ¬ (p5 m i k u∧u ∉ nw.map (·.1)))):=by exact ⟨fun p hp=>hp,K.s_ fun u=>⟨fun q=>⟨om,fun z=>z.2 ((T.2 u).2 z.1)⟩,fun q=>by omega⟩⟩
  refine bX (ι:={z:nG×nG // (∀ p∈z.1,p∈nw)∧(gv z.2 (fun u=>(1≤u∧u≤(m.length:Int))∧ ¬ (p5 m i k u∧u ∉ z.1.map (·.1))))}) [7,68] [0,1,2,9,10] U U (fun z=>[]) (fun z=>[(fJ iV G (bo vB z.1.2)),(tG iV If AA (bo vB nw) (bo vB z.1.1) none)]) (fun _=>rfl) (fun _=>rfl) (fun z=>z.1.1.length) ⟨(nw,nv),A⟩ (ew.nil _) (aJ [0,1,2,9,10,5,11]) ?_
  clear A
  rintro ⟨⟨left,rk⟩,⟨AB,J⟩⟩ J55 A0
  try dsimp only at AB J
  try dsimp only
  refine WS fun _ X=>oY (dv nO).inj (f:=Value.bool) 6 U U U U (fun Fn=>?_) (fun u v E9 Ke=>?_)
  rotate_left 1
  ·try dsimp only
   refine a_ 1 U<|RK X<|al fun _ EB=>aX U<|WK EB<|aF<|WS fun _ EQ=>rS (SX (o2 6 U U U) U U)<|a_ 2 U<|RK EQ<|au<|rP 2 [] I ?_
   refine mz (kV:=iV) (x:=u) (C':=[_,_,_,_,_,(fJ iV G (bo vB (bR rk u))),_]) 5 U U U U xw (dv nO) U (jI _ _ _).symm U<|aG<|aH<|fm 6 U rJ U ?_
   refine bc (A0 ⟨((bR left u),(bR rk u)),⟨eG AB,GX AB T E9 J⟩⟩ _ _ _ U (dD E9) (aT U) (aJ [0,1,2,3,4,5,6]))
  refine rP 1 [] I ?_
  refine RK X<|al fun _ J5=>aM U<|bq<|ah<|ah<|aD<|KK C5<|WS fun _ Do=>?_
  have FS:gv rk (fun u=>(1≤u∧u≤(m.length:Int))∧ ¬ p5 m i k u):=J.s_ fun u=>⟨fun q=>⟨q.1,fun z=>q.2 ⟨z,by rw [Fn]; simp⟩⟩,fun q=>⟨q.1,fun z=>q.2 z.1⟩⟩
  have Y:cp (rk.map (·.1))=(cR m i (ar m i)):=zh hi Eq FS
  have K0:rk.length≤m.length:=C9 FS fun k q=>q.1
  have IE:rk.length=(cR m i (ar m i)).length:=by rw [← Y]; simp
  refine rP 1 [] I ?_
  refine cX (HG G) (aC) U fun FZ J8=>?_
  try dsimp only
  refine cX (Cj rk G FZ om) (bj [6,0]) U fun JO KM=>?_
  obtain ⟨o,AC⟩:=JO
  try dsimp only
  rw [Y]
  refine rP 1 [] I ?_
  refine RK Do<|aB<|hQ _ _ _ (lK 2 U U<|fr (vs:=[(vS o rk.length AC)]) ⟨U,trivial⟩ fun w hs=>FB (o,AC) [0] ?_ ?_ U U U hs)
  ·(rw [← IE]; rfl)
  ·trivial
 rintro k x k2 nw l ra rb S w1 K26 Qr27 K8 hx e A8 d In JQ
 obtain ⟨n,Kn,rfl,rfl⟩:=hx
 have T:=e
 try dsimp only
 refine au<|rP 1 [] I ?_
 refine aG<|bc (A8 _ _ ?_)
 refine aF<|WS fun _ A9=>a_ 2 U<|RK A9<|al fun _ Bi=>WS fun _ B3=>hE 1 [] (mc 4 U I) U<|rS (SX (bk U U) U U)<|rP 2 [] (mr 5 U I) ?_
 refine ic (kV:=iV) (m:=bo cW m) 6 U U lf U ⟨U,fun h=>h⟩ (by exact jr 6 U) U fun Id=>?_
 try dsimp only
 refine RK B3<|aF ?_
 have A:((1:Int)+(gd m i n:Int)=1+(gd m i n:Int))∧((1:Int)+(jd m i n:Int)=1+(jd m i n:Int))∧(∀ p∈m,p∈m)∧(1≤(1:Int)∧1≤(1:Int)):=by exact ⟨rfl,rfl,fun p hp=>hp,om⟩
 refine bX (ι:={z:fp×Int×Int // (z.2.1+(gd z.1 i n:Int)=1+(gd m i n:Int))∧(z.2.2+(jd z.1 i n:Int)=1+(jd m i n:Int))∧(∀ p∈z.1,p∈m)∧(1≤z.2.1∧1≤z.2.2)}) [2,3,5,7,8,38] [1,2,3,4,5,6,7,8] U U (fun z=>[(9,(vI z.1.2.1)),(10,(vI z.1.2.2))]) (fun z=>[(ti iV Id gs (bo cW m) (bo cW z.1.1) none)]) (fun _=>rfl) (fun _=>rfl) (fun z=>z.1.1.length) ⟨(m,(1:Int),(1:Int)),A⟩ (aT U) (aJ [1,2,3,4,5,6,7,8,0]) ?_
 clear A
 rintro ⟨⟨left,s,t⟩,⟨C,D,B,R⟩⟩ J33 L
 try dsimp only at C D B R
 try dsimp only
 have IO:=z9 (m:=m) (i:=i) (n:=n)
 have IR:=Fl (m:=m) (i:=i) (n:=n)
 refine WS fun _ V=>gL (dv nO).inj (f:=cW) 8 U U U U (fun P=>?_) (fun x y hm hn=>?_)
 ·refine a_ 1 U<|RK V<|al fun _ J4=>aM U<|bq<|ah<|ah<|aD<|KK Bi<|WS fun _ B7=>rP 2 [] I ?_
  refine RK B7<|aF ?_
  have A:(s≤s∧(s≤t+1∨s=s))∧(gv nw (fun u=>p5 m i k u∧ ¬ (s≤u∧u<s))):=by exact ⟨⟨Int.le_refl _,.inr rfl⟩,T.s_ fun u=>⟨fun q=>⟨q,fun z=>by omega⟩,fun q=>q.1⟩⟩
  refine bX (ι:={z:Int×nG // (s≤z.1∧(z.1≤t+1∨z.1=s))∧(gv z.2 (fun u=>p5 m i k u∧ ¬ (s≤u∧u<z.1)))}) [2,3,5,7,8,9,10] [0,1,2,3,4,5,6,8] U U (fun z=>[(13,(vI z.1.1))]) (fun z=>[(fJ iV AA (bo vB z.1.2))]) (fun _=>rfl) (fun _=>rfl) (fun z=>(t+1-z.1.1).toNat) ⟨(s,nw),A⟩ (aT U) (aJ [0,1,2,3,4,5,6,8,7]) ?_
  clear A
  rintro ⟨⟨q,n2⟩,⟨N,H⟩⟩ J37 AO
  try dsimp only at N H
  try dsimp only
  have IO:=z9 (m:=m) (i:=i) (n:=n)
  have IR:=Fl (m:=m) (i:=i) (n:=n)
  have K4:s=1+(gd m i n:Int):=by rw [P] at C; simp only [ue] at C; omega
  have K5:t=1+(jd m i n:Int):=by rw [P] at D; simp only [wm] at D; omega
  refine al fun _ B9=>WS fun _ CP=>rP 3 [] I ?_
  refine RK CP<|cu U (aZ fun Fj=>?_) (aY fun Fj=>?_)
  ·refine bq<|ah<|ah<|aD<|aH ?_
   exact d n2 _ _ (by exact Fc (a:=s) (b:=t) (by rw [P,ue] at C; omega) (by rw [P,wm] at D; omega) (H.s_ fun u=>⟨fun z=>⟨z.1,fun w=>z.2 om⟩,fun z=>⟨z.1,fun w=>z.2 om⟩⟩)) (aJ [0,1,2,3,4,5,6,8])
  refine WK B9<|al fun _ CY=>aF<|au<|hE 2 [] (mc 2 U I) U<|mz (kV:=iV) (x:=q) (C':=[_,_,_,_,_,_,_,_,(fJ iV AA (bo vB (bR n2 q)))]) 8 U U U U xw (dv nO) U (jI _ _ _).symm U<|aG<|aH<|KK CY<|au<|rP 3 [] I ?_
  refine aG ?_
  refine bc (AO ⟨((q+1),(bR n2 q)),⟨om,yW N.1 H⟩⟩ _ _ _ U dso (aT U) (aJ [0,1,2,3,4,5,6,7,8]))
 try dsimp only
 refine a_ 1 U<|RK V<|al fun _ Ci=>aX U<|WK Ci<|aF<|WS fun _ Ck=>rS (SX (gJ 8 U U U) U U)<|a_ 2 U<|AL U dK fun Kd=>a_ 1 U<|fw U cT U<|RK Ck<|al fun _ Cp=>WS fun _ Cx=>rP 3 [] (mc 4 U I) ?_
 refine RK Cx<|dF U (aY fun E=>?_) (aZ fun E=>?_)
 ·refine bq<|ah<|aD<|fm 9 U ef U ?_
  refine bc (L ⟨((bR left x),s,t),(by refine ⟨?_,?_,eG B,?_⟩<;>dsimp only <;>first|omega|(rw [← BA hn hm E]; omega)|(rw [← D8 hn hm E]; omega))⟩ _ _ _ U (dD hm) (aT U) (aJ [1,2,3,4,5,6,7,8,9]))
 refine WK Cp<|al fun _ W=>WS fun _ C0=>rP 4 [] (mc 0 U I) ?_
 refine RK C0<|cu U (aZ fun O=>?_) (aY fun O=>?_)
 ·refine WK W<|WS fun _ C2=>rP 4 [] (mc 0 U I) ?_
  refine RK C2<|cu U (aZ fun M=>?_) (aY fun M=>?_)
  ·refine cJ<|aH<|fm 9 U ef U ?_
   refine bc (L ⟨((bR left x),s,t),(by refine ⟨?_,?_,eG B,?_⟩<;>dsimp only <;>first|omega|(have:=wE hn hm E O; omega)|(have:=z8 hn hm E M; omega))⟩ _ _ _ U (dD hm) (aT U) (aJ [1,2,3,4,5,6,7,8,9]))
  refine au<|rP 3 [] I ?_
  refine aG<|aH<|fm 9 U ef U ?_
  refine bc (L ⟨((bR left x),s,(t+1)),(by refine ⟨?_,?_,eG B,?_⟩<;>dsimp only <;>first|omega|(have:=wE hn hm E O; omega)|(have:=wD hn hm E M; omega))⟩ _ _ _ U (dD hm) (aT U) (aJ [1,2,3,4,5,6,7,8,9]))
 refine au<|a_ 3 U<|RK W<|WS fun _ C1=>rP 4 [] (mc 0 U I) ?_
 refine RK C1<|cu U (aZ fun M=>?_) (aY fun M=>?_)
 ·refine cJ<|aH<|fm 9 U ef U ?_
  refine bc (L ⟨((bR left x),(s+1),t),(by refine ⟨?_,?_,eG B,?_⟩<;>dsimp only <;>first|omega|(have:=tY hn hm E O; omega)|(have:=z8 hn hm E M; omega))⟩ _ _ _ U (dD hm) (aT U) (aJ [1,2,3,4,5,6,7,8,9]))
 refine au<|rP 3 [] I ?_
 refine aG<|aH<|fm 9 U ef U ?_
 refine bc (L ⟨((bR left x),(s+1),(t+1)),(by refine ⟨?_,?_,eG B,?_⟩<;>dsimp only <;>first|omega|(have:=tY hn hm E O; omega)|(have:=wD hn hm E M; omega))⟩ _ _ _ U (dD hm) (aT U) (aJ [1,2,3,4,5,6,7,8,9]))
end
section
open Go.RowKit
theorem Hr (i:Int) (r:bQ) (kA:OA) (kC:Nat) (az:List RA) (cA:OA) (cC:Nat) (bA:OA) (bC:Nat) (slA:OA) (slC:Nat) (drA:OA) (drC:Nat) (ha:List cb) (heA:OA) (heC:Nat) (hin:dG r az ha):
 kd Tryz.prog 28 [(vA (bV.cells (nM r kA kC cA cC bA bC slA slC drA drC heA heC))),(vI i)] [(rd dH 3 2 c4),(rd kA r.ai.aO.length 9 (r.ai.aO.map ao.cells)),(rd cA r.ai.ak.length 2 (List.zipWith aA.cells r.ai.ak az)),(eR (aR aA.jx r.ai.ak az)),(rd bA r.ai.ag.length 4 (r.ai.ag.map bG.cells)),(rd slA r.aI.length 1 (r.aI.map iC)),(rd drA r.bu.length 1 (r.bu.map iC)),(rd heA r.aq.length 1 (List.zipWith cm r.aq ha)),(eR (aR ja r.aq ha))] (fun (x:(OA)×Nat)=>(vT [(vS x.1 ((gF r i).length) x.2),(vI (gU r i))])) (fun (x:(OA)×Nat)=>True) (fun (x:(OA)×Nat)=>[(own x.1 x.2 3 1 ((gF r i).map iC))]):=by
 have V:=hin.line
 have k:=hin.g9
 have l:=hin.has
 have c:=hin.gT
 have Z:=hin.draw
 have d:=dy (r:=r)
 refine cS kr Tryz.func28 U U fun o Q hQ hN=>?_
 try dsimp only
 refine WS fun _ AA=>g5 U fun n=>a_ 2 U<|RK AA<|WS fun _ G=>rP 2 [] (mc 0 U I) ?_
 refine ck (xs:=[.tmp 11]) (cs:=[(vI i)]) U b0 gI U U U U (by simp [Value.cells]) U U fun h=>cX (tT r kA kC az cA cC bA bC slA slC drA drC ha heA heC i h hin) (bj [2,3,4,5,6,7,8,9,10,0]) U fun m L=>?_
 obtain ⟨M,j,T,S,N,O,vM,f,g⟩:=m
 cases M
 ·obtain ⟨H,he⟩:=L.2 rfl
  try dsimp only at H he
  subst H
  try dsimp only [cond_true,cond_false,List.cons_append,List.nil_append]
  refine a_ 7 U<|RK G<|al fun _ Y=>WS fun _ B=>rP 2 [] I ?_
  refine RK B<|cu U (bM fun A=>?_) (bL fun A=>?_)
  ·exact absurd A he
  refine WS fun _ C=>dw 3 1 ?_
  rw [show (own none 0 3 1 ([]:List (List Value)))=own none 0 3 1 ((gF r i).map iC) from by rw [ui he]; rfl]
  refine a_ 1 U<|rP 2 [] I ?_
  refine RK C<|aB ?_
  refine LX hQ (none,0) [0] [] I U U U ?_ ?_
  ·(rw [ui he]; rfl)
  ·trivial
 obtain ⟨he,W⟩:=L.1 rfl
 try dsimp only [cond_true,cond_false,List.cons_append,List.nil_append]
 try dsimp only at W
 obtain ⟨J,a,AB⟩:=tL he
 have K:=lR J
 have b:=l8 J
 refine a_ 7 U<|RK G<|al fun _ D=>WS fun _ E=>a_ 1 U<|rS (SX (bw (r:= .bool false) U U U lp) U U)<|RK E<|aM U<|WK D<|WS fun _ F=>rP 2 [] I ?_
 refine cX (uX r kA kC cA cC bA bC slA slC drA drC heA heC N ((cr r).length) O S T (ax r) i (by exact K) (by exact AB) om) (bj [0,3]) U fun X e=>?_
 obtain ⟨P,R⟩:=X
 try dsimp only
 rw [show (cR (ax r) i (ar (ax r) i))=gF r i from (AW he).symm]
 refine rP 2 [] I ?_
 refine RK F<|aB ?_
 refine LX hQ (P,R) [0] [] I U U U ?_ ?_
 ·(rw [he]; rfl)
 ·trivial
theorem xx (a b:Int) (r:bQ) (kA:OA) (kC:Nat) (az:List RA) (cA:OA) (cC:Nat) (bA:OA) (bC:Nat) (slA:OA) (slC:Nat) (drA:OA) (drC:Nat) (ha:List cb) (heA:OA) (heC:Nat) (hin:dG r az ha):
 dQ Tryz.prog 15 [(vA (bV.cells (nM r kA kC cA cC bA bC slA slC drA drC heA heC))),(vI a),(vI b)] [(rd dH 3 2 c4),(rd kA r.ai.aO.length 9 (r.ai.aO.map ao.cells)),(rd cA r.ai.ak.length 2 (List.zipWith aA.cells r.ai.ak az)),(eR (aR aA.jx r.ai.ak az)),(rd bA r.ai.ag.length 4 (r.ai.ag.map bG.cells)),(rd slA r.aI.length 1 (r.aI.map iC)),(rd drA r.bu.length 1 (r.bu.map iC)),(rd heA r.aq.length 1 (List.zipWith cm r.aq ha)),(eR (aR ja r.aq ha))] (vT [(Value.int .u8 (qc r a b)),(vI (je r a b))]):=by
 have M:=hin.line
 have k:=hin.g9
 have l:=hin.has
 have V:=hin.gT
 have R:=hin.draw
 have W:=dy (r:=r)
 refine bx kr Tryz.func15 U U fun p Q hQ hN=>?_
 try dsimp only
 refine WS fun _ L=>g5 U fun o=>a_ 2 U<|RK L<|WS fun _ H=>rP 3 [] (mc 0 U I) ?_
 refine ck (xs:=[.tmp 13,.tmp 14]) (cs:=[(vI a),(vI b)]) U b0 gI U U U U (by simp [Value.cells]) U U fun d=>cX (uc r kA kC az cA cC bA bC slA slC drA drC ha heA heC a b d hin) (bj [2,3,4,5,6,7,8,9,10,0]) U fun m J=>?_
 obtain ⟨K,e,g,f,Z,c,vM,X,Y⟩:=m
 cases K
 ·obtain ⟨AB,he⟩:=J.2 rfl
  try dsimp only at AB he
  subst AB
  try dsimp only [cond_true,cond_false,List.cons_append,List.nil_append]
  refine a_ 7 U<|RK H<|al fun _ P=>WS fun _ C=>rP 2 [] I ?_
  refine RK C<|cu U (bM fun B=>?_) (bL fun B=>?_)
  ·exact absurd B he
  refine WS fun _ D=>rP 3 [] I ?_
  refine RK D<|aB<|Q2 hQ U U U U ?_
  (rw [show qc r a b=0 from if_neg he]; done)
 obtain ⟨he,O⟩:=J.1 rfl
 try dsimp only [cond_true,cond_false,List.cons_append,List.nil_append]
 try dsimp only at O
 obtain ⟨N,S,T,AA⟩:=uo he
 have A:=lR N
 have h:=fg (i:=a) A
 have j:=fg (i:=b) A
 refine a_ 7 U<|RK H<|al fun _ E=>WS fun _ F=>a_ 1 U<|rS (SX (bw (r:= .bool false) U U U lp) U U)<|RK F<|aM U<|WK E<|al fun _ G=>dR cE 21 kr<|dP 1 [] I ?_
 refine dS (IA 0 U (aa (n:=2) 4 U sq) jZ dc U om) ?_
 refine dS (sV ((0*2)+1) U (aa (n:=([(ar (ax r) a),(ar (ax r) b)]).length) 4 U sm) (Nat.succ_pos _) fI U)<|dS (g4 0 1 (vI ((ar (ax r) a).Hi)) U cz (aa (n:=([(ar (ax r) a),(ar (ax r) b)]).length) 4 U sm) (show ([(ar (ax r) a),(ar (ax r) b)].map ab.cells)[0]? =some [(vI ((ar (ax r) a).Lo)),(vI ((ar (ax r) a).Hi))] from U) U dc U)<|dP 1 [] I ?_
 refine dS (IA 1 U (aa (n:=2) 4 U sq) jZ dc U om) ?_
 refine dS (sV (1*2) U (aa (n:=([(ar (ax r) a),(ar (ax r) b)]).length) 4 U sm) (Nat.succ_pos _) fI U)<|dS (g4 1 0 (vI ((ar (ax r) b).Lo)) U cz (aa (n:=([(ar (ax r) a),(ar (ax r) b)]).length) 4 U sm) (show ([(ar (ax r) a),(ar (ax r) b)].map ab.cells)[1]? =some [(vI ((ar (ax r) b).Lo)),(vI ((ar (ax r) b).Hi))] from U) U dc U)<|dP 2 [] I ?_
 refine dS (IA 0 U (aa (n:=2) 4 U sq) jZ dc U om) ?_
 refine dS (sV (0*2) U (aa (n:=([(ar (ax r) a),(ar (ax r) b)]).length) 4 U sm) (Nat.succ_pos _) fI U)<|dS (g4 0 0 (vI ((ar (ax r) a).Lo)) U cz (aa (n:=([(ar (ax r) a),(ar (ax r) b)]).length) 4 U sm) (show ([(ar (ax r) a),(ar (ax r) b)].map ab.cells)[0]? =some [(vI ((ar (ax r) a).Lo)),(vI ((ar (ax r) a).Hi))] from U) U dc U)<|dP 1 [] I ?_
 refine dS (IA 1 U (aa (n:=2) 4 U sq) jZ dc U om) ?_
 refine dS (sV ((1*2)+1) U (aa (n:=([(ar (ax r) a),(ar (ax r) b)]).length) 4 U sm) (Nat.succ_pos _) fI U)<|dS (g4 1 1 (vI ((ar (ax r) b).Hi)) U cz (aa (n:=([(ar (ax r) a),(ar (ax r) b)]).length) 4 U sm) (show ([(ar (ax r) a),(ar (ax r) b)].map ab.cells)[1]? =some [(vI ((ar (ax r) b).Lo)),(vI ((ar (ax r) b).Hi))] from U) U dc U)<|rH 1 U<|dS (CL (rR (decide (((ar (ax r) a).Hi)<((ar (ax r) b).Lo))) (decide (((ar (ax r) a).Lo)<((ar (ax r) b).Hi)))) (aC) U)<|dP 2 [] I ?_
 refine dJ<|RK G<|aB<|Q2 hQ U U U U ?_
 (rw [he,show qc r a b=xA _ _ from if_pos he,← G6])
theorem Ei (a b:Int) (r:bQ) (kA:OA) (kC:Nat) (az:List RA) (cA:OA) (cC:Nat) (bA:OA) (bC:Nat) (slA:OA) (slC:Nat) (drA:OA) (drC:Nat) (ha:List cb) (heA:OA) (heC:Nat) (hin:dG r az ha):
 dQ Tryz.prog 16 [(vA (bV.cells (nM r kA kC cA cC bA bC slA slC drA drC heA heC))),(vI a),(vI b)] [(rd dH 3 2 c4),(rd kA r.ai.aO.length 9 (r.ai.aO.map ao.cells)),(rd cA r.ai.ak.length 2 (List.zipWith aA.cells r.ai.ak az)),(eR (aR aA.jx r.ai.ak az)),(rd bA r.ai.ag.length 4 (r.ai.ag.map bG.cells)),(rd slA r.aI.length 1 (r.aI.map iC)),(rd drA r.bu.length 1 (r.bu.map iC)),(rd heA r.aq.length 1 (List.zipWith cm r.aq ha)),(eR (aR ja r.aq ha))] (vT [(Value.int .u8 (mO r a b)),(vI (je r a b))]):=by
 have T:=hin.line
 have q:=hin.g9
 have s:=hin.has
 have d:=hin.gT
 have X:=hin.draw
 have e:=dy (r:=r)
 refine bx kr Tryz.func16 U U fun w Q hQ hN=>?_
 try dsimp only
 refine WS fun _ P=>g5 U fun v=>a_ 2 U<|RK P<|WS fun _ J=>rP 3 [] (mc 0 U I) ?_
 refine ck (xs:=[.tmp 14,.tmp 15]) (cs:=[(vI a),(vI b)]) U b0 gI U U U U (by simp [Value.cells]) U U fun l=>cX (uc r kA kC az cA cC bA bC slA slC drA drC ha heA heC a b l hin) (bj [2,3,4,5,6,7,8,9,10,0]) U fun u N=>?_
 obtain ⟨O,m,p,o,h,j,vM,f,g⟩:=u
 cases O
 ·obtain ⟨M,he⟩:=N.2 rfl
  try dsimp only at M he
  subst M
  try dsimp only [cond_true,cond_false,List.cons_append,List.nil_append]
  refine a_ 7 U<|RK J<|al fun _ W=>WS fun _ E=>rP 2 [] I ?_
  refine RK E<|cu U (bM fun D=>?_) (bL fun D=>?_)
  ·exact absurd D he
  refine WS fun _ F=>rP 3 [] I ?_
  refine RK F<|aB<|Q2 hQ U U U U ?_
  (rw [show mO r a b=0 from if_neg he]; done)
 obtain ⟨he,V⟩:=N.1 rfl
 try dsimp only [cond_true,cond_false,List.cons_append,List.nil_append]
 try dsimp only at V
 obtain ⟨AA,Y,Z,c⟩:=uo he
 have B:=lR AA
 have R:=fg (i:=a) B
 have S:=fg (i:=b) B
 refine a_ 7 U<|RK J<|al fun _ G=>WS fun _ H=>rP 1 [] I ?_
 refine rS (SX (bw (r:= .bool false) U U U lp) U U)<|RK H<|aM U<|WK G<|al fun _ AB=>ek cE [19,20] [] [] [0,1,2,3,4,5,6,7,8,9,10,11,12,13,14,15] [] U U U U U<|eS U (MV U) ?_
 refine eS U (IA 0 U (aa (n:=2) 4 U sq) jZ dc U om) ?_
 refine eS U (sV (0*2) U (aa (n:=([(ar (ax r) a),(ar (ax r) b)]).length) 4 U sm) (Nat.succ_pos _) fI U)<|eS U (g4 0 0 (vI ((ar (ax r) a).Lo)) U cz (aa (n:=([(ar (ax r) a),(ar (ax r) b)]).length) 4 U sm) (show ([(ar (ax r) a),(ar (ax r) b)].map ab.cells)[0]? =some [(vI ((ar (ax r) a).Lo)),(vI ((ar (ax r) a).Hi))] from U) U dc U)<|eS U (MV U) ?_
 refine eS U (IA 1 U (aa (n:=2) 4 U sq) jZ dc U om) ?_
 refine eS U (sV (1*2) U (aa (n:=([(ar (ax r) a),(ar (ax r) b)]).length) 4 U sm) (Nat.succ_pos _) fI U)<|eS U (g4 1 0 (vI ((ar (ax r) b).Lo)) U cz (aa (n:=([(ar (ax r) a),(ar (ax r) b)]).length) 4 U sm) (show ([(ar (ax r) a),(ar (ax r) b)].map ab.cells)[1]? =some [(vI ((ar (ax r) b).Lo)),(vI ((ar (ax r) b).Hi))] from U) U dc U)<|eS U (MX U)<|eS U (MV U) ?_
 refine eS U (IA 0 U (aa (n:=2) 4 U sq) jZ dc U om) ?_
 refine eS U (sV ((0*2)+1) U (aa (n:=([(ar (ax r) a),(ar (ax r) b)]).length) 4 U sm) (Nat.succ_pos _) fI U)<|eS U (g4 0 1 (vI ((ar (ax r) a).Hi)) U cz (aa (n:=([(ar (ax r) a),(ar (ax r) b)]).length) 4 U sm) (show ([(ar (ax r) a),(ar (ax r) b)].map ab.cells)[0]? =some [(vI ((ar (ax r) a).Lo)),(vI ((ar (ax r) a).Hi))] from U) U dc U)<|eS U (MV U) ?_
 refine eS U (IA 1 U (aa (n:=2) 4 U sq) jZ dc U om) ?_
 refine eS U (sV ((1*2)+1) U (aa (n:=([(ar (ax r) a),(ar (ax r) b)]).length) 4 U sm) (Nat.succ_pos _) fI U)<|eS U (g4 1 1 (vI ((ar (ax r) b).Hi)) U cz (aa (n:=([(ar (ax r) a),(ar (ax r) b)]).length) 4 U sm) (show ([(ar (ax r) a),(ar (ax r) b)].map ab.cells)[1]? =some [(vI ((ar (ax r) b).Lo)),(vI ((ar (ax r) b).Hi))] from U) U dc U)<|eS U (MN U)<|eS U (SX (bh (xs:=[(0,.tmp 32),(1,.tmp 41)]) (cs:=(ab.cells (ab.mk (max ((ar (ax r) a).Lo) ((ar (ax r) b).Lo)) (min ((ar (ax r) a).Hi) ((ar (ax r) b).Hi))))) U U (bg jt U)) U U)<|e7 U<|cf U fun T22 K=>AL U dK fun k=>aG (K _ _ (aJ [1,2,3,4,5,6,7,8,9,10,11,12,13,14,15,16]) ?_)
 refine cf U fun T24 L=>fw U cT U<|aG (L _ _ (aJ [1,2,3,4,5,6,7,8,9,10,11,12,13,14,15,16]) ?_)
 refine fH U<|KK AB<|al fun _ A=>dR cE 22 kr<|dP 1 [] I ?_
 refine dS (IA 0 U (aa (n:=2) 5 U sq) jZ dc U om) ?_
 refine dS (r_ 0 0 (ab.cells (ar (ax r) a)) U cz (aa (n:=([(ar (ax r) a),(ar (ax r) b)]).length) 5 U sm) (show ([(ar (ax r) a),(ar (ax r) b)].map ab.cells)[0]? =some [(vI ((ar (ax r) a).Lo)),(vI ((ar (ax r) a).Hi))] from U) U dc U U)<|dP 1 [] I ?_
 refine dS (IA 1 U (aa (n:=2) 5 U sq) jZ dc U om) ?_
 refine dS (r_ 1 0 (ab.cells (ar (ax r) b)) U cz (aa (n:=([(ar (ax r) a),(ar (ax r) b)]).length) 5 U sm) (show ([(ar (ax r) a),(ar (ax r) b)].map ab.cells)[1]? =some [(vI ((ar (ax r) b).Lo)),(vI ((ar (ax r) b).Hi))] from U) U dc U U)<|dS (BI U (r6 _ _ (ar (ax r) a) (ar (ax r) b)))<|dP 1 [] I ?_
 refine j8 (t:=50) U (aZ fun C=>?_) (aY fun C=>?_)
 ·refine m7 11 [] (mc 0 U I) U<|dS (CL (rR false (decide ((max ((ar (ax r) a).Lo) ((ar (ax r) b).Lo))≤(min ((ar (ax r) a).Hi) ((ar (ax r) b).Hi))))) (aC) U)<|dP 2 [] I ?_
  refine dJ<|RK A<|aB<|Q2 hQ U U U U ?_
  (rw [he,show mO r a b=oD _ _ from if_pos he,← HT R.2.1 S.2.1 C]; done)
 refine m7 11 [] (mc 0 U I) U<|dS (CL (rR (decide ((max ((ar (ax r) a).Lo) ((ar (ax r) b).Lo))=(min ((ar (ax r) a).Hi) ((ar (ax r) b).Hi)))) (decide ((max ((ar (ax r) a).Lo) ((ar (ax r) b).Lo))≤(min ((ar (ax r) a).Hi) ((ar (ax r) b).Hi))))) (aC) U)<|dP 2 [] I ?_
 refine dJ<|RK A<|aB<|Q2 hQ U U U U ?_
 (rw [he,show mO r a b=oD _ _ from if_pos he,← Dy C]; done)
end
section
open Go.RowKit
theorem wT (i:Int) (r:bQ) (kA:OA) (kC:Nat) (az:List RA) (cA:OA) (cC:Nat) (bA:OA) (bC:Nat) (slA:OA) (slC:Nat) (drA:OA) (drC:Nat) (ha:List cb) (heA:OA) (heC:Nat) (hin:dG r az ha):
 dQ Tryz.prog 13 [(vA (bV.cells (nM r kA kC cA cC bA bC slA slC drA drC heA heC))),(vI i)] [(rd dH 3 2 c4),(rd kA r.ai.aO.length 9 (r.ai.aO.map ao.cells)),(rd cA r.ai.ak.length 2 (List.zipWith aA.cells r.ai.ak az)),(eR (aR aA.jx r.ai.ak az)),(rd bA r.ai.ag.length 4 (r.ai.ag.map bG.cells)),(rd slA r.aI.length 1 (r.aI.map iC)),(rd drA r.bu.length 1 (r.bu.map iC)),(rd heA r.aq.length 1 (List.zipWith cm r.aq ha)),(eR (aR ja r.aq ha))] (vT [(vA (ab.cells (mY r i))),(vI (gU r i))]):=by
 have M:=hin.line
 have g:=hin.g9
 have h:=hin.has
 have W:=hin.gT
 have R:=hin.draw
 have X:=dy (r:=r)
 refine bx kr Tryz.func13 U U fun m Q hQ hN=>?_
 try dsimp only
 refine WS fun _ L=>g5 U fun k=>AL U dK fun l=>a_ 1 U<|RK L<|WS fun _ G=>rP 2 [] (mc 1 U I) ?_
 refine ck (xs:=[.tmp 11]) (cs:=[(vI i)]) U b0 gI U U U U (by simp [Value.cells]) U U fun d=>cX (tT r kA kC az cA cC bA bC slA slC drA drC ha heA heC i d hin) (bj [3,4,5,6,7,8,9,10,11,0]) U fun j J=>?_
 obtain ⟨K,e,f,O,a,b,c,Y,Z⟩:=j
 cases K
 ·obtain ⟨H,he⟩:=J.2 rfl
  try dsimp only at H he
  subst H
  try dsimp only [cond_true,cond_false,List.cons_append,List.nil_append]
  refine a_ 7 U<|RK G<|al fun _ P=>WS fun _ B=>rP 2 [] I ?_
  refine RK B<|cu U (bM fun A=>?_) (bL fun A=>?_)
  ·exact absurd A he
  refine WS fun _ C=>rS (SX (bh (xs:=[]) (cs:=(ab.cells (ab.mk 0 0))) U U (bg jt U)) U U)<|a_ 1 U<|vU U cT U<|rP 1 [] I ?_
  refine RK C<|aB<|pP hQ [0] (mc 1 U I) U ?_
  first|(rw [show mY r i=cZ from if_neg he]; rfl)|(rw [he,show mY r i=ar _ _ from if_pos he]; done)
 obtain ⟨he,N⟩:=J.1 rfl
 try dsimp only [cond_true,cond_false,List.cons_append,List.nil_append]
 try dsimp only at N
 obtain ⟨AB,S,T⟩:=tL he
 have AA:=lR AB
 have V:=l8 AB
 refine a_ 7 U<|RK G<|al fun _ D=>WS fun _ E=>a_ 1 U<|rS (SX (bw (r:= .bool false) U U U lp) U U)<|RK E<|aM U<|WK D<|WS fun _ F=>rP 1 [] I ?_
 refine rS (IA 0 U (aa (n:=1) 4 U sq) jZ dc U om) ?_
 refine rS (r_ 0 0 (ab.cells (ar (ax r) i)) U cz (aa (n:=([(ar (ax r) i)]).length) 4 U sm) (show ([(ar (ax r) i)].map ab.cells)[0]? =some [(vI ((ar (ax r) i).Lo)),(vI ((ar (ax r) i).Hi))] from U) U dc U U)<|I1 U cT U<|rP 1 [] I ?_
 refine RK F<|aB<|pP hQ [0] (mc 6 U I) U ?_
 first|(rw [show mY r i=cZ from if_neg he]; rfl)|(rw [he,show mY r i=ar _ _ from if_pos he]; done)
end
section
open Go.RowKit
theorem DC (h i:Int) (r:bQ) (kA:OA) (kC:Nat) (az:List RA) (cA:OA) (cC:Nat) (bA:OA) (bC:Nat) (slA:OA) (slC:Nat) (drA:OA) (drC:Nat) (ha:List cb) (heA:OA) (heC:Nat) (hin:dG r az ha):
 dQ Tryz.prog 14 [(vA (bV.cells (nM r kA kC cA cC bA bC slA slC drA drC heA heC))),(vI h),(vI i)] [(rd dH 3 2 c4),(rd kA r.ai.aO.length 9 (r.ai.aO.map ao.cells)),(rd cA r.ai.ak.length 2 (List.zipWith aA.cells r.ai.ak az)),(eR (aR aA.jx r.ai.ak az)),(rd bA r.ai.ag.length 4 (r.ai.ag.map bG.cells)),(rd slA r.aI.length 1 (r.aI.map iC)),(rd drA r.bu.length 1 (r.bu.map iC)),(rd heA r.aq.length 1 (List.zipWith cm r.aq ha)),(eR (aR ja r.aq ha))] (vT [(vA (ab.cells (fz r h i))),(vI (js r h i))]):=by
 have AO:=hin.line
 have A7:=hin.g9
 have A8:=hin.has
 have A4:=hin.gT
 have A2:=hin.draw
 have F:=dy (r:=r)
 refine bx kr Tryz.func14 U U fun w0 Q hQ hN=>?_
 try dsimp only
 refine WS fun _ u=>g5 U fun b2=>AL U dK fun b3=>a_ 1 U<|RK u<|WS fun _ X=>rP 1 [] (mc 1 U I) ?_
 refine cX (ly r kA kC az cA cC bA bC slA slC drA drC ha heA heC hin) (bj [2,3,4,5,6,7,8,9,10]) U fun y5 c=>?_
 obtain ⟨f,A6,o,m,g,j,vM⟩:=y5
 cases f
 ·obtain ⟨Y,he⟩:=c.2 rfl
  try dsimp only at Y he
  subst Y
  try dsimp only [cond_true,cond_false,List.cons_append,List.nil_append]
  refine a_ 5 U<|RK X<|al fun _ A1=>aF<|WS fun _ N=>rP 3 [] I ?_
  refine RK N<|cu U (bM fun M=>?_) (bL fun M=>?_)
  ·exact absurd M he
  refine WS fun _ O=>rS (SX (bh (xs:=[]) (cs:=(ab.cells (ab.mk 0 0))) U U (bg jt U)) U U)<|a_ 1 U<|fw U cT U<|rP 1 [] I ?_
  refine RK O<|aB<|pP hQ [0] (mc 0 U I) U ?_
  first|(have e:=l0 (h:=h) (i:=i) he; have B:fz r h i=cZ:=if_neg (fun q=>by rw [e] at q; exact he q); rw [e,B]; rfl)|(have e:=l4 (h:=h) (i:=i) he om; have B:fz r h i=cZ:=if_neg (fun q=>by rw [e] at q; cases q); rw [e,B]; rfl)|(have e:=k6 he om A hd C; have B:fz r h i=cZ:=if_neg (fun q=>by rw [e] at q; cases q); rw [e,B]; rfl)|(have e:=nH he om A hd C; rw [e.1,e.2,H]; done)
 obtain ⟨he,J⟩:=c.1 rfl
 try dsimp only [cond_true,cond_false,List.cons_append,List.nil_append]
 try dsimp only at J
 have a:=(gQ he).2
 refine a_ 5 U<|RK X<|al fun _ P=>aF<|WS fun _ R=>a_ 1 U<|rS (SX (bw (r:= .bool false) U U U lp) U U)<|a_ 1 U<|RK R<|aM U<|WS fun _ K=>rP 5 [] (mc 5 U I) ?_
 refine ck (xs:=[.tmp 25]) (cs:=[(vI h)]) U b0 gI U U U U (by simp [Value.cells]) U U fun k=>?_
 refine rS (CL (dQ.eq (il 0 ((r.aq.length:Int)-1) ([h]) (some ⟨k,0,none⟩) 1 sd) bZ) (ae (aP 0 U U (by simp [aW]) U)<|aC) U) ?_
 refine rP 2 [] I ?_
 refine eH (t:=29) U (bL fun s=>?_) (bM fun s=>?_)
 ·refine a_ 7 U<|RK K<|aX U<|WS fun _ S=>rS (SX (bh (xs:=[]) (cs:=(ab.cells (ab.mk 0 0))) U U (bg jt U)) U U)<|Iz U cT U<|rP 1 [] I ?_
  refine RK S<|aB<|pP hQ [0] (mc 5 U I) U ?_
  first|(have e:=l0 (h:=h) (i:=i) he; have B:fz r h i=cZ:=if_neg (fun q=>by rw [e] at q; exact he q); rw [e,B]; rfl)|(have e:=l4 (h:=h) (i:=i) he om; have B:fz r h i=cZ:=if_neg (fun q=>by rw [e] at q; cases q); rw [e,B]; rfl)|(have e:=k6 he om A hd C; have B:fz r h i=cZ:=if_neg (fun q=>by rw [e] at q; cases q); rw [e,B]; rfl)|(have e:=nH he om A hd C; rw [e.1,e.2,H]; done)
 refine rP 2 [] I ?_
 refine ck (xs:=[.tmp 31]) (cs:=[(vI i)]) U b0 gI U U U U (by simp [Value.cells]) U U fun l=>?_
 refine rS (CL (dQ.eq (vL r kA kC az cA cC bA bC slA slC drA drC ha heA heC vM g j (Value.map (some m)) o ([i]) (some ⟨l,0,none⟩) 1 hin sd) bZ) (kp [9,10,11,12,13,14,15,16]<|ae (aa (n:=(cr r).length) 3 U (ke (by rw [F]; exact J)))<|ae (bS 4 U pM)<|cY 2 U U<|ae (aP 0 U U (by simp [aW]) U)<|aC) U) ?_
 refine rP 3 [] I ?_
 refine RK K<|dF U (bL fun p=>?_) (bM fun p=>?_)
 ·refine WS fun _ T=>rS (SX (bh (xs:=[]) (cs:=(ab.cells (ab.mk 0 0))) U U (bg jt U)) U U)<|I1 U cT U<|rP 1 [] I ?_
  refine RK T<|aB<|pP hQ [0] (mc 6 U I) U ?_
  first|(have e:=l0 (h:=h) (i:=i) he; have B:fz r h i=cZ:=if_neg (fun q=>by rw [e] at q; exact he q); rw [e,B]; rfl)|(have e:=l4 (h:=h) (i:=i) he om; have B:fz r h i=cZ:=if_neg (fun q=>by rw [e] at q; cases q); rw [e,B]; rfl)|(have e:=k6 he om A hd C; have B:fz r h i=cZ:=if_neg (fun q=>by rw [e] at q; cases q); rw [e,B]; rfl)|(have e:=nH he om A hd C; rw [e.1,e.2,H]; done)
 refine WS fun _ AA=>rP 3 [] (mc 7 U I) ?_
 obtain ⟨ht,A⟩:=aQ r.aq ((h).toNat) om
 obtain ⟨D,E⟩:=aQ ha ((h).toNat) om
 have Z:(List.zipWith cm r.aq ha)[(h).toNat]? =some (cm ht D):=dE A E
 refine rS (IA ((h).toNat) U (aS 15 U) q9 dc om om) ?_
 have z:=hin.mU _ _ _ A E
 have A3:=z.pQ
 have AC:=(a.mU ht (aN A)).1
 refine rS (g4 ((h).toNat) 0 (vS D.1.1 ht.length D.1.2) U cz (aS 15 U) Z U dc U)<|rP 1 [] I ?_
 obtain ⟨d,hd⟩:=aQ ht ((i).toNat) om
 obtain ⟨da,v⟩:=aQ D.2 ((i).toNat) om
 have y:(List.zipWith av.cells ht D.2)[(i).toNat]? =some (av.cells d da):=dE hd v
 refine rS (IA ((i).toNat) U (show jf _ (rd D.1.1 ht.length 7 (List.zipWith av.cells ht D.2)).holds from (eh 16 U (bY A E bU))) td dc om om)<|rS (sV (((i).toNat)*7) U (show jf _ (rd D.1.1 ht.length 7 (List.zipWith av.cells ht D.2)).holds from (eh 16 U (bY A E bU))) (Nat.mul_pos om dc) fI U)<|rS (g4 ((i).toNat) 0 (vB d.Out) U cz (show jf _ (rd D.1.1 ht.length 7 (List.zipWith av.cells ht D.2)).holds from (eh 16 U (bY A E bU))) y U dc U)<|rP 1 [] I ?_
 refine RK AA<|dF U (fun C=>?_) (fun C=>?_)
 ·refine WS fun _ V=>rS (SX (bh (xs:=[]) (cs:=(ab.cells (ab.mk 0 0))) U U (bg jt U)) U U)<|I1 U cT U<|rP 1 [] I ?_
  refine RK V<|aB<|pP hQ [0] (mc 6 U I) U ?_
  first|(have e:=l0 (h:=h) (i:=i) he; have B:fz r h i=cZ:=if_neg (fun q=>by rw [e] at q; exact he q); rw [e,B]; rfl)|(have e:=l4 (h:=h) (i:=i) he om; have B:fz r h i=cZ:=if_neg (fun q=>by rw [e] at q; cases q); rw [e,B]; rfl)|(have e:=k6 he om A hd C; have B:fz r h i=cZ:=if_neg (fun q=>by rw [e] at q; cases q); rw [e,B]; rfl)|(have e:=nH he om A hd C; rw [e.1,e.2,H]; done)
 refine cJ<|aH<|KK P<|WS fun _ W=>a_ 1 U<|rS (SX (bk U U) U U)<|rP 3 [] (mc 2 U I) ?_
 obtain ⟨tr,AB⟩:=aQ (cr r) ((h).toNat) om
 obtain ⟨tra,G⟩:=aQ vM ((h).toNat) om
 have b:(List.zipWith BV (cr r) vM)[(h).toNat]? =some (BV tr tra):=dE AB G
 refine rS (IA ((h).toNat) U (aa (n:=(cr r).length) 3 U (ke (by rw [F]; exact J))) I5 dc om om) ?_
 have L:=uB A AB
 have A5:tr.length=r.aI.length:=by rw [L,List.length_map]; exact AC
 refine rS (g4 ((h).toNat) 0 (vS tra.1 tr.length tra.2) U cz (aa (n:=(cr r).length) 3 U (ke (by rw [F]; exact J))) b U dc U) ?_
 refine rP 1 [] I ?_
 obtain ⟨x,hx⟩:=aQ tr ((i).toNat) om
 have A0:=cG ab.cells hx
 refine rS (IA ((i).toNat) U (show jf _ (rd tra.1 tr.length 2 (tr.map ab.cells)).holds from (fun w hw=>(bS 4 U pM) w hw _ (bY AB G (by simp [Gl])))) jZ dc om om) ?_
 have H:=Ew L hx hd
 refine rS (r_ ((i).toNat) 0 (ab.cells x) U cz (show jf _ (rd tra.1 tr.length 2 (tr.map ab.cells)).holds from (fun w hw=>(bS 4 U pM) w hw _ (bY AB G (by simp [Gl])))) A0 U dc U U)<|I1 U cT U<|rP 1 [] I ?_
 refine RK W<|aB<|pP hQ [0] (mc 6 U I) U ?_
 first|(have e:=l0 (h:=h) (i:=i) he; have B:fz r h i=cZ:=if_neg (fun q=>by rw [e] at q; exact he q); rw [e,B]; rfl)|(have e:=l4 (h:=h) (i:=i) he om; have B:fz r h i=cZ:=if_neg (fun q=>by rw [e] at q; cases q); rw [e,B]; rfl)|(have e:=k6 he om A hd C; have B:fz r h i=cZ:=if_neg (fun q=>by rw [e] at q; cases q); rw [e,B]; rfl)|(have e:=nH he om A hd C; rw [e.1,e.2,H]; done)
end
section
open Go.RowKit
theorem rm (l:List Int) (lA:OA) (lC:Nat) (hlen:l.length≤1000000):
 kd Tryz.prog 45 [(vS lA l.length lC)] [(rd lA l.length 1 (l.map iC))] (fun (x:(OA)×Nat)=>(vS x.1 l.length x.2)) (fun (x:(OA)×Nat)=>True) (fun (x:(OA)×Nat)=>[(own x.1 x.2 3 1 (l.map iC))]):=by
 refine cS kr Tryz.func45 U U fun L Q hQ hN=>?_
 try dsimp only
 refine WS fun _ D=>a_ 1 U<|RK D<|al fun _ E=>WS fun _ F=>rP 1 [] I ?_
 refine rS (BI U (nE NA))<|RK F<|dF U (aY fun B=>?_) (aZ fun B=>?_)
 ·refine WS fun _ G=>jR (aS 0 U) B dc fun C=>?_
  have A:l=[]:=by simpa using C
  refine dw 3 1 ?_
  rw [show (own none 0 3 1 ([]:List (List Value)))=own none 0 3 1 (l.map iC) from by rw [A]; rfl]
  refine rP 1 [] I ?_
  refine RK G<|aB ?_
  refine LX hQ (none,0) [0] [] I U U U ?_ ?_
  ·first|rfl|(rw [A]; rfl)
  ·trivial
 refine WK E<|WS fun _ H=>qT U b0 U fun J=>rP 1 [] I ?_
 refine cQ (es:=(List.map iC [])) (C':=[own (some ⟨J,0,none⟩) 0 3 1 (List.map iC []),_]) 0 U sm U (by simp [maxLen]) U ?_
 refine dL (es2:=(List.map iC l)) (m':=l.length) 0 U U U q8 U U sm (aS 1 U) (ku _) os (by first|(simp only [maxLen]; omega)|(simp [maxLen]; omega)) sm sm U fun AA K=>?_
 try dsimp only
 refine rP 1 [] I ?_
 refine RK H<|aB ?_
 refine LX hQ (AA,K) [0] [] I U U U ?_ ?_
 ·first|rfl|(rw [A]; rfl)
 ·trivial
theorem xD (l:List Int) (lA:OA) (lC:Nat) (f:Value) (key:Int→Int) (X:aj) (hf: ∀ x0 x1,x0∈l∧x1∈l→zl Tryz.prog f [.int .i64 x0,.int .i64 x1] [X] (.int .i64 (key x0-key x1))) (hkb: ∀ x∈l,0≤key x∧key x≤30000000) (hlen:l.length≤1000000):
 Bh Tryz.prog 127 [(vS lA l.length lC),(vI 0),(vI (l.length:Int)),f] [X] (own lA lC 3 1 (l.map iC)) (fun (x:Unit)=>(vT [])) (fun (x:Unit)=>True) (fun (x:Unit)=>(own lA lC 3 1 ((di key l).map iC))):=by
 refine kv kr Tryz.func127 U U fun s Q hQ hN=>?_
 try dsimp only
 refine WS fun _ Z=>a_ 1 U<|rS (SX (bw (r:= .int .i64 1) U U U (fG ⟨dc,dc⟩)) U U)<|rP 1 [] I ?_
 refine RK Z<|aF ?_
 have C:(1≤1∧(1≤l.length∨1=1))∧(l.length=l.length)∧(1=1∧l=[]∨pn key l 1 l)∧(∀ x∈l,x∈l):=by exact ⟨om,rfl,Bj,fun x h=>h⟩
 refine bX (ι:={z:Nat×(List Int) // (1≤z.1∧(z.1≤l.length∨z.1=1))∧(z.2.length=l.length)∧(z.1=1∧l=[]∨pn key l z.1 z.2)∧(∀ x∈z.2,x∈l)}) [0,1,2,3] [1] U U (fun z=>[(8,(vI (z.1.1:Int)))]) (fun z=>[(own lA lC 3 1 (z.1.2.map iC))]) (fun _=>rfl) (fun _=>rfl) (fun z=>l.length-z.1.1) ⟨(1,l),C⟩ (aT U) (aJ [1,0]) ?_
 clear C
 rintro ⟨⟨i,m⟩,⟨AB,E,F,G⟩⟩ J2 L
 try dsimp only at AB E F G
 try dsimp only
 refine al fun _ b=>WS fun _ c=>rP 3 [] I ?_
 refine RK c<|cu U (aZ fun p=>?_) (aY fun p=>?_)
 ·refine bq<|ah<|ah<|aD ?_
  rw [show m=di key l from Fa om E F]
  refine LM hN () 1 [] I U U U U ?_
  trivial
 refine WK b<|al fun _ N=>aF<|WS fun _ d=>rP 2 [] I ?_
 refine RK d<|aF ?_
 have C:(i≤i)∧(m.length=l.length)∧(∀ x∈m,x∈l)∧(wi key l i i m):=by exact ⟨Nat.le_refl _,E,G,yl om (He om F)⟩
 refine bX (ι:={z:Nat×(List Int) // (z.1≤i)∧(z.2.length=l.length)∧(∀ x∈z.2,x∈l)∧(wi key l i z.1 z.2)}) [0,1,2,3,8] [0] U U (fun z=>[(9,(vI (z.1.1:Int)))]) (fun z=>[(own lA lC 3 1 (z.1.2.map iC))]) (fun _=>rfl) (fun _=>rfl) (fun z=>z.1.1) ⟨(i,m),C⟩ (aT U) (aJ [0,1]) ?_
 clear C
 rintro ⟨⟨j,q⟩,⟨J,D,A,B⟩⟩ J8 Y
 try dsimp only at J D A B
 try dsimp only
 refine al fun _ e=>al fun _ H=>dR cE 17 kr<|dP 4 [] I ?_
 refine j8 (t:=21) U (aZ fun V=>?_) (aY fun V=>?_)
 ·refine rH 13 U<|dJ<|RK H<|aM U<|bq<|ah<|ah<|aD<|aH<|KK N<|au<|rP 3 [] I ?_
  refine aG ?_
  refine bc (L ⟨((i+1),q),⟨om,D,.inr (by first|exact tD om B|exact uA om B hx hy om),A⟩⟩ _ _ _ U (by simp only []; omega) (aT U) (aJ [0,1]))
 refine dP 3 [] I ?_
 obtain ⟨x,hx⟩:=aQ q j om
 have K:=cG iC hx
 refine dS (IA j U (aa (n:=l.length) 1 U sq) b0 dc om om) ?_
 refine dS (g4 j 0 (vI x) U cz (aa (n:=q.length) 1 U sm) K U dc U)<|dP 3 [] I ?_
 obtain ⟨y,hy⟩:=aQ q (j-1) om
 have AA:=cG iC hy
 refine dS (IA (j-1) U (aa (n:=l.length) 1 U sq) b0 dc om om) ?_
 refine dS (g4 (j-1) 0 (vI y) U cz (aa (n:=q.length) 1 U sm) AA U dc U)<|dS (SX (oO U U U (hf x y ⟨A _ (aN hx),A _ (aN hy)⟩) (bj [0])) U U)<|dP 2 [] I ?_
 refine dJ<|RK H<|cu U (aZ fun W=>?_) (aY fun W=>?_)
 ·refine bq<|ah<|ah<|aD<|aH<|KK N<|au<|rP 3 [] I ?_
  refine aG ?_
  refine bc (L ⟨((i+1),q),⟨om,D,.inr (by first|exact tD om B|exact uA om B hx hy om),A⟩⟩ _ _ _ U (by simp only []; omega) (aT U) (aJ [0,1]))
 refine WK e<|al fun _ M=>aF<|ek cE [15,16,17] [8,9,12,13,14] [] [0] [0,1] U U U U U<|eS U (MV U)<|eS U (MV U)<|eS U (MV U)<|eS U (MV U)<|eS U (BI U (pJ ⟨om,om⟩))<|eS U (MV U)<|eS U (MV U)<|eS U (BI U (pJ ⟨om,om⟩)) ?_
 refine fS U (IA (j-1) U (aa (n:=l.length) 1 U sq) b0 dc om om) ?_
 refine fS U (g4 (j-1) 0 (vI y) U cz (aa (n:=q.length) 1 U sm) AA U dc U)<|eS U (MV U)<|eS U (MV U) ?_
 refine fS U (IA j U (aa (n:=l.length) 1 U sq) b0 dc om om) ?_
 refine fS U (g4 j 0 (vI x) U cz (aa (n:=q.length) 1 U sm) K U dc U) ?_
 refine fS U (IA j U (aa (n:=l.length) 1 U sq) b0 dc om om) ?_
 refine e7 U<|cf U fun T14 O=>dk (k:=j) (o:=0) (vs:=[(vI y)]) (es':=(List.map iC (q.set j y))) (C':=[_,(own lA lC 3 1 (List.map iC (q.set j y)))]) 1 U U U xg U U U U K U dc (by exact (List.map_set (f:=iC) (l:=q) (i:=j) (a:=y)).symm) U<|aG (O _ _ (aJ [0]) ?_)
 refine cf U fun T15 P=>?_
 obtain ⟨g,T⟩:=aQ (q.set j y) (j-1) os
 have hx17m:(List.map iC (q.set j y))[(j-1)]? =some (iC g):=by rw [eW,T]; rfl
 refine rS (IA (j-1) U (aa (n:=l.length) 1 U sq) b0 dc om om) ?_
 refine aG (P _ _ (aJ [0]) ?_)
 refine cf U fun T18 R=>dk (k:=(j-1)) (o:=0) (vs:=[(vI x)]) (es':=(List.map iC ((q.set j y).set (j-1) x))) (C':=[_,(own lA lC 3 1 (List.map iC ((q.set j y).set (j-1) x)))]) 1 U U U xg U U U U hx17m U dc (by exact (List.map_set (f:=iC) (l:=(q.set j y)) (i:=(j-1)) (a:=x)).symm) U<|aG (R _ _ (aJ [0]) ?_)
 refine fH U<|aH<|KK M<|au<|rP 3 [] I ?_
 refine aG ?_
 have S:(vI (((j-1):Nat):Int))=(vI ((j:Int)-1)):=by exact cI om
 refine bc (Y ⟨((j-1),((q.set j y).set (j-1) x)),⟨om,by simp; exact D,EY hx hy A,AU om B hx hy om⟩⟩ _ _ _ U (by simp only []; omega) (du 5<|bO U S<|ew.nil _) (aJ [0,1]))
theorem EW (l:List Int) (lA:OA) (lC:Nat) (f:Value) (key:Int→Int) (X:aj) (hf: ∀ x0 x1,x0∈l∧x1∈l→zl Tryz.prog f [.int .i64 x0,.int .i64 x1] [X] (.int .i64 (key x0-key x1))) (hkb: ∀ x∈l,0≤key x∧key x≤30000000) (hlen:l.length≤12):
 Bh Tryz.prog 98 [(vS lA l.length lC),(vI (l.length:Int)),f] [X] (own lA lC 3 1 (l.map iC)) (fun (x:Unit)=>(vT [])) (fun (x:Unit)=>True) (fun (x:Unit)=>(own lA lC 3 1 ((di key l).map iC))):=by
 refine kv kr Tryz.func98 U U fun N Q hQ hN=>?_
 try dsimp only
 refine WS fun _ C=>a_ 1 U<|RK C<|WS fun _ D=>a_ 3 U<|RK D<|al fun _ E=>aF<|ig 1<|de fun R4 M=>al fun _ L=>WS fun _ F=>rP 3 [] I ?_
 refine RK F<|dF U (aY fun K=>?_) (aZ fun K=>?_)
 ·exfalso; omega
 refine bq<|ah<|ah<|aD<|KK E<|WS fun _ G=>rP 4 [] I ?_
 refine g8 0 U U U U (xD l lA lC f key X (by exact hf) hkb sd) U (fx 1 U U (dT (bI _)) jg) U (fun O J=>?_)
 try dsimp only
 refine RK G<|aF<|ig 1<|de fun R11 AA=>al fun _ H=>WS fun _ A=>rP 3 [] I ?_
 refine RK A<|dF U (aY fun B=>?_) (aZ fun B=>?_)
 ·exfalso; omega
 refine bq<|ah<|ah<|aD<|LM hN () 0 [] I U U U U ?_
 trivial
theorem vt (l:List Int) (lA:OA) (lC:Nat) (f:Value) (key:Int→Int) (X:aj) (hf: ∀ x0 x1,x0∈l∧x1∈l→zl Tryz.prog f [.int .i64 x0,.int .i64 x1] [X] (.int .i64 (key x0-key x1))) (hkb: ∀ x∈l,0≤key x∧key x≤30000000) (hlen:l.length≤12):
 Bh Tryz.prog 73 [(vS lA l.length lC),f] [X] (own lA lC 3 1 (l.map iC)) (fun (x:Unit)=>(vT [])) (fun (x:Unit)=>True) (fun (x:Unit)=>(own lA lC 3 1 ((di key l).map iC))):=by
 refine kv kr Tryz.func73 U U fun B Q hQ hN=>?_
 try dsimp only
 refine au<|rP 4 [] I ?_
 refine g8 0 U U U U (EW l lA lC f key X (by exact hf) hkb hlen) U (fx 1 U U (dT (bI _)) jg) U (fun C A=>?_)
 try dsimp only
 refine aG<|LM hN () 0 [] I U U U U ?_
 trivial
theorem uI (l:List Int) (lA:OA) (lC:Nat) (f:Value) (key:Int→Int) (X:aj) (hf: ∀ x0 x1,x0∈l∧x1∈l→zl Tryz.prog f [.int .i64 x0,.int .i64 x1] [X] (.int .i64 (key x0-key x1))) (hkb: ∀ x∈l,0≤key x∧key x≤30000000) (hlen:l.length≤12):
 kd Tryz.prog 47 [(vS lA l.length lC),f] [(rd lA l.length 1 (l.map iC)),X] (fun (x:(OA)×Nat)=>(vS x.1 ((di key l).length) x.2)) (fun (x:(OA)×Nat)=>True) (fun (x:(OA)×Nat)=>[(own x.1 x.2 3 1 ((di key l).map iC))]):=by
 refine cS kr Tryz.func47 U U fun J Q hQ hN=>?_
 try dsimp only
 refine WS fun _ B=>a_ 1 U<|RK B<|WS fun _ C=>rP 1 [] I ?_
 refine cX (rm l lA lC sd) (bj [0]) U fun AA G=>?_
 obtain ⟨E,F⟩:=AA
 try dsimp only
 refine a_ 1 U<|RK C<|WS fun _ D=>rP 2 [] I ?_
 refine g8 0 U U U U (vt l E F f key X (by exact hf) hkb hlen) U (fx 2 U U (dT (bI _)) jg) U (fun K H=>?_)
 try dsimp only
 refine RK D<|WS fun _ A=>rP 2 [] I ?_
 refine RK A<|aB ?_
 refine LX hQ (E,F) [0] [] I U U U ?_ ?_
 ·first|rfl|(rw [iD]; rfl)
 ·trivial
theorem Co (l:List Int) (lA:OA) (lC k:Nat) (hk:k≤l.length) (hlen:l.length≤1000000):
 Bh Tryz.prog 49 [(vS lA k lC)] [] (own lA lC 3 1 (l.map iC)) (fun (x:Unit)=>(vT [])) (fun (x:Unit)=>True) (fun (x:Unit)=>(own lA lC 3 1 ((oq k l).map iC))):=by
 refine kv kr Tryz.func49 U U fun V Q hQ hN=>?_
 try dsimp only
 refine WS fun _ J=>rP 5 [] I ?_
 refine RK J<|aF ?_
 have B:(0≤k)∧(BC l k 0 l):=by exact ⟨Nat.zero_le _,Gh⟩
 have P:(vI ((k:Int)-1-(0:Int)))=(vI ((k:Int)-1)):=by exact cI om
 refine bX (ι:={z:Nat×(List Int) // (z.1≤k)∧(BC l k z.1 z.2)}) [0] [] U U (fun z=>[(2,(vI (z.1.1:Int))),(3,(vI ((k:Int)-1-(z.1.1:Int))))]) (fun z=>[(own lA lC 3 1 (z.1.2.map iC))]) (fun _=>rfl) (fun _=>rfl) (fun z=>k-z.1.1) ⟨(0,l),B⟩ (ew.cons U<|bO U P<|ew.nil _) (aJ [0]) ?_
 clear B
 rintro ⟨⟨i,m⟩,⟨C,A⟩⟩ J3 AB
 try dsimp only at C A
 try dsimp only
 have AA:=A.1
 refine al fun _ K=>WS fun _ L=>rP 3 [] I ?_
 refine RK L<|cu U (aZ fun T=>?_) (aY fun T=>?_)
 ·refine bq<|ah<|ah<|aD ?_
  rw [show m=oq k l from GG hk om A]
  refine LM hN () 0 [] I U U U U ?_
  trivial
 refine WK K<|al fun _ M=>aF<|ek cE [13,14,15] [6,7,10,11,12] [] [] [0] U U U U U<|eS U (MV U)<|eS U (MV U)<|eS U (MV U)<|eS U (MV U)<|eS U (MV U)<|eS U (MV U) ?_
 obtain ⟨y,hy⟩:=aQ m ((((k:Int)-1-(i:Int))).toNat) om
 have R:=cG iC hy
 refine fS U (Mm ((((k:Int)-1-(i:Int))).toNat) U (aa (n:=m.length) 0 U sm) b0 dc om om om)<|fS U (g4 ((((k:Int)-1-(i:Int))).toNat) 0 (vI y) U cz (aa (n:=m.length) 0 U sm) R U dc U)<|eS U (MV U)<|eS U (MV U) ?_
 obtain ⟨x,hx⟩:=aQ m i om
 have H:=cG iC hx
 refine fS U (Mm i U (aa (n:=m.length) 0 U sm) b0 dc om om om)<|fS U (g4 i 0 (vI x) U cz (aa (n:=m.length) 0 U sm) H U dc U)<|fS U (Mm i U (aa (n:=m.length) 0 U sm) b0 dc om om om)<|e7 U<|cf U fun T8 N=>dk (k:=i) (o:=0) (vs:=[(vI y)]) (es':=(List.map iC (m.set i y))) (C':=[(own lA lC 3 1 (List.map iC (m.set i y)))]) 0 U U U xg U U U U H U dc (by exact (List.map_set (f:=iC) (l:=m) (i:=i) (a:=y)).symm) U<|aG (N _ _ (aJ []) ?_)
 refine cf U fun T9 O=>?_
 obtain ⟨S,G⟩:=aQ (m.set i y) ((((k:Int)-1-(i:Int))).toNat) os
 have hx11m:(List.map iC (m.set i y))[(((k:Int)-1-(i:Int))).toNat]? =some (iC S):=by rw [eW,G]; rfl
 refine rS (Mm ((((k:Int)-1-(i:Int))).toNat) U (aa (n:=(m.set i y).length) 0 U sm) b0 dc om om (by simp; omega)) ?_
 refine aG (O _ _ (aJ []) ?_)
 refine cf U fun T12 D=>dk (k:=(((k:Int)-1-(i:Int))).toNat) (o:=0) (vs:=[(vI x)]) (es':=(List.map iC ((m.set i y).set ((((k:Int)-1-(i:Int))).toNat) x))) (C':=[(own lA lC 3 1 (List.map iC ((m.set i y).set ((((k:Int)-1-(i:Int))).toNat) x)))]) 0 U U U xg U U U U hx11m U dc (by exact (List.map_set (f:=iC) (l:=(m.set i y)) (i:=(((k:Int)-1-(i:Int))).toNat) (a:=x)).symm) U<|aG (D _ _ (aJ []) ?_)
 refine fH U<|aH<|KK M<|au<|rP 6 [] I ?_
 refine aG ?_
 have E:(vI (((i+1):Nat):Int))=(vI ((i:Int)+1)):=by exact cI om
 have F:(vI ((k:Int)-1-(((i+1):Nat):Int)))=(vI (((k:Int)-1-(i:Int))-1)):=by exact cI om
 refine bc (AB ⟨((i+1),((m.set i y).set ((((k:Int)-1-(i:Int))).toNat) x)),⟨om,E7 hk om om A hx hy⟩⟩ _ _ _ U os (ew.cons U<|bO U E<|bO U F<|ew.nil _) (aJ [0]))
end
section
open Go.RowKit
theorem FT (a b:Int) (m:fp) (gm g1:Nat) (hb: ∀ p∈m,0≤p.2.Lo∧p.2.Lo≤p.2.Hi∧p.2.Hi≤30000000):
 dQ Tryz.prog 48 [(vI a),(vI b),(vP g1)] [(fJ iV gm (bo cW m)),(bJ g1 64 [(Value.map (some gm))])] (vI ((ar m a).Hi-(ar m b).Hi)):=by
 have A:=fg (i:=a) hb
 have B:=fg (i:=b) hb
 refine bx kr Tryz.func48 U U fun E Q hQ hN=>?_
 try dsimp only
 refine WS fun _ C=>a_ 1 U<|RK C<|WS fun _ D=>hE 2 [] (mr 1 U I) U<|rS (SX (i_ (kV:=iV) (x:=a) (l:=m) (f:=cW) (z:=(ab.mk 0 0)) U U U lf (dv nO) sx (by exact jr 0 U)) U U)<|rS (SX (kh (v:=(vI (((List.lookup a m).getD (ab.mk 0 0)).Hi))) U U fI yP U) U U)<|rP 2 [] (mr 1 U I) ?_
 refine rS (SX (i_ (kV:=iV) (x:=b) (l:=m) (f:=cW) (z:=(ab.mk 0 0)) U U U lf (dv nO) sx (by exact jr 0 U)) U U)<|rS (SX (kh (v:=(vI (((List.lookup b m).getD (ab.mk 0 0)).Hi))) U U fI yP U) U U) ?_
 unfold ar at A B
 simp only [cZ] at A B
 refine rP 2 [] I ?_
 refine RK D<|aB ?_
 exact Q1 hQ U U U U
theorem Ay (heatX:Int) (r:bQ) (kA:OA) (kC:Nat) (az:List RA) (cA:OA) (cC:Nat) (bA:OA) (bC:Nat) (slA:OA) (slC:Nat) (drA:OA) (drC:Nat) (ha:List cb) (heA:OA) (heC:Nat) (hin:dG r az ha):
 kd Tryz.prog 20 [(vA (bV.cells (nM r kA kC cA cC bA bC slA slC drA drC heA heC))),(vI heatX)] [(rd dH 3 2 c4),(rd kA r.ai.aO.length 9 (r.ai.aO.map ao.cells)),(rd cA r.ai.ak.length 2 (List.zipWith aA.cells r.ai.ak az)),(eR (aR aA.jx r.ai.ak az)),(rd bA r.ai.ag.length 4 (r.ai.ag.map bG.cells)),(rd slA r.aI.length 1 (r.aI.map iC)),(rd drA r.bu.length 1 (r.bu.map iC)),(rd heA r.aq.length 1 (List.zipWith cm r.aq ha)),(eR (aR ja r.aq ha))] (fun (x:(OA)×Nat)=>(vT [(vS x.1 ((e9 r heatX).length) x.2),(vI (e8 r heatX))])) (fun (x:(OA)×Nat)=>True) (fun (x:(OA)×Nat)=>[(own x.1 x.2 3 1 ((e9 r heatX).map iC))]):=by
 have Ck:=hin.line
 have Go:=hin.g9
 have Hl:=hin.has
 have EQ:=hin.gT
 have A1:=hin.draw
 have A4:=dy (r:=r)
 refine cS kr Tryz.func20 U U fun w0 Q hQ hN=>?_
 try dsimp only
 refine WS fun _ Ci=>g5 U fun b2=>a_ 2 U<|RK Ci<|vm U<|WS fun _ e=>rP 1 [] (mc 0 U I) ?_
 refine cX (ly r kA kC az cA cC bA bC slA slC drA drC ha heA heC hin) (bj [1,2,3,4,5,6,7,8,9]) U fun y4 A5=>?_
 obtain ⟨A6,Fn,B9,B7,C1,A7,A8⟩:=y4
 cases A6
 ·obtain ⟨A2,he⟩:=A5.2 rfl
  try dsimp only at A2 he
  subst A2
  try dsimp only [cond_true,cond_false,List.cons_append,List.nil_append]
  refine a_ 5 U<|RK e<|al fun _ EB=>WS fun _ R=>rP 2 [] I ?_
  refine RK R<|cu U (bM fun P=>?_) (bL fun P=>?_)
  ·exact absurd P he
  refine WS fun _ S=>rP 1 [] I ?_
  have A:e8 r heatX=cc r:=yc he
  have B:e9 r heatX=[]:=uf (by rw [A]; exact he)
  refine dw 3 1 ?_
  rw [show (own none 0 3 1 ([]:List (List Value)))=own none 0 3 1 ((e9 r heatX).map iC) from by rw [B]; rfl]
  refine rP 2 [] I ?_
  refine RK S<|aB ?_
  refine LX hQ (none,0) [0] [] I U U U ?_ ?_
  ·first|rfl|(rw [A,B]; rfl)|(rw [A]; rfl)|(rw [A,B,iq]; rfl)
  ·trivial
 obtain ⟨he,Cx⟩:=A5.1 rfl
 try dsimp only [cond_true,cond_false,List.cons_append,List.nil_append]
 have G:=(gQ he).2
 have H1:=G.zI
 have GT:=G.Fj
 refine a_ 5 U<|RK e<|al fun _ T=>WS fun _ AA=>a_ 1 U<|rS (SX (bw (r:= .bool false) U U U lp) U U)<|RK AA<|aM U<|WK T<|al fun _ V=>WS fun _ W=>rP 4 [] (mc 4 U I) ?_
 refine ck (xs:=[.tmp 25]) (cs:=[(vI heatX)]) U b0 gI U U U U (by simp [Value.cells]) U U fun Bi=>?_
 refine rS (CL (dQ.eq (il 0 (r.aq.length:Int) ([heatX]) (some ⟨Bi,0,none⟩) 1 sd) bZ) (ae (aP 0 U U (by simp [aW]) U)<|aC) U) ?_
 refine rP 1 [] I ?_
 refine RK W<|dF U (bL fun CP=>?_) (bM fun CP=>?_)
 ·refine WS fun _ X=>?_
  have A:e8 r heatX=2:=yO he om
  have B:e9 r heatX=[]:=uf (by rw [A]; decide)
  refine dw 3 1 ?_
  rw [show (own none 0 3 1 ([]:List (List Value)))=own none 0 3 1 ((e9 r heatX).map iC) from by rw [B]; rfl]
  refine rP 2 [] I ?_
  refine RK X<|aB ?_
  refine LX hQ (none,0) [0] [] I U U U ?_ ?_
  ·first|rfl|(rw [A,B]; rfl)|(rw [A]; rfl)|(rw [A,B,iq]; rfl)
  ·trivial
 refine WK V<|al fun _ Y=>WS fun _ Z=>rP 2 [] I ?_
 refine RK Z<|dF U (aY fun D=>?_) (aZ fun D=>?_)
 ·refine WS fun _ b=>rP 2 [] (mc 5 U I) ?_
  refine cX (rm r.bu drA drC sd) (bj [12]) U fun Di Ej=>?_
  obtain ⟨N,O⟩:=Di
  try dsimp only
  have A:e8 r heatX=0:=uz he om
  have B:e9 r heatX=r.bu:=qP A D
  rw [show (own N O 3 1 (r.bu.map iC))=(own N O 3 1 ((e9 r heatX).map iC)) from by rw [qP A D]]
  refine rP 2 [] I ?_
  refine RK b<|aB ?_
  refine LX hQ (N,O) [0] [] I U U U ?_ ?_
  ·first|rfl|(rw [A,B]; rfl)|(rw [A]; rfl)|(rw [A,B,iq]; rfl)
  ·trivial
 refine WK Y<|WS fun _ d=>?_
 obtain ⟨n,rfl⟩: ∃ n:Nat,heatX=(n:Int):=⟨heatX.toNat,om⟩
 refine rP 2 [] I ?_
 refine cX (IS r kA kC az cA cC bA bC slA slC drA drC ha heA heC A8 C1 A7 (Value.map (some B7)) B9 n hin om sd (by exact G.uM)) (kp [7,8,9,10,11,12,13,14]<|ae (aa (n:=(cr r).length) 2 U (ke (by rw [A4]; exact Cx)))<|ae (bS 3 U pM)<|cY 1 U U<|aC) U fun C Eq=>?_
 try dsimp only
 refine AL U L9 fun AB=>CD U Gp U U<|RK d<|WS fun _ g=>a_ 1 U<|RK g<|al fun _ h=>u6<|KK h<|al fun _ j=>WS fun _ k=>rP 4 [] (mc 7 U I) ?_
 refine RK k<|aF<|gl 3 1 ?_
 have F:(0≤r.bu.length):=by exact Nat.zero_le _
 refine bX (ι:={z:Nat×(OA)×Nat // (z.1≤r.bu.length)}) [1,2,6,8,38,39] [1,2,5,6,7,8,9,10,11,12,13,14,15,16,17] U U (fun z=>[(9,(vS z.1.2.1 (((r.bu.take z.1.1).filter fun u=>(List.lookup u (dn r n)).isSome).length) z.1.2.2)),(40,(vI (z.1.1:Int)))]) (fun z=>[(own z.1.2.1 z.1.2.2 3 1 (((r.bu.take z.1.1).filter fun u=>(List.lookup u (dn r n)).isSome).map iC))]) (fun _=>rfl) (fun _=>rfl) (fun z=>r.bu.length-z.1.1) ⟨(0,none,0),F⟩ (aT U) (aJ [1,2,5,6,7,8,9,10,11,12,13,14,15,16,17,0]) ?_
 clear F
 rintro ⟨⟨i,a,c⟩,K⟩ J38 L
 try dsimp only at K
 try dsimp only
 refine WS fun _ m=>rP 1 [] I ?_
 refine RK m<|al fun _ o=>cu U (aZ fun CY=>?_) (aY fun CY=>?_)
 ·refine bq<|ah<|ah<|aD<|KK j<|al fun _ v=>?_
  rw [show r.bu.take i=r.bu from List.take_of_length_le om]
  refine au<|rP 1 [] I ?_
  have Cp:=AF he (show n≤r.aq.length by omega)
  have A3:=Nat.le_trans (List.length_filter_le (fun u=>(List.lookup u (dn r n)).isSome) r.bu) A1
  have GE:(di (fun u=>(ar (dn r n) u).Hi) (r.bu.filter fun u=>(List.lookup u (dn r n)).isSome)).length≤12:=by rw [iD]; exact A3
  refine rS (FU U) ?_
  refine cX (uI (r.bu.filter fun u=>(List.lookup u (dn r n)).isSome) a c (Value.func (.func 48) [].toArray [(vP AB)].toArray) (fun u=>(ar (dn r n) u).Hi) (eR [(fJ iV C (bo cW (dn r n))),(bJ AB 64 [(Value.map (some C))])]) (by intro C2 C5 _; exact kK (fi:=[]) (ca:=[(vP AB)]) (jP (FT C2 C5 (dn r n) C AB (by first|assumption|omega)) (bj [0,1]))) (by exact Lb Cp) (by exact A3)) (ae (aa (n:=(r.bu.filter fun u=>(List.lookup u (dn r n)).isSome).length) 15 U sm)<|ae (jO (bj [1,0]))<|aC) U fun Do E9=>?_
  obtain ⟨H,J⟩:=Do
  try dsimp only
  refine a_ 1 U<|RK v<|WS fun _ w=>rP 5 [] (mc 6 U I) ?_
  refine rS (MN U)<|DS 0 U fun A0=>?_
  simp only [List.length_map] at A0
  refine rS (Nl (((min r.gf (((di (fun u=>(ar (dn r n) u).Hi) (r.bu.filter fun u=>(List.lookup u (dn r n)).isSome)).length:Nat):Int))).toNat) U b0 om (by first|omega|exact Nat.zero_le _|(simp; omega))) ?_
  refine g8 0 U U U U (Co (di (fun u=>(ar (dn r n) u).Hi) (r.bu.filter fun u=>(List.lookup u (dn r n)).isSome)) H J (((min r.gf (((di (fun u=>(ar (dn r n) u).Hi) (r.bu.filter fun u=>(List.lookup u (dn r n)).isSome)).length:Nat):Int))).toNat) om om) U jg U (fun IO FS=>?_)
  try dsimp only
  refine RK w<|WS fun _ y=>rP 1 [] I ?_
  have A:e8 r (n:Int)=0:=uz he om
  have B:e9 r (n:Int)=(oq (((min r.gf (((di (fun u=>(ar (dn r n) u).Hi) (r.bu.filter fun u=>(List.lookup u (dn r n)).isSome)).length:Nat):Int))).toNat) (di (fun u=>(ar (dn r n) u).Hi) (r.bu.filter fun u=>(List.lookup u (dn r n)).isSome))):=by rw [qK A D]; exact (uJ rfl om).symm
  rw [show (own H J 3 1 ((oq (((min r.gf (((di (fun u=>(ar (dn r n) u).Hi) (r.bu.filter fun u=>(List.lookup u (dn r n)).isSome)).length:Nat):Int))).toNat) (di (fun u=>(ar (dn r n) u).Hi) (r.bu.filter fun u=>(List.lookup u (dn r n)).isSome))).map iC))=(own H J 3 1 ((e9 r (n:Int)).map iC)) from by rw [qK A D]; exact congrArg (fun z=>own _ _ _ _ (List.map iC z)) (uJ rfl om)]
  refine rP 2 [] I ?_
  refine RK y<|aB ?_
  refine LX hQ (H,J) [0] [] I U U U ?_ ?_
  ·first|rfl|(rw [A,B]; rfl)|(rw [A]; rfl)|(rw [A,B,iq]; rfl)
  ·trivial
 refine WK o<|al fun _ M=>aF<|WS fun _ p=>?_
 obtain ⟨x,hx⟩:=aQ r.bu i om
 have C0:=cG iC hx
 refine rS (IA i U (aS 12 U) b0 dc om om)<|rS (g4 i 0 (vI x) U cz (aS 12 U) C0 U dc U)<|a_ 1 U<|RK p<|al fun _ q=>WS fun _ s=>hE 2 [] (mc 0 U I) U<|rS (SX (iQ (kV:=iV) (x:=x) (l:=(dn r n)) (f:=cW) (z:=(ab.mk 0 0)) U U U lf (dv nO) sx (by exact aS 1 U)) U U)<|a_ 3 U<|AL U dK fun FZ=>fw U cT U<|a_ 1 U<|RK s<|WS fun _ t=>rP 2 [] I ?_
 refine RK t<|dF U (fun E=>?_) (fun E=>?_)
 ·rw [Bool.not_eq_true'] at E
  refine bq<|ah<|aD<|KK M<|au<|rP 2 [] I ?_
  refine aG ?_
  rw [show ((r.bu.take i).filter fun u=>(List.lookup u (dn r n)).isSome)=((r.bu.take (i+1)).filter fun u=>(List.lookup u (dn r n)).isSome) from (zX hx E).symm]
  have AC:(vI (((i+1):Nat):Int))=(vI ((i:Int)+1)):=by exact cI om
  refine bc (L ⟨((i+1),a,c),(by first|omega|(simp only []; omega))⟩ _ _ _ U os (du 7<|bO U AC<|ew.nil _) (aJ [1,2,3,4,5,6,7,8,9,10,11,12,13,14,15,16]))
 rw [Bool.not_eq_false'] at E
 refine WK q<|au<|rP 2 [] I ?_
 refine ck (xs:=[.tmp 53]) (cs:=[(vI x)]) U b0 gI U U U U (by simp [Value.cells]) U U fun Fd=>?_
 refine dL (es2:=(List.map iC ((r.bu.take (i+1)).filter fun u=>(List.lookup u (dn r n)).isSome))) (m':=((r.bu.take (i+1)).filter fun u=>(List.lookup u (dn r n)).isSome).length) 17 U U U q8 U U sm (aP (es:=List.map iC [x]) 0 U U (by simp [aW]) U) (ku _) (by have:=List.length_filter_le (fun u=>(List.lookup u (dn r n)).isSome) (r.bu.take i); rw [List.length_take] at this; first|omega|(simp; omega)) (by have:=List.length_filter_le (fun u=>(List.lookup u (dn r n)).isSome) (r.bu.take i); rw [List.length_take] at this; simp only [maxLen]; first|omega|(simp; omega)) (by rw [sj hx E]; simp) sm U fun A9 B3=>?_
 try dsimp only
 refine a_ 1 U<|aG<|aH<|KK M<|au<|rP 2 [] I ?_
 refine aG ?_
 have AO:(vI (((i+1):Nat):Int))=(vI ((i:Int)+1)):=by exact cI om
 refine bc (L ⟨((i+1),A9,B3),(by first|omega|(simp only []; omega))⟩ _ _ _ U os (du 7<|bO U AO<|ew.nil _) (aJ [2,3,4,5,6,7,8,9,10,11,12,13,14,15,16,17]))
end
section
open Go.RowKit
theorem FW (m:fp) (gm g1:Nat):
 zC Tryz.prog 68 [] [(vP g1)] [(fJ iV gm (bo cW m)),(bJ g1 64 [(Value.map (some gm))])] ([]:List Int) (fun ys x ys'=> ∃ n zs,(ys++[n]++zs).Perm (m.map (·.1))∧x=[vI n]∧ys'=ys++[n]) (fun ys=>ys.Perm (m.map (·.1))):=by
 refine o9 kr Tryz.func68 U U fun l J Z A0 S Q hY M L hQ hN=>?_
 try dsimp only
 refine WS fun _ O=>rP 1 [] (mr 2 U I) ?_
 refine ic (kV:=iV) (m:=bo cW m) 1 U U lf U ⟨U,fun h=>h⟩ (by exact jr 1 U) U fun V=>?_
 try dsimp only
 refine RK O<|aF ?_
 have G:(lQ m m ([]:List Int))∧(∀ p∈m,p∈m)∧(J ([]:List Int) A0)∧(Fo A0 S A0):=by exact ⟨qU,fun p hp=>hp,M,L⟩
 refine bX (ι:={z:fp×(List Int)×aj // (lQ m z.1 z.2.1)∧(∀ p∈z.1,p∈m)∧(J z.2.1 z.2.2)∧(Fo A0 S z.2.2)}) [0,1,5] [2,3] U U (fun z=>[]) (fun z=>[(ti iV V gm (bo cW m) (bo cW z.1.1) none),z.1.2.2]) (fun _=>rfl) (fun _=>rfl) (fun z=>z.1.1.length) ⟨(m,([]:List Int),A0),G⟩ (ew.nil _) (aJ [2,3,0,1]) ?_
 clear G
 rintro ⟨⟨left,ys,A⟩,⟨B,H,C,D⟩⟩ J3 N
 try dsimp only at B H C D
 try dsimp only
 refine WS fun _ AB=>gL (dv nO).inj (f:=cW) 2 U U U U (fun T=>?_) (fun x y hm hn=>?_)
 ·refine rP 1 [] I ?_
  refine RK AB<|al fun _ AA=>aM U<|bq<|ah<|ah<|aD ?_
  refine hN _ _ _ (fr (vs:=[]) trivial fun w hs=>Fg 3 U (by rw [T] at B; exact se B) C D hs)
 try dsimp only
 refine a_ 1 U<|RK AB<|al fun _ P=>aX U<|WK P<|aF<|WS fun _ R=>rS (SX (gJ 2 U U U) U U)<|a_ 2 U<|RK R<|WS fun _ K=>rP 2 [] I ?_
 refine iE (k:=ys) (k':=(ys++[(x)])) 3 (by first|exact hsz|exact Nat.le_refl _) hY C D U U U (by exact ⟨x,_,lF hn hm B,U,U⟩) U U (fun B9 F E=>?_) (fun B9 F E=>?_)
 rotate_left 1
 ·refine rP 1 [] I ?_
  refine RK K<|aX U<|aB ?_
  refine hQ _ _ _ (fr (vs:=[]) trivial fun w hs=>oB 3 U F E hs)
 refine rP 1 [] I ?_
 refine RK K<|aM U<|cJ<|aH<|fm 2 U ef U ?_
 refine bc (N ⟨((bR left x),(ys++[(x)]),B9),⟨lF hn hm B,eG H,F,E⟩⟩ _ _ _ U (dD hm) (aT U) (aJ [0,1,2,3]))
theorem z_ (gm:Nat):
 kd Tryz.prog 42 [(Value.map (some gm))] [] (fun (x:Nat)=>(Value.func (.func 68) [].toArray [(vP x)].toArray)) (fun (x:Nat)=>True) (fun (x:Nat)=>[(bJ x 64 [(Value.map (some gm))])]):=by
 refine cS kr Tryz.func42 U U fun D Q hQ hN=>?_
 try dsimp only
 refine WS fun _ A=>qo U U fun C=>a_ 1 U<|RK A<|WS fun _ B=>rS (FU U)<|rP 1 [] I ?_
 refine RK B<|aB<|LX hQ C [0] [] I U U U U ?_
 trivial
end
section
open Go.RowKit
theorem BK (m:fp) (gm g1:Nat) (hlen:m.length≤12):
 kd Tryz.prog 94 [(vS none 0 0),(Value.func (.func 68) [].toArray [(vP g1)].toArray)] [(fJ iV gm (bo cW m)),(bJ g1 64 [(Value.map (some gm))])] (fun (x:(List Int)×(OA)×Nat)=>(vS x.2.1 x.1.length x.2.2)) (fun (x:(List Int)×(OA)×Nat)=>x.1.Perm (m.map (·.1))) (fun (x:(List Int)×(OA)×Nat)=>[(own x.2.1 x.2.2 3 1 (x.1.map iC))]):=by
 refine cS kr Tryz.func94 U U fun X Q hQ hN=>?_
 try dsimp only
 refine WS fun _ AB=>qo U U fun N=>a_ 1 U<|RK AB<|al fun _ J=>WS fun _ K=>rP 1 [] I ?_
 refine RK K<|aF<|iG 1 U (by exact fun _ h=>h)<|iG 3 U (by exact fun _ h=>h)<|gl 3 1 ?_
 refine ko (L0:=[(2,(vP N))]) (F:=[(fJ iV gm (bo cW m)).ro,(bJ g1 64 [(Value.map (some gm))]).ro]) (fun k (y:(OA)×Nat)=>(∃ zs,(k++zs).Perm (m.map (·.1)))) (fun k y=>[(own y.1 y.2 3 1 (k.map iC)),(bJ N 32 [(vS y.1 k.length y.2)]),(fJ iV gm (bo cW m)).ro]) (fun _ (_:Unit)=>False) (fun _ _=>[]) [0,3,4] [2,1] (none,0) rfl rfl (FW m gm g1) rfl rfl rfl (by exact ⟨_,List.Perm.refl _⟩) (by simp only [List.forall_mem_cons,List.not_mem_nil,false_imp_iff,implies_true,and_true]; exact ⟨⟨_,sm,(dT (bI _))⟩,⟨_,sm,(dT (bI _))⟩⟩) (by rintro k x AA ⟨n,zs,_,rfl,_⟩; rfl) rfl (aT rfl) ?_ ?_ (fun _ _ _ h=>h.elim) (fun _ _ h=>h.elim)
 rotate_left 1
 ·rintro V k ⟨a,c⟩ E A
  have B:=A
  try dsimp only at B
  try dsimp only
  refine aH<|KK J<|WS fun _ C=>rP 2 [] (mc 4 U I) ?_
  refine RK C<|aB<|hQ _ _ _ (lK 0 U U<|fr (vs:=[(vS a k.length c)]) ⟨U,trivial⟩ fun w hs=>FB (k,a,c) [3] ?_ ?_ U U U hs)
  ·rfl
  ·first|exact E|exact hys
 rintro k x AA ⟨a,c⟩ l ra rb S Y K5 Qr6 T hx G L D O P
 obtain ⟨n,zs,hn,rfl,rfl⟩:=hx; have M:=hn.length_eq; simp only [List.length_append,List.length_map,List.length_singleton] at M
 have B:=G
 try dsimp only at B
 try dsimp only
 refine au<|rP 1 [] I ?_
 refine aG<|bc (L _ _ ?_)
 refine aF<|au<|rP 2 [] (mc 2 U I) ?_
 refine ck (xs:=[.tmp 9]) (cs:=[(vI n)]) U b0 gI U U U U (by simp [Value.cells]) U U fun W=>?_
 refine dL (es2:=(List.map iC (k++[n]))) (m':=(k++[n]).length) 2 U U U q8 U U sm (aP (es:=List.map iC [n]) 0 U U (by simp [aW]) U) (ku _) os (by simp only [maxLen]; omega) sm sm U fun R H=>?_
 try dsimp only
 refine Nr U xn U U<|aG<|aH ?_
 exact D (R,H) _ _ (by exact ⟨_,hn⟩) (aJ [1,2,3,4])
end
section
open Go.RowKit
theorem zg (m:fp) (gm g1:Nat) (hlen:m.length≤12):
 kd Tryz.prog 67 [(Value.func (.func 68) [].toArray [(vP g1)].toArray)] [(fJ iV gm (bo cW m)),(bJ g1 64 [(Value.map (some gm))])] (fun (x:(List Int)×(OA)×Nat)=>(vS x.2.1 x.1.length x.2.2)) (fun (x:(List Int)×(OA)×Nat)=>x.1.Perm (m.map (·.1))) (fun (x:(List Int)×(OA)×Nat)=>[(own x.2.1 x.2.2 3 1 (x.1.map iC))]):=by
 refine cS kr Tryz.func67 U U fun AA Q hQ hN=>?_
 try dsimp only
 refine WS fun _ A=>a_ 1 U<|RK A<|WS fun _ B=>rP 1 [] I ?_
 refine cX (BK m gm g1 hlen) (bj [0,1]) U fun H C=>?_
 obtain ⟨E,F,G⟩:=H
 try dsimp only
 have D:=C
 refine rP 1 [] I ?_
 refine RK B<|aB<|LX hQ (E,F,G) [0] [] I U U U U ?_
 first|exact hfin|exact D
theorem tn (m:fp) (gm g1:Nat) (hlen:m.length≤12):
 kd Tryz.prog 41 [(Value.func (.func 68) [].toArray [(vP g1)].toArray)] [(fJ iV gm (bo cW m)),(bJ g1 64 [(Value.map (some gm))])] (fun (x:(OA)×Nat)=>(vS x.1 m.length x.2)) (fun (x:(OA)×Nat)=>True) (fun (x:(OA)×Nat)=>[(own x.1 x.2 3 1 ((cp (m.map (·.1))).map iC))]):=by
 refine cS kr Tryz.func41 U U fun M Q hQ hN=>?_
 try dsimp only
 refine WS fun _ E=>a_ 1 U<|RK E<|WS fun _ F=>rP 1 [] I ?_
 refine cX (zg m gm g1 hlen) (bj [0,1]) U fun L H=>?_
 obtain ⟨AA,J,K⟩:=L
 try dsimp only
 have D:=H
 refine a_ 1 U<|RK F<|WS fun _ G=>rP 1 [] I ?_
 have B:=D.length_eq
 simp only [List.length_map] at B
 refine g8 0 U U U U (vO AA J K sd) U jg U (fun ms C=>?_)
 try dsimp only
 refine RK G<|WS fun _ A=>?_
 obtain rfl:=ni (C.1.trans D) C.2
 skip
 refine rP 2 [] I ?_
 refine RK A<|aB ?_
 refine LX hQ (J,K) [0] [] I U U U ?_ ?_
 ·first|rfl|(rw [B]; rfl)
 ·trivial
end
section
open Go.RowKit
theorem Ds (a b:Int) (r:bQ) (kA:OA) (kC:Nat) (cA:OA) (cC:Nat) (bA:OA) (bC:Nat) (slA:OA) (slC:Nat) (drA:OA) (drC:Nat) (heA:OA) (heC:Nat) (tA:OA) (tN tC:Nat) (gs gw:Nat) (m:fp) (g1:Nat) (hb: ∀ p∈m,0≤p.2.Lo∧p.2.Lo≤p.2.Hi∧p.2.Hi≤30000000):
 dQ Tryz.prog 50 [(vI a),(vI b),(vP g1)] [(bJ gw 91 (eu.cells (eu.mk (nM r kA kC cA cC bA bC slA slC drA drC heA heC) (ba.mk tA tN tC) (Value.map (some gs))))),(fJ iV gs (bo cW m)),(bJ g1 81 [(vP gw)])] (vI ((ar m a).Lo-(ar m b).Lo)):=by
 have A:=fg (i:=a) hb
 have B:=fg (i:=b) hb
 refine bx kr Tryz.func50 U U fun E Q hQ hN=>?_
 try dsimp only
 refine WS fun _ C=>a_ 1 U<|RK C<|al fun _ D=>dR cE 16 kr<|m7 1 [] (mr 2 U I) U<|dS (SX (bk U U) U U)<|m7 3 [] (mr 0 U I) U<|dS (SX (i_ (kV:=iV) (x:=a) (l:=m) (f:=cW) (z:=(ab.mk 0 0)) U U U lf (dv nO) sx (by exact jr 1 U)) U U)<|dS (SX (kh (v:=(vI (((List.lookup a m).getD (ab.mk 0 0)).Lo))) U U fI zb U) U U)<|m7 1 [] (mr 2 U I) U<|dS (SX (bk U U) U U)<|dP 3 [] (mr 0 U I) ?_
 refine dS (SX (i_ (kV:=iV) (x:=b) (l:=m) (f:=cW) (z:=(ab.mk 0 0)) U U U lf (dv nO) sx (by exact jr 1 U)) U U)<|dS (SX (kh (v:=(vI (((List.lookup b m).getD (ab.mk 0 0)).Lo))) U U fI zb U) U U) ?_
 unfold ar at A B
 simp only [cZ] at A B
 refine dP 2 [] I ?_
 refine dJ<|RK D<|aB ?_
 exact Q1 hQ U U U U
theorem vq (r:bQ) (kA:OA) (kC:Nat) (az:List RA) (cA:OA) (cC:Nat) (bA:OA) (bC:Nat) (slA:OA) (slC:Nat) (drA:OA) (drC:Nat) (ha:List cb) (heA:OA) (heC:Nat) (hin:dG r az ha):
 kd Tryz.prog 21 [(vA (bV.cells (nM r kA kC cA cC bA bC slA slC drA drC heA heC)))] [(rd dH 3 2 c4),(rd kA r.ai.aO.length 9 (r.ai.aO.map ao.cells)),(rd cA r.ai.ak.length 2 (List.zipWith aA.cells r.ai.ak az)),(eR (aR aA.jx r.ai.ak az)),(rd bA r.ai.ag.length 4 (r.ai.ag.map bG.cells)),(rd slA r.aI.length 1 (r.aI.map iC)),(rd drA r.bu.length 1 (r.bu.map iC)),(rd heA r.aq.length 1 (List.zipWith cm r.aq ha)),(eR (aR ja r.aq ha))] (fun (x:(List RA)×(OA)×Nat)=>(vT [(vS x.2.1 ((cw r).length) x.2.2),(vI (cc r))])) (fun (x:(List RA)×(OA)×Nat)=>x.1.length=(cw r).length) (fun (x:(List RA)×(OA)×Nat)=>[(own x.2.1 x.2.2 32 1 (List.zipWith j5 (cw r) x.1)),(bf (aR oQ (cw r) x.1))]):=by
 have Hl:=hin.line
 have K5:=hin.g9
 have K8:=hin.has
 have JQ:=hin.gT
 have In:=hin.draw
 have Jn:=dy (r:=r)
 refine cS kr Tryz.func21 U U fun w0 Q hQ hN=>?_
 try dsimp only
 refine WS fun _ Fj=>g5 U fun b2=>a_ 2 U<|RK Fj<|WS fun _ A0=>rP 1 [] (mc 0 U I) ?_
 refine cX (ly r kA kC az cA cC bA bC slA slC drA drC ha heA heC hin) (bj [1,2,3,4,5,6,7,8,9]) U fun y4 Do=>?_
 obtain ⟨EB,Kn,X,O,EQ,W,J5⟩:=y4
 cases EB
 ·obtain ⟨C2,he⟩:=Do.2 rfl
  try dsimp only at C2 he
  subst C2
  try dsimp only [cond_true,cond_false,List.cons_append,List.nil_append]
  refine a_ 3 U<|AL U Md fun J7=>CD U KU U U<|a_ 1 U<|RK A0<|al fun _ If=>WS fun _ p=>rP 2 [] I ?_
  refine RK p<|cu U (bM fun g=>?_) (bL fun g=>?_)
  ·exact absurd g he
  refine WS fun _ s=>rP 1 [] I ?_
  have E:cw r=[]:=xz he
  have Z:([]:List RA).length=(cw r).length:=by rw [E]; rfl
  refine dw 32 1<|FY ?_
  rw [show (own none 0 32 1 ([]:List (List Value)))=own none 0 32 1 (List.zipWith j5 (cw r) []) from by rw [E]; rfl,show bf []=bf (aR oQ (cw r) []) from by rw [E]; rfl]
  refine rP 2 [] I ?_
  refine RK s<|aB ?_
  refine LX hQ ([],none,0) [1,0] [] I U (by show List.all _ _=true; simp only [e6,List.all_nil,Fs,Bool.and_true]; rfl) U ?_ ?_
  ·first|rfl|(rw [E]; rfl)|(rw [he,← E,List.length_map]; rfl)|(rw [he,E]; rfl)
  ·exact Z
 obtain ⟨he,LE⟩:=Do.1 rfl
 try dsimp only [cond_true,cond_false,List.cons_append,List.nil_append]
 have AB:=lR he
 have JO:=l8 he
 refine a_ 3 U<|AL U Md fun R=>CD U KU U U<|a_ 1 U<|RK A0<|al fun _ t=>WS fun _ v=>a_ 1 U<|rS (SX (bw (r:= .bool false) U U U lp) U U)<|RK v<|aM U<|WK t<|WS fun _ w=>a_ 1 U<|RK w<|WS fun _ y=>a_ 1 U<|RK y<|al fun _ AC=>WS fun _ AO=>hE 1 [] (mc 0 U I) U<|rS (SX (bk U U) U U)<|rP 2 [] (mc 1 U I) ?_
 refine cX (z_ O) (aC) U fun E9 J2=>?_
 try dsimp only
 refine cX (tn (ax r) O E9 sd) (bj [5,0]) U fun IV J3=>?_
 obtain ⟨Eq,FS⟩:=IV
 try dsimp only
 rw [show (ax r).length=(cp ((ax r).map (·.1))).length from by rw [e5,List.length_map]]
 refine rS (FU U) ?_
 refine cX (uI (cp ((ax r).map (·.1))) Eq FS (Value.func (.func 50) [].toArray [(vP R)].toArray) (fun u=>(ar (ax r) u).Lo) (eR [(bJ X 91 (eu.cells (eu.mk (nM r kA kC cA cC bA bC slA slC drA drC heA heC) (ba.mk EQ ((cr r).length) W) (Value.map (some O))))),(fJ iV O (bo cW (ax r))),(bJ R 81 [(vP X)])]) (by intro IO IR _; exact kK (fi:=[]) (ca:=[(vP R)]) (jP (Ds IO IR r kA kC cA cC bA bC slA slC drA drC heA heC EQ ((cr r).length) W O X (ax r) R (by first|assumption|omega)) (Hy 0 1 2 U U U U U U))) (by exact Lp AB) (by rw [e5,List.length_map]; omega)) (ae (aa (n:=(cp ((ax r).map (·.1))).length) 0 U sm)<|ae (jO (Hy 3 6 2 U U U U U U))<|aC) U fun Id J4=>?_
 obtain ⟨J6,Ke⟩:=Id
 try dsimp only
 have LA:(di (fun u=>(ar (ax r) u).Lo) (cp ((ax r).map (·.1)))).length=(ax r).length:=by rw [iD,e5,List.length_map]
 have Di:zw (fun u=>(ar (ax r) u).Lo) (di (fun u=>(ar (ax r) u).Lo) (cp ((ax r).map (·.1)))):=qn
 refine rP 2 [] I ?_
 refine RK AO<|aF<|gl 32 1<|nt ?_
 have H:(0≤(di (fun u=>(ar (ax r) u).Lo) (cp ((ax r).map (·.1)))).length)∧(([]:List RA).length=([]:List (List Int)).length)∧(jU (ar (ax r)) ((di (fun u=>(ar (ax r) u).Lo) (cp ((ax r).map (·.1)))).take 0) ([]:List (List Int)) (-1))∧(-1≤(-1)∧(-1)≤30000000):=by exact ⟨Nat.zero_le _,rfl,AQ,om⟩
 refine bX (ι:={z:Nat×(List (List Int))×(List RA)×(OA)×Nat×Int // (z.1≤(di (fun u=>(ar (ax r) u).Lo) (cp ((ax r).map (·.1)))).length)∧(z.2.2.1.length=z.2.1.length)∧(jU (ar (ax r)) ((di (fun u=>(ar (ax r) u).Lo) (cp ((ax r).map (·.1)))).take z.1) z.2.1 z.2.2.2.2.2)∧(-1≤z.2.2.2.2.2∧z.2.2.2.2.2≤30000000)}) [1,4,29,30] [2,3,5,6,7,8,9,11,12,13,14,15,16,17,18,19] U U (fun z=>[(6,(vS z.1.2.2.2.1 z.1.2.1.length z.1.2.2.2.2.1)),(7,(vI z.1.2.2.2.2.2)),(31,(vI (z.1.1:Int)))]) (fun z=>[(bf (aR oQ z.1.2.1 z.1.2.2.1)),(own z.1.2.2.2.1 z.1.2.2.2.2.1 32 1 (List.zipWith j5 z.1.2.1 z.1.2.2.1))]) (fun _=>rfl) (fun _=>rfl) (fun z=>(di (fun u=>(ar (ax r) u).Lo) (cp ((ax r).map (·.1)))).length-z.1.1) ⟨(0,([]:List (List Int)),([]:List RA),none,0,(-1)),H⟩ (aT U) (aJ [2,3,5,6,7,8,9,11,12,13,14,15,16,17,18,19,0,1]) ?_
 clear H
 rintro ⟨⟨i,G,gz,a,c,last⟩,⟨b,C,A,d⟩⟩ J37 T
 try dsimp only at b C A d
 try dsimp only
 have GE:G.length≤12:=by have:=z5 A; omega
 have K0:(G++[([]:List Int)]).length=G.length+1:=by simp
 have JK:(gz++[((none,0):RA)]).length=gz.length+1:=by simp
 refine WS fun _ A1=>rP 1 [] I ?_
 refine RK A1<|al fun _ A2=>cu U (aZ fun FZ=>?_) (aY fun FZ=>?_)
 ·refine bq<|ah<|ah<|aD<|KK AC<|al fun _ Bi=>al fun _ B3=>?_
  have GE:G.length≤12:=by have:=z5 A; omega
  refine au<|rP 3 [] I ?_
  refine RK B3<|aF ?_
  have H:(0≤G.length):=by exact Nat.zero_le _
  refine bX (ι:={z:Nat // (z≤G.length)}) [1,6,66,67] [0,1,3,4,5,6,7,8,9,10,11,12,13,14,15,17] U U (fun z=>[(68,(vI (z.1:Int)))]) (fun z=>[(bf (aR oQ (kY G z.1) gz))]) (fun _=>rfl) (fun _=>rfl) (fun z=>G.length-z.1) ⟨0,H⟩ (aT U) (aJ [0,1,3,4,5,6,7,8,9,10,11,12,13,14,15,17,16]) ?_
  clear H
  rintro ⟨j,Ej⟩ J65 h
  try dsimp only
  refine WS fun _ B7=>rP 1 [] I ?_
  refine RK B7<|al fun _ B9=>cu U (aZ fun Fd=>?_) (aY fun Fd=>?_)
  ·refine bq<|ah<|ah<|aD<|KK Bi<|al fun _ Ci=>?_
   have Go:G.length≤j:=by omega
   have Y:=qI A.ok
   rw [List.take_of_length_le om] at Y
   have E:G.map cp=cw r:=nL he (m6 Y.1 (nF.trans eX)) Y.2
   have Z:gz.length=(cw r).length:=by rw [← E,List.length_map]; omega
   rw [za Go,E,← Ex,E]
   refine au<|a_ 1 U<|rP 2 [] I ?_
   refine RK Ci<|aB ?_
   refine LX hQ (gz,a,c) [15,16] [] I U (by show List.all _ _=true; simp only [e6,List.all_nil,Fs,Bool.and_true]; rfl) U ?_ ?_
   ·first|rfl|(rw [E]; rfl)|(rw [he,← E,List.length_map]; rfl)|(rw [he,E]; rfl)
   ·exact Z
  refine WK B9<|al fun _ CP=>aF<|al fun _ CY=>?_
  obtain ⟨cg,B⟩:=aQ G j om
  obtain ⟨cga,D⟩:=aQ gz j om
  have F:(List.zipWith j5 G gz)[j]? =some (j5 cg cga):=dE B D
  refine yf (f:=oQ) 16 (Cu B) D U U U ?_
  try dsimp only
  refine au<|rS (IA j U (aa (n:=G.length) 17 U (iL C)) lU dc om om)<|rS (g4 j 0 (vS cga.1 cg.length cga.2) U cz (aa (n:=G.length) 17 U (iL C)) F U dc U)<|a_ 1 U<|RK CY<|au<|rP 1 [] I ?_
  refine g8 0 U U U U (vO cg cga.1 cga.2 (by have:=vz A (aN B); omega)) U jg U (fun msrt C5=>?_)
  try dsimp only
  refine aG<|aH<|KK CP<|au<|rP 2 [] I ?_
  refine aG ?_
  obtain rfl:=ni C5.1 C5.2
  refine G3 (f:=oQ) (ms:=kY G j) (m:=cp cg) 1 0 (by rw [yB]; omega) D U U U ?_
  rw [zm B]
  have C1:(vI (((j+1):Nat):Int))=(vI ((j:Int)+1)):=by exact cI om
  refine bc (h ⟨(j+1),(by first|omega|(simp only []; omega))⟩ _ _ _ U os (du 4<|bO U C1<|ew.nil _) (aJ [1,2,3,4,5,6,7,8,9,10,11,12,13,14,15,16,0]))
 refine WK A2<|al fun _ AA=>aF<|WS fun _ A3=>?_
 obtain ⟨x,hx⟩:=aQ (di (fun u=>(ar (ax r) u).Lo) (cp ((ax r).map (·.1)))) i om
 have IE:=cG iC hx
 refine rS (IA i U (aa (n:=(di (fun u=>(ar (ax r) u).Lo) (cp ((ax r).map (·.1)))).length) 0 U sm) b0 dc om om)<|rS (g4 i 0 (vI x) U cz (aa (n:=(di (fun u=>(ar (ax r) u).Lo) (cp ((ax r).map (·.1)))).length) 0 U sm) IE U dc U)<|a_ 1 U<|RK A3<|WS fun _ A4=>hE 1 [] (mc 2 U I) U<|rS (SX (bk U U) U U)<|rP 2 [] (mc 3 U I) ?_
 have H1:=fg (i:=x) AB
 refine rP 1 [] I ?_
 refine rS (SX (i_ (kV:=iV) (x:=x) (l:=(ax r)) (f:=cW) (z:=(ab.mk 0 0)) U U U lf (dv nO) sx (by exact aS 6 U)) U U)<|AL U dK fun J8=>fw U cT U<|RK A4<|al fun _ V=>WS fun _ A5=>?_
 rw [show ((List.lookup x (ax r)).getD (ab.mk 0 0))=(ar (ax r) x) from rfl]
 refine rP 4 [] (mc 0 U I) ?_
 refine RK A5<|cu U (aZ fun N=>?_) (aY fun N=>?_)
 ·refine WK V<|al fun _ A8=>?_
  have K4:1≤G.length:=Ah H1.1 A N
  refine au<|rP 4 [] I ?_
  refine RK A8<|al fun _ A9=>?_
  have GT:(G.length-1)<G.length:=by first|omega|(simp; done)
  obtain ⟨cg,B⟩:=aQ G (G.length-1) om
  obtain ⟨cga,D⟩:=aQ gz (G.length-1) om
  have F:(List.zipWith j5 G gz)[(G.length-1)]? =some (j5 cg cga):=dE B D
  refine yf (f:=oQ) 17 B D U U U ?_
  try dsimp only
  refine au<|a_ 4 U<|rS (IA (G.length-1) U (aa (n:=G.length) 19 U (iL C)) lU dc om om)<|rS (g4 (G.length-1) 0 (vS cga.1 cg.length cga.2) U cz (aa (n:=G.length) 19 U (iL C)) F U dc U)<|rP 1 [] I ?_
  have Fn:cg.length≤12:=(List.mem_append.1 (show cg∈G++[[]] from by first|exact aN B|exact List.mem_append_left _ (aN B))).elim (fun q=>by have:=vz A q; omega) (fun q=>by simp at q; subst q; simp)
  refine ck (xs:=[.tmp 57]) (cs:=[(vI x)]) U b0 gI U U U U (by simp [Value.cells]) U U fun Kd=>?_
  refine dL (es2:=(List.map iC (cg++[x]))) (m':=(cg++[x]).length) 1 U U U q8 U U sm (aP (es:=List.map iC [x]) 0 U U (by simp [aW]) U) (ku _) os (by first|(simp only [maxLen]; omega)|(simp [maxLen]; omega)) sm sm U fun K M=>?_
  try dsimp only
  refine rS (IA (G.length-1) U (aa (n:=G.length) 20 U (iL C)) lU dc om om)<|dk (k:=(G.length-1)) (o:=0) (vs:=[(vS K ((cg++[x]).length) M)]) (es':=(List.zipWith j5 (G.set (G.length-1) (cg++[x])) (gz.set (G.length-1) (K,M)))) (C':=[_,_,_,_,_,_,_,_,_,_,_,_,_,_,_,_,_,_,_,_,(own a c 32 1 (List.zipWith j5 (G.set (G.length-1) (cg++[x])) (gz.set (G.length-1) (K,M))))]) 20 U U U xn U U U U F U dc (by exact l9 (c:=j5) (m:=(cg++[x])) (a:=(K,M))) U<|AI (f:=oQ) (ms:=G) (asl:=gz) (m:=(cg++[x])) (a:=(K,M)) 2 1 om om U U U<|RK A9<|au<|hE 3 [] (mc 2 U I) U<|rS (MX U)<|a_ 1 U<|aG<|aH<|KK AA<|au<|rP 2 [] I ?_
  refine aG ?_
  have Cx:(vS a ((G.set (G.length-1) (cg++[x])).length) c)=(vS a G.length c):=by rw [List.length_set]
  have C0:(vI (((i+1):Nat):Int))=(vI ((i:Int)+1)):=by exact cI om
  refine bc (T ⟨((i+1),(G.set (G.length-1) (cg++[x])),(gz.set (G.length-1) (K,M)),a,c,(max last ((ar (ax r) x).Hi))),⟨om,by simp; omega,by first|exact mu om hx B A N|exact lM om (fun u _=>(fg (i:=u) AB).2.1) Di hx B A N,dso⟩⟩ _ _ _ U os (du 4<|bO U Cx<|ew.cons U<|bO U C0<|ew.nil _) (aJ [3,4,5,6,7,8,9,10,11,12,13,14,15,16,17,18,0,19]))
 refine au<|rP 1 [] I ?_
 refine ck (xs:=[.const (vS none 0 0)]) (cs:=[(vS none 0 0)]) U lU pU U U U U (by simp [Value.cells]) U U fun J9=>?_
 refine dL (es2:=(List.zipWith j5 (G++[[]]) (gz++[(none,0)]))) (m':=(G++[[]]).length) 19 rfl rfl rfl M_ rfl rfl (iL C).symm (aP (es:=List.zipWith j5 [[]] [(none,0)]) 0 rfl rfl (by intro e he; simp [j5] at he; subst he; rfl) rfl) (Gq _ _) om (by simp only [maxLen]; omega) (CG om) (by simp; omega) rfl fun P S=>?_
 try dsimp only
 refine dw 3 1<|J1 (Y':=aR oQ (G++[[]]) (gz++[(none,0)])) 19 0 U U (yK om U)<|a_ 1 U<|RK V<|WS fun _ A6=>rP 4 [] I ?_
 refine RK A6<|al fun _ A7=>?_
 have GT:((G++[[]]).length-1)<(G++[[]]).length:=by first|omega|(simp; done)
 obtain ⟨cg,B⟩: ∃ y_,(G++[[]])[((G++[[]]).length-1)]? =some y_:=⟨(G++[[]])[((G++[[]]).length-1)]'om,eC _⟩
 obtain ⟨cga,D⟩: ∃ y_,(gz++[(none,0)])[((G++[[]]).length-1)]? =some y_:=⟨(gz++[(none,0)])[((G++[[]]).length-1)]'om,eC _⟩
 have F:(List.zipWith j5 (G++[[]]) (gz++[(none,0)]))[((G++[[]]).length-1)]? =some (j5 cg cga):=dE B D
 refine yf (f:=oQ) 0 B D U U U ?_
 try dsimp only
 refine au<|rP 4 [] I ?_
 refine rS (IA ((G++[[]]).length-1) U (aa (n:=(G++[[]]).length) 20 U (iL (by simp; omega))) lU dc om om) ?_
 refine rS (g4 ((G++[[]]).length-1) 0 (vS cga.1 cg.length cga.2) U cz (aa (n:=(G++[[]]).length) 20 U (iL (by simp; omega))) F U dc U) ?_
 refine rP 1 [] I ?_
 have Fn:cg.length≤12:=(List.mem_append.1 (show cg∈G++[[]] from by first|exact aN B|exact List.mem_append_left _ (aN B))).elim (fun q=>by have:=vz A q; omega) (fun q=>by simp at q; subst q; simp)
 refine ck (xs:=[.tmp 57]) (cs:=[(vI x)]) U b0 gI U U U U (by simp [Value.cells]) U U fun KM=>?_
 refine dL (es2:=(List.map iC (cg++[x]))) (m':=(cg++[x]).length) 1 U U U q8 U U sm (aP (es:=List.map iC [x]) 0 U U (by simp [aW]) U) (ku _) os (by first|(simp only [maxLen]; omega)|(simp [maxLen]; omega)) sm sm U fun J L=>?_
 try dsimp only
 refine rS (IA ((G++[[]]).length-1) U (aa (n:=(G++[[]]).length) 21 U (iL (by simp; omega))) lU dc om om) ?_
 refine dk (k:=((G++[[]]).length-1)) (o:=0) (vs:=[(vS J ((cg++[x]).length) L)]) (es':=(List.zipWith j5 ((G++[[]]).set ((G++[[]]).length-1) (cg++[x])) ((gz++[(none,0)]).set ((G++[[]]).length-1) (J,L)))) (C':=[_,_,_,_,_,_,_,_,_,_,_,_,_,_,_,_,_,_,_,_,_,(own P S 32 1 (List.zipWith j5 ((G++[[]]).set ((G++[[]]).length-1) (cg++[x])) ((gz++[(none,0)]).set ((G++[[]]).length-1) (J,L))))]) 21 U U U xn U U U U F U dc (by exact l9 (c:=j5) (m:=(cg++[x])) (a:=(J,L))) U<|AI (f:=oQ) (ms:=(G++[[]])) (asl:=(gz++[(none,0)])) (m:=(cg++[x])) (a:=(J,L)) 2 1 om om U U U<|RK A7<|au<|hE 3 [] (mc 3 U I) U<|rS (MX U)<|a_ 1 U<|aG<|aH<|KK AA<|au<|rP 2 [] I ?_
 refine aG ?_
 have Ck:(vS P (((G++[[]]).set ((G++[[]]).length-1) (cg++[x])).length) S)=(vS P ((G++[[]]).length) S):=by rw [List.length_set]
 have Cp:(vI (((i+1):Nat):Int))=(vI ((i:Int)+1)):=by exact cI om
 refine bc (T ⟨((i+1),((G++[[]]).set ((G++[[]]).length-1) (cg++[x])),((gz++[(none,0)]).set ((G++[[]]).length-1) (J,L)),P,S,(max last ((ar (ax r) x).Hi))),⟨om,by simp; omega,by first|exact mu om hx B A N|exact lM om (fun u _=>(fg (i:=u) AB).2.1) Di hx B A N,dso⟩⟩ _ _ _ U os (du 4<|bO U Ck<|ew.cons U<|bO U Cp<|ew.nil _) (aJ [4,5,6,7,8,9,10,11,12,13,14,15,16,17,18,19,0,20]))
end
section
structure yJ (w w':bp):Prop where
 start:w'.Start=w.Start
 now:w.gk≤w'.gk
 n:w'.n=w.n
 least: ∀ b,bP w' b≤bP w b
 times:w'.qJ=w.qJ
 JQ:w.dx≤w'.dx
 LR:w.er≤w'.er
 sigs:w'.Kd=w.Kd
variable {w w':bp}
theorem yJ.opt (h:yJ w w') {b:Nat} {o:Int×ab} (ho:o∈gh w b): ∃ o'∈gh w' b,o'.1=o.1∧o'.2.Lo≤o.2.Lo∧o.2.Hi≤o'.2.Hi:=by
 unfold gh at ho
 rcases List.mem_cons.1 ho with rfl|ho
 ·exact ⟨(-1,⟨w'.Start,w'.gk⟩),bU ..,U,by simp only [h.start]; omega,h.now⟩
 ·refine ⟨o,cL _ ?_,U,Int.le_refl _,Int.le_refl _⟩
  unfold pq at ho ⊢; rw [h.times]; exact ho
theorem yJ.may (h:yJ w w') {t:aw} (ht:lg w t=true):lg w' t=true:=by
 unfold lg at ht ⊢
 have:=of_decide_eq_true ht
 have A:=h.JQ
 have B:=h.LR
 have C:=h.sigs
 exact g6 om
theorem yJ.fwd (h:yJ w w'): ∀ (b:Nat) (p:aw×Int),p∈fwd w b→ ∃ p'∈Go.Proofs.YtadjgjnicdcjbaaGreatDoor.fwd w' b,p'.1=p.1∧p'.2≤p.2:=by
 intro b
 induction b with
 |zero=>
  intro p hp
  simp only [Go.Proofs.YtadjgjnicdcjbaaGreatDoor.fwd,bD] at hp ⊢
  subst hp
  exact ⟨_,U,U,by simp only [h.start]; omega⟩
 |succ b ih=>
  intro q hq
  obtain ⟨p,hp,o,ho,e⟩:=ep.1 hq
  obtain ⟨p',hp',A,D⟩:=ih p hp
  obtain ⟨o',ho',B,E,F⟩:=h.opt ho
  have hl:=h.least b
  have hn:=h.now
  unfold iO at e
  split at e
  ·rename_i C
   simp only [Option.some.injEq] at e
   subst e
   refine ⟨(dm p'.1 (eA o'.1),max (p'.2+bP w' b) o'.2.Lo),ep.2 ⟨p',hp',o',ho',by unfold iO; rw [if_pos om]⟩,by simp only [A,B],by simp only; omega⟩
  ·cases e
theorem yJ.bwd (h:yJ w w'): ∀ (k:Nat) (p:aw×Int),p∈bwd w k→ ∃ p'∈Go.Proofs.YtadjgjnicdcjbaaGreatDoor.bwd w' k,p'.1=p.1∧p.2≤p'.2:=by
 intro k
 induction k with
 |zero=>
  intro p hp
  simp only [Go.Proofs.YtadjgjnicdcjbaaGreatDoor.bwd,bD] at hp ⊢
  subst hp
  exact ⟨_,U,U,h.now⟩
 |succ k ih=>
  intro q hq
  simp only [Go.Proofs.YtadjgjnicdcjbaaGreatDoor.bwd,cO,List.mem_flatMap,List.mem_filterMap] at hq ⊢
  rcases hq with rfl|⟨p,hp,o,ho,e⟩
  ·exact ⟨_,.inl U,U,h.now⟩
  ·obtain ⟨p',hp',A,D⟩:=ih p hp
   obtain ⟨o',ho',B,E,F⟩:=h.opt ho
   have hl:=h.least (w.n-(k+1))
   rw [h.n]
   unfold lh at e
   split at e
   ·rename_i C
    simp only [Option.some.injEq] at e
    subst e
    exact ⟨(dm p'.1 (eA o'.1),min p'.2 o'.2.Hi-bP w' (w.n-(k+1))),.inr ⟨p',hp',o',ho',by unfold lh; rw [if_pos om]⟩,by simp only [A,B],by simp only; omega⟩
   ·cases e
theorem yJ.back (h:yJ w w') {b:Nat} {p:aw×Int} (hp:p∈back w b): ∃ p'∈Go.Proofs.YtadjgjnicdcjbaaGreatDoor.back w' b,p'.1=p.1∧p.2≤p'.2:=by
 unfold Go.Proofs.YtadjgjnicdcjbaaGreatDoor.back at hp ⊢
 rw [h.n]
 exact h.bwd _ p hp
theorem yJ.pass (h:yJ w w') {b:Nat} {q:Int×ab} (hq:q∈kx w b): ∃ q'∈kx w' b,q'.1=q.1∧q'.2.Lo≤q.2.Lo∧q.2.Hi≤q'.2.Hi:=by
 obtain ⟨o,ho,p,hp,u,hu,e⟩:=fB.1 hq
 obtain ⟨D,E,rfl⟩:=gM.1 e
 obtain ⟨o',ho',A,F,G⟩:=h.opt ho
 obtain ⟨p',hp',B,H⟩:=h.fwd _ p hp
 obtain ⟨u',hu',C,AA⟩:=h.back hu
 have hl:=h.least b
 simp only [gW] at D
 refine ⟨(o'.1,gW w' b p' u' o'),fB.2 ⟨o',ho',p',hp',u',hu',gM.2 ⟨?_,?_,U⟩⟩,A,?_,?_⟩
 ·simp only [gW]; omega
 ·have:=h.may E
  unfold s3 at this ⊢
  rw [A,B,C]; exact this
 ·simp only [gW]; omega
 ·simp only [gW]; omega
theorem pa {k:Int}:k∈iv w↔ ∃ i:Nat,k=(i:Int)∧i≤w.n∧iA w (fwd w i)=true:=by
 unfold iv iz
 simp only [vr,List.mem_filter,List.mem_range]
 constructor
 ·rintro ⟨i,⟨B,A⟩,rfl⟩; exact ⟨i,rfl,om,A⟩
 ·rintro ⟨i,rfl,B,A⟩; exact ⟨i,⟨om,A⟩,rfl⟩
theorem yJ.Bi (h:yJ w w') {k:Int} (hk:k∈iv w):k∈iv w':=by
 obtain ⟨i,rfl,C,A⟩:=pa.1 hk
 refine pa.2 ⟨i,U,by rw [h.n]; exact C,?_⟩
 unfold iA at A ⊢
 obtain ⟨p,hp,D⟩:=List.any_eq_true.1 A
 obtain ⟨p',hp',B,_⟩:=h.fwd _ p hp
 exact List.any_eq_true.2 ⟨p',hp',by rw [B]; exact h.may D⟩
/-- two rides, of two lines, of which one allows more -/
structure MB (l:aU) (r:cK) (l':aU) (r':cK):Prop where
 line:dN l=0
 line':dN l'=0
 tc:f_ l r
 ride':f_ l' r'
 w:yJ (cq l r) (cq l' r')
 IE:l'.ag.length=l.ag.length
variable {l l':aU} {r r':cK}
theorem MB.ok (h:MB l r l' r') (he:ed l r 0=0):ed l' r' 0=0:=by
 refine km h.line' h.ride' U fun e=>?_
 obtain ⟨k,hk⟩:=List.exists_mem_of_ne_nil _ (jM he).2.2.2
 have:=h.w.Bi hk
 rw [e] at this; cases this
theorem MB.vl (h:MB l r l' r') {k:Int} (hk:k∈jk l r):k∈jk l' r':=by
 by_cases he:ed l r 0=0
 ·rw [jJ he] at hk
  rw [jJ (h.ok he)]
  exact h.w.Bi hk
 ·rw [qC he] at hk; cases hk
theorem BP {b:Nat}:bP (cq l r) b=if b<l.ag.length then lJ l b else 0:=by
 unfold bP cq eF
 split
 ·rename_i h
  simp [h]
 ·rename_i h
  simp [h]
def Jh (l:aU):Prop:= ¬ yD l∧dN l=0
noncomputable instance (l:aU):Decidable (Jh l):=Classical.propDecidable _
end
section
/-- where a sled may be after k beams more -/
def eT (w:bp):Nat→Nat→aw×Int→List (aw×Int)
 |0,_,p=>[p]
 |k+1,b,p=>(gh w b).flatMap fun o=>match iO w b p o with
  |some q=>eT w k (b+1) q
  |none=>[]
variable {w:bp}
theorem fO {k b:Nat} {p q:aw×Int}:q∈eT w (k+1) b p↔ ∃ o∈gh w b,∃ p',iO w b p o=some p'∧q∈eT w k (b+1) p':=by
 simp only [eT,List.mem_flatMap]
 constructor
 ·rintro ⟨o,ho,h⟩
  cases e:iO w b p o with
  |none=>rw [e] at h; cases h
  |some p'=>rw [e] at h; exact ⟨o,ho,p',e,h⟩
 ·rintro ⟨o,ho,p',e,h⟩
  exact ⟨o,ho,by rw [e]; exact h⟩
theorem ud: ∀ (k b:Nat) (q:aw×Int),q∈fwd w (b+k)↔ ∃ p∈fwd w b,q∈eT w k b p:=by
 intro k
 induction k with
 |zero=>
  intro b q
  simp only [Nat.add_zero,eT,bD]
  exact ⟨fun h=>⟨q,h,rfl⟩,fun ⟨p,hp,e⟩=>e▸hp⟩
 |succ k ih=>
  intro b q
  rw [show b+(k+1)=(b+1)+k by omega,ih]
  constructor
  ·rintro ⟨p',hp',h⟩
   obtain ⟨p,hp,o,ho,e⟩:=ep.1 hp'
   exact ⟨p,hp,fO.2 ⟨o,ho,p',e,h⟩⟩
  ·rintro ⟨p,hp,h⟩
   obtain ⟨o,ho,p',e,h'⟩:=fO.1 h
   exact ⟨p',ep.2 ⟨p,hp,o,ho,e⟩,h'⟩
theorem fD {b:Nat} {p q:aw×Int} {o:Int×ab}:iO w b p o=some q↔max (p.2+bP w b) o.2.Lo≤min o.2.Hi w.gk∧q=(dm p.1 (eA o.1),max (p.2+bP w b) o.2.Lo):=by
 unfold iO
 split
 ·rename_i h
  constructor
  ·intro e; cases e; exact ⟨h,rfl⟩
  ·rintro ⟨_,rfl⟩; rfl
 ·rename_i h
  constructor
  ·intro e; cases e
  ·rintro ⟨h',_⟩; exact absurd h' h
theorem qi {b:Nat} {p q:aw×Int} {o:Int×ab}:lh w b p o=some q↔o.2.Lo≤min p.2 o.2.Hi∧q=(dm p.1 (eA o.1),min p.2 o.2.Hi-bP w b):=by
 unfold lh
 split
 ·rename_i h
  constructor
  ·intro e; cases e; exact ⟨h,rfl⟩
  ·rintro ⟨_,rfl⟩; rfl
 ·rename_i h
  constructor
  ·intro e; cases e
  ·rintro ⟨h',_⟩; exact absurd h' h
theorem B_ {b:Nat} (hb:b≤w.n):((⟨0,0⟩:aw),w.gk)∈back w b:=by
 rcases Nat.lt_or_ge b w.n with h|h
 ·exact (lX h).2 (.inl U)
 ·rw [qB h]; simp
theorem pX (t:aw):dm t ⟨0,0⟩=t:=by cases t; simp [dm]
theorem ug (a o u:aw):dm (dm a o) u=dm a (dm u o):=by simp only [dm,aw.mk.injEq]; omega
theorem AB (hl: ∀ b,0≤bP w b): ∀ (k:Nat) (u:aw×Int),u∈bwd w k→u.2≤w.gk:=by
 intro k
 induction k with
 |zero=>intro u hu; simp only [bwd,bD] at hu; subst hu; exact Int.le_refl _
 |succ k ih=>
  intro u hu
  simp only [bwd,cO,List.mem_flatMap,List.mem_filterMap] at hu
  rcases hu with rfl|⟨p,hp,o,ho,e⟩
  ·exact Int.le_refl _
  ·obtain ⟨_,rfl⟩:=qi.1 e
   have:=ih p hp
   have:=hl (w.n-(k+1))
   simp only; omega
/-- what follows a passing is told by the way back -/
theorem Gs: ∀ (k b:Nat) (p q:aw×Int),b+k≤w.n→p.2≤w.gk→q∈eT w k b p→ ∃ u∈back w b,p.2≤u.2∧q.1=dm p.1 u.1:=by
 intro k
 induction k with
 |zero=>
  intro b p q hb hp hq
  simp only [eT,bD] at hq
  subst hq
  exact ⟨_,B_ om,hp,(pX _).symm⟩
 |succ k ih=>
  intro b p q hb hp hq
  obtain ⟨o,ho,p',e,h⟩:=fO.1 hq
  obtain ⟨C,rfl⟩:=fD.1 e
  obtain ⟨u',hu',B,A⟩:=ih (b+1) _ q om (by simp only; omega) h
  simp only at B A
  refine ⟨(dm u'.1 (eA o.1),min u'.2 o.2.Hi-bP w b),(lX om).2 (.inr ⟨u',hu',o,ho,qi.2 ⟨om,U⟩⟩),by simp only; omega,?_⟩
  rw [A,ug]
theorem DN (hl: ∀ b,0≤bP w b): ∀ (d b:Nat) (p u:aw×Int),w.n=b+d→p.2≤u.2→u∈back w b→ ∃ k,b+k≤w.n∧ ∃ q∈eT w k b p,q.1=dm p.1 u.1:=by
 intro d
 induction d with
 |zero=>
  intro b p u hd hp hu
  rw [qB om] at hu
  simp only [bD] at hu
  subst hu
  exact ⟨0,om,p,by simp [eT],(pX _).symm⟩
 |succ d ih=>
  intro b p u hd hp hu
  rcases (lX om).1 hu with rfl|⟨u',hu',o,ho,e⟩
  ·exact ⟨0,om,p,by simp [eT],(pX _).symm⟩
  ·obtain ⟨B,rfl⟩:=qi.1 e
   have hn:u'.2≤w.gk:=AB hl _ _ hu'
   simp only at hp
   obtain ⟨k,hk,q,hq,A⟩:=ih (b+1) (dm p.1 (eA o.1),max (p.2+bP w b) o.2.Lo) u' om (by simp only; omega) hu'
   refine ⟨k+1,om,q,fO.2 ⟨o,ho,_,fD.2 ⟨om,U⟩,hq⟩,?_⟩
   rw [A]; simp only; rw [ug]
end
section
section
variable {l:aU} {r:cK} {one at_:Int} {d:Nat} {f g m:Int} {rec:Int→Int→Int→Bool} {i:Int}
end
theorem EI {l:aU} {r:cK} {d:Nat} (hd:d<l.ag.length) {o:Int×ab}:o∈gh (cq l r) d↔o=(-1,⟨r.Start,r.gk⟩)∨ ∃ k,k<r.ay.length∧ ∃ s,r.ay[k]? =some s∧(s.fP=(d:Int)∧(dW l s).Lo≤(dW l s).Hi)∧o=((k:Int),dW l s):=by
 unfold gh pq
 show o∈(-1,(⟨r.Start,r.gk⟩:ab))::((c0 l r.ay r.ay.length)[d]?).getD []↔_
 rw [lV hd,Option.getD_some,cO,oR]
end
section
def JF (w:bp) (b:Nat) (i:Int):Prop:= ∃ b',b'<b∧ ∃ q∈kx w b',q.1=i
noncomputable instance (w:bp) (b:Nat) (i:Int):Decidable (JF w b i):=Classical.propDecidable _
def ry (w:bp) (b:Nat):Bool:=(kx w b).any fun q=>decide (0≤q.1)
def vJ (w:bp) (k:Nat):List Int:=((List.range k).filter fun b=> !ry w b).map fun (b:Nat)=>(b:Int)
noncomputable def rG (l:aU) (r:cK):List Int:=if ed l r 0=0 then vJ (cq l r) (rX (jk l r)).toNat else []
theorem sh {l:aU} {r:cK} (h:ed l r 0=0):rG l r=vJ (cq l r) (rX (jk l r)).toNat:=if_pos h
theorem sG {l:aU} {r:cK} (h: ¬ ed l r 0=0):rG l r=[]:=if_neg h
theorem Mi {l:aU} {r:cK} (h:ed l r 0=0):0≤rX (jk l r)∧rX (jk l r)≤(l.ag.length:Int):=by
 have A:=(AT (qj h)).1
 rw [jJ h] at A ⊢
 obtain ⟨i,e,hi,_⟩:=pa.1 A
 have hn:(cq l r).n=l.ag.length:=eg
 omega
end
end Go.Proofs.YtadjgjnicdcjbaaGreatDoor
