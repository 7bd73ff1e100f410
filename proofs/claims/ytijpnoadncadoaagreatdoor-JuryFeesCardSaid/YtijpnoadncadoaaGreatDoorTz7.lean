/-
 The statement juryFees_said, part 7 of 8: Jw6, Jw7, BoolC, RaceR, B7, B8, Rr2, Jr1, B9, Rr1, WLe, Ends5, Can, False, Sim, Told, Clear, Ways, Async, WayM, R1, Y1.
 Conditions: none.
-/
import Derived.Test.YtijpnoadncadoaaGreatDoorTz1
import Derived.Test.YtijpnoadncadoaaGreatDoorTz2
import Derived.Test.YtijpnoadncadoaaGreatDoorTz3
import Derived.Test.YtijpnoadncadoaaGreatDoorTz4
import Derived.Test.YtijpnoadncadoaaGreatDoorTz5
import Derived.Test.YtijpnoadncadoaaGreatDoorTz6
namespace Go.Proofs.YtijpnoadncadoaaGreatDoor
set_option maxRecDepth 100000
set_option maxHeartbeats 4000000
set_option linter.unusedVariables false
section
open Go.RowKit
theorem Iz (j:cV) (kA:OA) (kC:Nat) (az:List RA) (cA:OA) (cC:Nat) (bA:OA) (bC:Nat) (slA:OA) (slC:Nat) (drA:OA) (drC:Nat) (ha:List dQ) (heA:OA) (heC:Nat) (faA:OA) (faC:Nat) (prA:OA) (prC:Nat) (hin:hH j az ha):
 dH Tryz.prog 52 [(vA (dh.cells (dh.mk (di.mk (bT.mk (bG.mk (aR.mk kA j.Race.aj.aL.length kC)) j.Race.aj.eI (aR.mk cA j.Race.aj.ak.length cC) (aR.mk bA j.Race.aj.aa.length bC) j.Race.aj.bK j.Race.aj.dj j.Race.aj.ck) (aR.mk slA j.Race.aT.length slC) (aR.mk drA j.Race.bS.length drC) j.Race.f_ (aR.mk heA j.Race.aB.length heC)) (aR.mk faA j.aC.length faC) (aR.mk prA j.aq.length prC) j.cu j.j2)))] [(rd g6 3 2 fU),(rd kA j.Race.aj.aL.length 9 (j.Race.aj.aL.map au.cells)),(rd cA j.Race.aj.ak.length 2 (List.zipWith ax.cells j.Race.aj.ak az)),(d_ (bw ax.gL j.Race.aj.ak az)),(rd bA j.Race.aj.aa.length 4 (j.Race.aj.aa.map bM.cells)),(rd slA j.Race.aT.length 1 (j.Race.aT.map iC)),(rd drA j.Race.bS.length 1 (j.Race.bS.map iC)),(rd heA j.Race.aB.length 1 (List.zipWith dz j.Race.aB ha)),(d_ (bw fy j.Race.aB ha)),(rd faA j.aC.length 4 (j.aC.map aX.cells)),(rd prA j.aq.length 5 (j.aq.map a_.cells))] (vI (dU j)):=by
 have IO:=hin.race
 have K8:=hin.race.line
 have Op:=hin.race.jd
 have Or:=hin.race.has
 have NW:=hin.race.ji
 have L2:=hin.nf
 have NE:=hin.np
 refine bH kr Tryz.func52 U U fun w0 Q hQ hN=>?_
 try dsimp only
 refine WS fun _ J9=>eK U fun b2=>bI 1 U<|RK J9<|Aa U<|ao fun _ Ka=>WS fun _ Kh=>rP 1 [] mn ?_
 refine rS (LP (di.cells (di.mk (bT.mk (bG.mk (aR.mk kA j.Race.aj.aL.length kC)) j.Race.aj.eI (aR.mk cA j.Race.aj.ak.length cC) (aR.mk bA j.Race.aj.aa.length bC) j.Race.aj.bK j.Race.aj.dj j.Race.aj.ck) (aR.mk slA j.Race.aT.length slC) (aR.mk drA j.Race.bS.length drC) j.Race.f_ (aR.mk heA j.Race.aB.length heC))) 0 U cq U U U) ?_
 refine rS (CL (Je j.Race kA kC az cA cC bA bC slA slC drA drC ha heA heC sd) (bq [1,2,3,4,5,6,7,8,9]) U) ?_
 refine bI 1 U<|RK Kh<|WS fun _ Kj=>rP 2 [] mn ?_
 refine RK Kj<|cH U (bu fun A=>?_) (br fun A=>?_)
 ·refine WS fun _ Kz=>rP 2 [] mn ?_
  refine RK Kz<|ar<|Q1 hQ U U U ?_
  first|exact cI (gR A).symm|exact cI (cr A (fun q=>by have AB:=q.nf; have H:=q.min_; have J:=q.pd; have K:=q.np; omega)).symm|exact cI (cr A (g5 D)).symm|exact cI (cr A (fX hp (fun q=>by have V:=kx q C; have AB:=q.id; have H:=q.jF; have J:=q.fZ; have K:=q.fault; simp only [oa] at H; omega))).symm|exact cI (cr A (fX hp (fun q=>by obtain ⟨AA,G,L,W⟩:=q.iJ; rw [F] at G; cases G; first|exact E L|omega))).symm|exact cI (h_ A ⟨I,gv D,I,I,I,fun i p hi=>B i p (by have:=(aY.1 hi).1; omega) hi⟩).symm
 refine WK Ka<|WS fun _ K0=>rP 2 [] (mc 0 U mn) ?_
 refine rS (FU U) ?_
 refine cX (K3 j.aC faA faC (Value.func (.func 81) [].toArray [(vP b2)].toArray) (fun u8 u9=>(decide (¬ oL j.Race.aj.bK u9))) (d_ [(cw b2 36 (dh.cells (dh.mk (di.mk (bT.mk (bG.mk (aR.mk kA j.Race.aj.aL.length kC)) j.Race.aj.eI (aR.mk cA j.Race.aj.ak.length cC) (aR.mk bA j.Race.aj.aa.length bC) j.Race.aj.bK j.Race.aj.dj j.Race.aj.ck) (aR.mk slA j.Race.aT.length slC) (aR.mk drA j.Race.bS.length drC) j.Race.f_ (aR.mk heA j.Race.aB.length heC)) (aR.mk faA j.aC.length faC) (aR.mk prA j.aq.length prC) j.cu j.j2)))]) (by intro u8 u9 LA; exact lf (fi:=[]) (ca:=[(vP b2)]) (jX (IW u8 u9 j kA kC cA cC bA bC slA slC drA drC heA heC faA faC prA prC b2 (by first|assumption|(obtain ⟨i_,_,Hi⟩:=LA; first|exact ⟨i_,Hi⟩|exact hin.kind _ (aP Hi))|omega)) (bq [0]))) sd) (g_ 10 rfl rfl<|aJ (jT (bq [0]))<|aK) rfl fun Li NZ=>?_
 obtain ⟨Nh,Ok⟩:=Li
 try dsimp only
 refine bI 1 U<|RK K0<|ao fun _ g=>WS fun _ P=>rP 5 [] (mc 1 U mn) ?_
 refine cg (t:=25) U (aV fun J4=>?_) (aW fun J4=>?_)
 ·refine bI 24 U<|RK P<|aS U<|WS fun _ h=>rP 1 [] mn ?_
  refine RK h<|ar<|Q1 hQ U U U ?_
  first|exact cI (gR A).symm|exact cI (cr A (fun q=>by have AB:=q.nf; have H:=q.min_; have J:=q.pd; have K:=q.np; omega)).symm|exact cI (cr A (g5 D)).symm|exact cI (cr A (fX hp (fun q=>by have V:=kx q C; have AB:=q.id; have H:=q.jF; have J:=q.fZ; have K:=q.fault; simp only [oa] at H; omega))).symm|exact cI (cr A (fX hp (fun q=>by obtain ⟨AA,G,L,W⟩:=q.iJ; rw [F] at G; cases G; first|exact E L|omega))).symm|exact cI (h_ A ⟨I,gv D,I,I,I,fun i p hi=>B i p (by have:=(aY.1 hi).1; omega) hi⟩).symm
 refine rP 5 [] mn ?_
 refine cg (t:=30) U (aV fun D=>?_) (aW fun D=>?_)
 ·refine bI 19 U<|RK P<|aS U<|WS fun _ l=>rP 1 [] mn ?_
  refine RK l<|ar<|Q1 hQ U U U ?_
  first|exact cI (gR A).symm|exact cI (cr A (fun q=>by have AB:=q.nf; have H:=q.min_; have J:=q.pd; have K:=q.np; omega)).symm|exact cI (cr A (g5 D)).symm|exact cI (cr A (fX hp (fun q=>by have V:=kx q C; have AB:=q.id; have H:=q.jF; have J:=q.fZ; have K:=q.fault; simp only [oa] at H; omega))).symm|exact cI (cr A (fX hp (fun q=>by obtain ⟨AA,G,L,W⟩:=q.iJ; rw [F] at G; cases G; first|exact E L|omega))).symm|exact cI (h_ A ⟨I,gv D,I,I,I,fun i p hi=>B i p (by have:=(aY.1 hi).1; omega) hi⟩).symm
 refine rP 2 [] (mc 1 U mn) ?_
 refine ew (xs:=[.tmp 32]) (cs:=[(vI j.cu)]) U dD kl U U U U (by simp [Value.cells]) U U fun Ie=>?_
 refine rS (CL (dH.eq (iS 0 60 ([j.cu]) (some ⟨Ie,0,none⟩) 1 sd) cz) (aJ (bo 0 U U (by simp [bO]) U)<|aK) U) ?_
 refine rP 3 [] mn ?_
 refine cg (t:=37) U (bu fun J6=>?_) (br fun J6=>?_)
 ·refine bI 12 U<|RK P<|aS U<|WS fun _ m=>rP 1 [] mn ?_
  refine RK m<|ar<|Q1 hQ U U U ?_
  first|exact cI (gR A).symm|exact cI (cr A (fun q=>by have AB:=q.nf; have H:=q.min_; have J:=q.pd; have K:=q.np; omega)).symm|exact cI (cr A (g5 D)).symm|exact cI (cr A (fX hp (fun q=>by have V:=kx q C; have AB:=q.id; have H:=q.jF; have J:=q.fZ; have K:=q.fault; simp only [oa] at H; omega))).symm|exact cI (cr A (fX hp (fun q=>by obtain ⟨AA,G,L,W⟩:=q.iJ; rw [F] at G; cases G; first|exact E L|omega))).symm|exact cI (h_ A ⟨I,gv D,I,I,I,fun i p hi=>B i p (by have:=(aY.1 hi).1; omega) hi⟩).symm
 refine rP 2 [] (mc 2 U mn) ?_
 refine ew (xs:=[.tmp 39]) (cs:=[(vI j.j2)]) U dD kl U U U U (by simp [Value.cells]) U U fun If=>?_
 refine rS (CL (dH.eq (iS 0 100000 ([j.j2]) (some ⟨If,0,none⟩) 1 sd) cz) (aJ (bo 0 U U (by simp [bO]) U)<|aK) U) ?_
 refine rP 3 [] mn ?_
 refine cg (t:=44) U (bu fun J7=>?_) (br fun J7=>?_)
 ·refine bI 5 U<|RK P<|aS U<|WS fun _ n=>rP 1 [] mn ?_
  refine RK n<|ar<|Q1 hQ U U U ?_
  first|exact cI (gR A).symm|exact cI (cr A (fun q=>by have AB:=q.nf; have H:=q.min_; have J:=q.pd; have K:=q.np; omega)).symm|exact cI (cr A (g5 D)).symm|exact cI (cr A (fX hp (fun q=>by have V:=kx q C; have AB:=q.id; have H:=q.jF; have J:=q.fZ; have K:=q.fault; simp only [oa] at H; omega))).symm|exact cI (cr A (fX hp (fun q=>by obtain ⟨AA,G,L,W⟩:=q.iJ; rw [F] at G; cases G; first|exact E L|omega))).symm|exact cI (h_ A ⟨I,gv D,I,I,I,fun i p hi=>B i p (by have:=(aY.1 hi).1; omega) hi⟩).symm
 refine rP 5 [] (mc 3 U mn) ?_
 refine RK P<|cH U (aV fun J8=>?_) (aW fun J8=>?_)
 ·refine WS fun _ o=>rP 1 [] mn ?_
  refine RK o<|ar<|Q1 hQ U U U ?_
  first|exact cI (gR A).symm|exact cI (cr A (fun q=>by have AB:=q.nf; have H:=q.min_; have J:=q.pd; have K:=q.np; omega)).symm|exact cI (cr A (g5 D)).symm|exact cI (cr A (fX hp (fun q=>by have V:=kx q C; have AB:=q.id; have H:=q.jF; have J:=q.fZ; have K:=q.fault; simp only [oa] at H; omega))).symm|exact cI (cr A (fX hp (fun q=>by obtain ⟨AA,G,L,W⟩:=q.iJ; rw [F] at G; cases G; first|exact E L|omega))).symm|exact cI (h_ A ⟨I,gv D,I,I,I,fun i p hi=>B i p (by have:=(aY.1 hi).1; omega) hi⟩).symm
 refine WK g<|WS fun _ r=>bI 1 U<|RK r<|WS fun _ s=>bI 1 U<|RK s<|ao fun _ u=>zY<|KK u<|ao fun _ N=>WS fun _ v=>rP 4 [] (mc 3 U mn) ?_
 refine RK v<|aF ?_
 have Z:(0≤j.aq.length)∧(oH j 0):=by exact ⟨Nat.zero_le _,xO⟩
 refine bZ (ι:={z:Nat // (z≤j.aq.length)∧(oH j z)}) [1,5,51,52] [2,3,4,5,6,7,8,9,10,11,12,13,14] U U (fun z=>[(6,(vI (pI j z.1))),(53,(vI (z.1:Int)))]) (fun z=>[]) (fun _=>rfl) (fun _=>rfl) (fun z=>j.aq.length-z.1) ⟨0,Z⟩ (bE U) (aU [2,3,4,5,6,7,8,9,10,11,12,13,14]) ?_
 clear Z
 rintro ⟨k,⟨C,B⟩⟩ J28 a
 try dsimp only
 refine WS fun _ w=>rP 1 [] mn ?_
 refine RK w<|ao fun _ x=>bV U (aW fun J5=>?_) (aV fun J5=>?_)
 ·refine bQ<|ai<|ai<|aI<|KK N<|WS fun _ EQ=>rP 2 [] mn ?_
  refine RK EQ<|ar<|Q1 hQ U U U ?_
  first|exact cI (gR A).symm|exact cI (cr A (fun q=>by have AB:=q.nf; have H:=q.min_; have J:=q.pd; have K:=q.np; omega)).symm|exact cI (cr A (g5 D)).symm|exact cI (cr A (fX hp (fun q=>by have V:=kx q C; have AB:=q.id; have H:=q.jF; have J:=q.fZ; have K:=q.fault; simp only [oa] at H; omega))).symm|exact cI (cr A (fX hp (fun q=>by obtain ⟨AA,G,L,W⟩:=q.iJ; rw [F] at G; cases G; first|exact E L|omega))).symm|exact cI (h_ A ⟨I,gv D,I,I,I,fun i p hi=>B i p (by have:=(aY.1 hi).1; omega) hi⟩).symm
 refine WK x<|ao fun _ b=>aF<|WS fun _ y=>?_
 obtain ⟨p,hp⟩:=aM j.aq k I
 have LE:=bP a_.cells hp
 refine rS (IA k U (aA 12 U) Ar dc I I)<|rS (lQ k 0 (a_.cells p) U cq (aA 12 U) LE U dc U U)<|AL U I3 fun Nv=>fK U LY U<|RK y<|WS fun _ R=>rP 1 [] mn ?_
 have H1:=Lq B C
 refine rP 3 [] (mc 0 U mn) ?_
 refine ew (xs:=[.tmp 60]) (cs:=[(vI p.Id)]) U dD kl U U U U (by simp [Value.cells]) U U fun In=>?_
 refine rS (CL (dH.eq (iS ((pI j k)+1) 9999 ([p.Id]) (some ⟨In,0,none⟩) 1 sd) cz) (aJ (bo 0 U U (by simp [bO]) U)<|aK) U) ?_
 refine rP 1 [] mn ?_
 refine cM (t:=63) U (aW fun c=>?_) (aV fun c=>?_)
 ·refine bI 32 U<|RK R<|ao fun _ C2=>WS fun _ C3=>bI 1 U<|RK C3<|cp U<|WK C2<|ao fun _ L0=>WS fun _ Di=>bI 2 U<|RK Di<|aS U<|WS fun _ Do=>bI 1 U<|RK Do<|bQ<|ai<|e_ U<|ai<|ai<|aI<|KK N<|WS fun _ EP=>rP 2 [] mn ?_
  refine RK EP<|ar<|Q1 hQ U U U ?_
  first|exact cI (gR A).symm|exact cI (cr A (fun q=>by have AB:=q.nf; have H:=q.min_; have J:=q.pd; have K:=q.np; omega)).symm|exact cI (cr A (g5 D)).symm|exact cI (cr A (fX hp (fun q=>by have V:=kx q C; have AB:=q.id; have H:=q.jF; have J:=q.fZ; have K:=q.fault; simp only [oa] at H; omega))).symm|exact cI (cr A (fX hp (fun q=>by obtain ⟨AA,G,L,W⟩:=q.iJ; rw [F] at G; cases G; first|exact E L|omega))).symm|exact cI (h_ A ⟨I,gv D,I,I,I,fun i p hi=>B i p (by have:=(aY.1 hi).1; omega) hi⟩).symm
 refine rP 7 [0,1] (mc 3 U (mc 1 U mn)) ?_
 refine ew (xs:=[.tmp 70]) (cs:=[(vI p.iu)]) U dD kl U U U U (by simp [Value.cells]) U U fun I8=>?_
 refine rS (CL (dH.eq (iS 0 ((j.Race.aT.length:Int)-1) ([p.iu]) (some ⟨I8,0,none⟩) 1 sd) cz) (aJ (bo 0 U U (by simp [bO]) U)<|aK) U) ?_
 refine rP 2 [] mn ?_
 refine cM (t:=74) U (aW fun e=>?_) (aV fun e=>?_)
 ·refine bI 21 U<|RK R<|ao fun _ Ck=>WS fun _ Cp=>bI 1 U<|RK Cp<|cp U<|WK Ck<|ao fun _ Lx=>WS fun _ Cx=>bI 2 U<|RK Cx<|aS U<|WS fun _ C0=>bI 1 U<|RK C0<|bQ<|ai<|e_ U<|ai<|ai<|aI<|KK N<|WS fun _ C1=>rP 2 [] mn ?_
  refine RK C1<|ar<|Q1 hQ U U U ?_
  first|exact cI (gR A).symm|exact cI (cr A (fun q=>by have AB:=q.nf; have H:=q.min_; have J:=q.pd; have K:=q.np; omega)).symm|exact cI (cr A (g5 D)).symm|exact cI (cr A (fX hp (fun q=>by have V:=kx q C; have AB:=q.id; have H:=q.jF; have J:=q.fZ; have K:=q.fault; simp only [oa] at H; omega))).symm|exact cI (cr A (fX hp (fun q=>by obtain ⟨AA,G,L,W⟩:=q.iJ; rw [F] at G; cases G; first|exact E L|omega))).symm|exact cI (h_ A ⟨I,gv D,I,I,I,fun i p hi=>B i p (by have:=(aY.1 hi).1; omega) hi⟩).symm
 refine rP 7 [0,1] (mc 4 U (mc 2 U mn)) ?_
 refine ew (xs:=[.tmp 81]) (cs:=[(vI p.jt)]) U dD kl U U U U (by simp [Value.cells]) U U fun Ja=>?_
 refine rS (CL (dH.eq (iS 0 ((j.Race.aB.length:Int)-1) ([p.jt]) (some ⟨Ja,0,none⟩) 1 sd) cz) (aJ (bo 0 U U (by simp [bO]) U)<|aK) U) ?_
 refine rP 2 [] mn ?_
 refine cM (t:=85) U (aW fun f=>?_) (aV fun f=>?_)
 ·refine bI 10 U<|RK R<|ao fun _ BF=>WS fun _ B3=>bI 1 U<|RK B3<|cp U<|WK BF<|ao fun _ Lo=>WS fun _ B9=>bI 2 U<|RK B9<|aS U<|WS fun _ CM=>bI 1 U<|RK CM<|bQ<|ai<|e_ U<|ai<|ai<|aI<|KK N<|WS fun _ Ci=>rP 2 [] mn ?_
  refine RK Ci<|ar<|Q1 hQ U U U ?_
  first|exact cI (gR A).symm|exact cI (cr A (fun q=>by have AB:=q.nf; have H:=q.min_; have J:=q.pd; have K:=q.np; omega)).symm|exact cI (cr A (g5 D)).symm|exact cI (cr A (fX hp (fun q=>by have V:=kx q C; have AB:=q.id; have H:=q.jF; have J:=q.fZ; have K:=q.fault; simp only [oa] at H; omega))).symm|exact cI (cr A (fX hp (fun q=>by obtain ⟨AA,G,L,W⟩:=q.iJ; rw [F] at G; cases G; first|exact E L|omega))).symm|exact cI (h_ A ⟨I,gv D,I,I,I,fun i p hi=>B i p (by have:=(aY.1 hi).1; omega) hi⟩).symm
 refine rP 6 [0,1] (mc 5 U (mc 3 U mn)) ?_
 refine ew (xs:=[.tmp 91]) (cs:=[(vI p.jU)]) U dD kl U U U U (by simp [Value.cells]) U U fun J2=>?_
 refine rS (CL (dH.eq (iS 0 ((j.aC.length:Int)-1) ([p.jU]) (some ⟨J2,0,none⟩) 1 sd) cz) (aJ (bo 0 U U (by simp [bO]) U)<|aK) U) ?_
 refine bI 2 U<|RK R<|ao fun _ Y=>WS fun _ AC=>rP 1 [] mn ?_
 refine RK AC<|bV U (aW fun X=>?_) (aV fun X=>?_)
 ·refine WK Y<|ao fun _ A6=>WS fun _ A7=>rP 2 [] mn ?_
  refine RK A7<|bV U (br fun M=>?_) (bu fun M=>?_)
  ·refine WK A6<|av<|e7 3 [] (mc 4 U mn) U<|aH<|aN<|KK b<|av<|rP 2 [] mn ?_
   refine aH ?_
   have F9:(vI (pI j (k+1)))=(vI p.Id):=by exact cI (nF hp)
   have GE:(vI (((k+1):Nat):Int))=(vI ((k:Int)+1)):=by exact cI I
   refine bp (a ⟨(k+1),(by first|exact absurd M X|exact ⟨I,p7 B hp (Em hp c H1.1 e f X F E M)⟩)⟩ _ _ _ U os (cY 4<|bk U F9<|bk U GE<|dG.nil _) (aU [5,6,7,8,9,10,11,12,13,14,15,16,17]))
  refine WS fun _ A8=>bI 1 U<|RK A8<|bQ<|ai<|e_ U<|ai<|ai<|aI<|KK N<|WS fun _ A9=>rP 2 [] mn ?_
  refine RK A9<|ar<|Q1 hQ U U U ?_
  first|exact cI (gR A).symm|exact cI (cr A (fun q=>by have AB:=q.nf; have H:=q.min_; have J:=q.pd; have K:=q.np; omega)).symm|exact cI (cr A (g5 D)).symm|exact cI (cr A (fX hp (fun q=>by have V:=kx q C; have AB:=q.id; have H:=q.jF; have J:=q.fZ; have K:=q.fault; simp only [oa] at H; omega))).symm|exact cI (cr A (fX hp (fun q=>by obtain ⟨AA,G,L,W⟩:=q.iJ; rw [F] at G; cases G; first|exact E L|omega))).symm|exact cI (h_ A ⟨I,gv D,I,I,I,fun i p hi=>B i p (by have:=(aY.1 hi).1; omega) hi⟩).symm
 refine ao fun _ AO=>dV cx [11,12] [] [] [0,1,2,3,4,5,6,7,8,9,10,11,12,13,14,15,16,17] [] U U U U U<|eS U (FA 0 U fT U)<|eS U (FA 10 U fT U)<|eS U (L1 (vS heA j.Race.aB.length heC) 6 U cq U U)<|eS U (FA 2 U fT U)<|eS U (L1 (vI p.jt) 4 U cq U U) ?_
 have LT:=(e8 A).2
 obtain ⟨ht,T⟩:=aM j.Race.aB ((p.jt).toNat) I
 obtain ⟨O,S⟩:=aM ha ((p.jt).toNat) I
 have Go:(List.zipWith dz j.Race.aB ha)[(p.jt).toNat]? =some (dz ht O):=er T S
 refine eS U (IA ((p.jt).toNat) U (aA 14 U) sT dc I I)<|eS U (iK ((p.jt).toNat) 0 (vS O.1.1 ht.length O.1.2) U cq (aA 14 U) Go U dc U)<|eS U (FA 1 U fT U) ?_
 have GT:=IO.fZ _ _ _ T S
 have L3:=GT.oY
 have M2:=(LT.fZ ht (aP T)).1
 refine eS U (L1 (vI p.iu) 4 U cq U U) ?_
 obtain ⟨d,hd⟩:=aM ht ((p.iu).toNat) I
 obtain ⟨da,K4⟩:=aM O.2 ((p.iu).toNat) I
 have K5:(List.zipWith ay.cells ht O.2)[(p.iu).toNat]? =some (ay.cells d da):=er hd K4
 refine eS U (IA ((p.iu).toNat) U (show js _ (rd O.1.1 ht.length 7 (List.zipWith ay.cells ht O.2)).holds from (df 15 U (bW T S cJ))) vn dc I I) ?_
 have F:=pE (j:=j) (p:=p) T hd
 have Os:=GT.sig d (aP hd)
 refine eS U (lQ ((p.iu).toNat) 0 (aO.cells (aO.mk d.Out d.dx d.Time (cU.mk d.bD.Start d.bD.gd (aR.mk da.1 d.bD.ab.length da.2)))) U cq (show js _ (rd O.1.1 ht.length 7 (List.zipWith ay.cells ht O.2)).holds from (df 15 U (bW T S cJ))) K5 U dc U U)<|eJ U<|cv U fun T43 Eq=>AL U AU fun OR=>aH (Eq _ _ (aU [1,2,3,4,5,6,7,8,9,10,11,12,13,14,15,16,17,18]) ?_)
 refine cv U fun T45 FS=>fK U Gv U<|aH (FS _ _ (aU [1,2,3,4,5,6,7,8,9,10,11,12,13,14,15,16,17,18]) ?_)
 refine fY U<|KK AO<|av<|e7 1 [] (mc 0 U mn) U<|rS (CL (tL d.Out d.dx d.Time (cU.mk d.bD.Start d.bD.gd (aR.mk da.1 d.bD.ab.length da.2))) (aK) U)<|rP 1 [] mn ?_
 refine cM (t:=109) U (aW fun E=>?_) (aV fun E=>?_)
 ·refine bI 9 U<|RK Y<|ao fun _ Lk=>WS fun _ A3=>bI 2 U<|RK A3<|aS U<|WS fun _ A4=>bI 1 U<|RK A4<|bQ<|ai<|e_ U<|ai<|ai<|aI<|KK N<|WS fun _ A5=>rP 2 [] mn ?_
  refine RK A5<|ar<|Q1 hQ U U U ?_
  first|exact cI (gR A).symm|exact cI (cr A (fun q=>by have AB:=q.nf; have H:=q.min_; have J:=q.pd; have K:=q.np; omega)).symm|exact cI (cr A (g5 D)).symm|exact cI (cr A (fX hp (fun q=>by have V:=kx q C; have AB:=q.id; have H:=q.jF; have J:=q.fZ; have K:=q.fault; simp only [oa] at H; omega))).symm|exact cI (cr A (fX hp (fun q=>by obtain ⟨AA,G,L,W⟩:=q.iJ; rw [F] at G; cases G; first|exact E L|omega))).symm|exact cI (h_ A ⟨I,gv D,I,I,I,fun i p hi=>B i p (by have:=(aY.1 hi).1; omega) hi⟩).symm
 refine rP 5 [0,1] (mc 0 U (mc 5 U mn)) ?_
 refine ew (xs:=[.tmp 114]) (cs:=[(vI p.At)]) U dD kl U U U U (by simp [Value.cells]) U U fun J3=>?_
 refine rS (CL (dH.eq (iS d.bD.Start 86400000 ([p.At]) (some ⟨J3,0,none⟩) 1 sd) cz) (aJ (bo 0 U U (by simp [bO]) U)<|aK) U) ?_
 refine bI 2 U<|RK Y<|ao fun _ Ak=>WS fun _ A0=>rP 2 [] mn ?_
 refine RK A0<|bV U (br fun M=>?_) (bu fun M=>?_)
 ·refine WK Ak<|av<|e7 3 [] (mc 6 U mn) U<|aH<|aN<|KK b<|av<|rP 2 [] mn ?_
  refine aH ?_
  have Fd:(vI (pI j (k+1)))=(vI p.Id):=by exact cI (nF hp)
  have Fn:(vI (((k+1):Nat):Int))=(vI ((k:Int)+1)):=by exact cI I
  refine bp (a ⟨(k+1),(by first|exact absurd M X|exact ⟨I,p7 B hp (Em hp c H1.1 e f X F E M)⟩)⟩ _ _ _ U os (cY 4<|bk U Fd<|bk U Fn<|dG.nil _) (aU [7,8,9,10,11,12,13,14,15,16,17,18,19]))
 refine WS fun _ A1=>bI 1 U<|RK A1<|bQ<|ai<|e_ U<|ai<|ai<|aI<|KK N<|WS fun _ A2=>rP 2 [] mn ?_
 refine RK A2<|ar<|Q1 hQ U U U ?_
 first|exact cI (gR A).symm|exact cI (cr A (fun q=>by have AB:=q.nf; have H:=q.min_; have J:=q.pd; have K:=q.np; omega)).symm|exact cI (cr A (g5 D)).symm|exact cI (cr A (fX hp (fun q=>by have V:=kx q C; have AB:=q.id; have H:=q.jF; have J:=q.fZ; have K:=q.fault; simp only [oa] at H; omega))).symm|exact cI (cr A (fX hp (fun q=>by obtain ⟨AA,G,L,W⟩:=q.iJ; rw [F] at G; cases G; first|exact E L|omega))).symm|exact cI (h_ A ⟨I,gv D,I,I,I,fun i p hi=>B i p (by have:=(aY.1 hi).1; omega) hi⟩).symm
theorem tO (j:cV) (kA:OA) (kC:Nat) (az:List RA) (cA:OA) (cC:Nat) (bA:OA) (bC:Nat) (slA:OA) (slC:Nat) (drA:OA) (drC:Nat) (ha:List dQ) (heA:OA) (heC:Nat) (faA:OA) (faC:Nat) (prA:OA) (prC:Nat) (hin:hH j az ha):
 dH Tryz.prog 29 [(vA (dh.cells (dh.mk (di.mk (bT.mk (bG.mk (aR.mk kA j.Race.aj.aL.length kC)) j.Race.aj.eI (aR.mk cA j.Race.aj.ak.length cC) (aR.mk bA j.Race.aj.aa.length bC) j.Race.aj.bK j.Race.aj.dj j.Race.aj.ck) (aR.mk slA j.Race.aT.length slC) (aR.mk drA j.Race.bS.length drC) j.Race.f_ (aR.mk heA j.Race.aB.length heC)) (aR.mk faA j.aC.length faC) (aR.mk prA j.aq.length prC) j.cu j.j2)))] [(rd g6 3 2 fU),(rd kA j.Race.aj.aL.length 9 (j.Race.aj.aL.map au.cells)),(rd cA j.Race.aj.ak.length 2 (List.zipWith ax.cells j.Race.aj.ak az)),(d_ (bw ax.gL j.Race.aj.ak az)),(rd bA j.Race.aj.aa.length 4 (j.Race.aj.aa.map bM.cells)),(rd slA j.Race.aT.length 1 (j.Race.aT.map iC)),(rd drA j.Race.bS.length 1 (j.Race.bS.map iC)),(rd heA j.Race.aB.length 1 (List.zipWith dz j.Race.aB ha)),(d_ (bw fy j.Race.aB ha)),(rd faA j.aC.length 4 (j.aC.map aX.cells)),(rd prA j.aq.length 5 (j.aq.map a_.cells))] (vT [(vA (db.cells (db.mk (dh.mk (di.mk (bT.mk (bG.mk (aR.mk kA j.Race.aj.aL.length kC)) j.Race.aj.eI (aR.mk cA j.Race.aj.ak.length cC) (aR.mk bA j.Race.aj.aa.length bC) j.Race.aj.bK j.Race.aj.dj j.Race.aj.ck) (aR.mk slA j.Race.aT.length slC) (aR.mk drA j.Race.bS.length drC) j.Race.f_ (aR.mk heA j.Race.aB.length heC)) (aR.mk faA j.aC.length faC) (aR.mk prA j.aq.length prC) j.cu j.j2)))),(vI (dU j))]):=by
 refine bH kr Tryz.func29 U U fun E Q hQ hN=>?_
 try dsimp only
 refine WS fun _ A=>eK U fun C=>AL U GU fun D=>bI 1 U<|RK A<|ao fun _ B=>dw cx 4 kr<|lU 1 [] (mc 1 U mn) U<|dS (SX (bf (xs:=[(0,.tmp 4)]) (cs:=(db.cells (db.mk (dh.mk (di.mk (bT.mk (bG.mk (aR.mk kA j.Race.aj.aL.length kC)) j.Race.aj.eI (aR.mk cA j.Race.aj.ak.length cC) (aR.mk bA j.Race.aj.aa.length bC) j.Race.aj.bK j.Race.aj.dj j.Race.aj.ck) (aR.mk slA j.Race.aT.length slC) (aR.mk drA j.Race.bS.length drC) j.Race.f_ (aR.mk heA j.Race.aB.length heC)) (aR.mk faA j.aC.length faC) (aR.mk prA j.aq.length prC) j.cu j.j2)))) U U (bg SR U)) U U)<|lU 1 [] (mc 1 U mn) U<|dS (CL (Iz j kA kC az cA cC bA bC slA slC drA drC ha heA heC faA faC prA prC hin) (bq [2,3,4,5,6,7,8,9,10,11,12]) U)<|cK<|fK U FB U<|rP 1 [] mn ?_
 refine RK B<|ar<|mQ hQ [0] (mc 0 U mn) U ?_
 rfl
end
section
open Go.RowKit
theorem Lr (j:cV) (kA:OA) (kC:Nat) (az:List RA) (cA:OA) (cC:Nat) (bA:OA) (bC:Nat) (slA:OA) (slC:Nat) (drA:OA) (drC:Nat) (ha:List dQ) (heA:OA) (heC:Nat) (faA:OA) (faC:Nat) (prA:OA) (prC:Nat) (kq hq sq:Int) (hin:hH j az ha):
 dH Tryz.prog 12 [(vA (dh.cells (dh.mk (di.mk (bT.mk (bG.mk (aR.mk kA j.Race.aj.aL.length kC)) j.Race.aj.eI (aR.mk cA j.Race.aj.ak.length cC) (aR.mk bA j.Race.aj.aa.length bC) j.Race.aj.bK j.Race.aj.dj j.Race.aj.ck) (aR.mk slA j.Race.aT.length slC) (aR.mk drA j.Race.bS.length drC) j.Race.f_ (aR.mk heA j.Race.aB.length heC)) (aR.mk faA j.aC.length faC) (aR.mk prA j.aq.length prC) j.cu j.j2))),(vI kq),(vI hq),(vI sq)] [(rd g6 3 2 fU),(rd kA j.Race.aj.aL.length 9 (j.Race.aj.aL.map au.cells)),(rd cA j.Race.aj.ak.length 2 (List.zipWith ax.cells j.Race.aj.ak az)),(d_ (bw ax.gL j.Race.aj.ak az)),(rd bA j.Race.aj.aa.length 4 (j.Race.aj.aa.map bM.cells)),(rd slA j.Race.aT.length 1 (j.Race.aT.map iC)),(rd drA j.Race.bS.length 1 (j.Race.bS.map iC)),(rd heA j.Race.aB.length 1 (List.zipWith dz j.Race.aB ha)),(d_ (bw fy j.Race.aB ha)),(rd faA j.aC.length 4 (j.aC.map aX.cells)),(rd prA j.aq.length 5 (j.aq.map a_.cells))] (vT [(Value.int .u8 (pW j kq hq sq)),(vI (oU j kq hq sq))]):=by
 have O:=hin.race
 have n:=hin.race.line
 have AC:=hin.race.jd
 have AO:=hin.race.has
 have x:=hin.race.ji
 have r:=hin.nf
 have w:=hin.np
 refine bH kr Tryz.func12 U U fun w0 Q hQ hN=>?_
 try dsimp only
 refine WS fun _ W=>eK U fun b2=>bI 2 U<|RK W<|WS fun _ X=>e7 1 [] (mc 0 U mn) U<|rS (CL (tO j kA kC az cA cC bA bC slA slC drA drC ha heA heC faA faC prA prC hin) (bq [1,2,3,4,5,6,7,8,9,10,11]) U)<|bI 3 U<|AL U GU fun b4=>fK U FB U<|bI 1 U<|RK X<|ao fun _ Y=>WS fun _ Z=>rP 2 [] mn ?_
 refine RK Z<|cH U (bu fun A=>?_) (br fun A=>?_)
 ·refine WS fun _ a=>rP 3 [] mn ?_
  refine RK a<|ar<|Q2 hQ U U U U ?_
  first|(have e:=pG (k:=kq) (h:=hq) (s:=sq) A; rw [e.1,e.2]; done)|(have e:=o2 (k:=kq) (h:=hq) (s:=sq) A (fun q=>by unfold ju at q; omega); rw [e.1,e.2]; done)|(have e:=mN (k:=kq) (h:=hq) (s:=sq) A (by unfold ju; omega) hf B hd; rw [e.1,e.2]; done)
 refine WK Y<|ao fun _ b=>WS fun _ E=>rP 5 [] (mc 1 U mn) ?_
 refine ew (xs:=[.tmp 24]) (cs:=[(vI kq)]) U dD kl U U U U (by simp [Value.cells]) U U fun P=>?_
 refine rS (CL (dH.eq (iS 0 ((j.aC.length:Int)-1) ([kq]) (some ⟨P,0,none⟩) 1 sd) cz) (aJ (bo 0 U U (by simp [bO]) U)<|aK) U) ?_
 refine rP 2 [] mn ?_
 refine cg (t:=28) U (bu fun T=>?_) (br fun T=>?_)
 ·refine bI 21 U<|RK E<|aS U<|WS fun _ F=>rP 2 [] mn ?_
  refine RK F<|ar<|Q2 hQ U U U U ?_
  first|(have e:=pG (k:=kq) (h:=hq) (s:=sq) A; rw [e.1,e.2]; done)|(have e:=o2 (k:=kq) (h:=hq) (s:=sq) A (fun q=>by unfold ju at q; omega); rw [e.1,e.2]; done)|(have e:=mN (k:=kq) (h:=hq) (s:=sq) A (by unfold ju; omega) hf B hd; rw [e.1,e.2]; done)
 refine rP 6 [] (mc 2 U mn) ?_
 refine ew (xs:=[.tmp 34]) (cs:=[(vI hq)]) U dD kl U U U U (by simp [Value.cells]) U U fun R=>?_
 refine rS (CL (dH.eq (iS 0 ((j.Race.aB.length:Int)-1) ([hq]) (some ⟨R,0,none⟩) 1 sd) cz) (aJ (bo 0 U U (by simp [bO]) U)<|aK) U) ?_
 refine rP 3 [] mn ?_
 refine cg (t:=39) U (bu fun AA=>?_) (br fun AA=>?_)
 ·refine bI 10 U<|RK E<|aS U<|WS fun _ G=>rP 2 [] mn ?_
  refine RK G<|ar<|Q2 hQ U U U U ?_
  first|(have e:=pG (k:=kq) (h:=hq) (s:=sq) A; rw [e.1,e.2]; done)|(have e:=o2 (k:=kq) (h:=hq) (s:=sq) A (fun q=>by unfold ju at q; omega); rw [e.1,e.2]; done)|(have e:=mN (k:=kq) (h:=hq) (s:=sq) A (by unfold ju; omega) hf B hd; rw [e.1,e.2]; done)
 refine rP 6 [] (mc 3 U mn) ?_
 refine ew (xs:=[.tmp 45]) (cs:=[(vI sq)]) U dD kl U U U U (by simp [Value.cells]) U U fun S=>?_
 refine rS (CL (dH.eq (iS 0 ((j.Race.aT.length:Int)-1) ([sq]) (some ⟨S,0,none⟩) 1 sd) cz) (aJ (bo 0 U U (by simp [bO]) U)<|aK) U) ?_
 refine rP 2 [] mn ?_
 refine RK E<|cH U (bu fun V=>?_) (br fun V=>?_)
 ·refine WS fun _ H=>rP 2 [] mn ?_
  refine RK H<|ar<|Q2 hQ U U U U ?_
  first|(have e:=pG (k:=kq) (h:=hq) (s:=sq) A; rw [e.1,e.2]; done)|(have e:=o2 (k:=kq) (h:=hq) (s:=sq) A (fun q=>by unfold ju at q; omega); rw [e.1,e.2]; done)|(have e:=mN (k:=kq) (h:=hq) (s:=sq) A (by unfold ju; omega) hf B hd; rw [e.1,e.2]; done)
 refine WK b<|ao fun _ AB=>dw cx 18 kr<|dP 4 [0,1] (mc 3 U (mc 4 U mn)) ?_
 have N:=(eZ A).1
 have l:=(eZ A).2
 have m:=(e8 N).1
 have o:=(e8 N).2
 have i:=(dY m).2.head
 unfold eV at i
 obtain ⟨f,hf⟩:=aM j.aC ((kq).toNat) I
 have g:=bP aX.cells hf
 refine dS (IA ((kq).toNat) U (aA 14 U) BC dc I I)<|dS (lQ ((kq).toNat) 0 (aX.cells f) U cq (aA 14 U) g U dc U U)<|dP 4 [] (mc 4 U mn) ?_
 obtain ⟨ht,B⟩:=aM j.Race.aB ((hq).toNat) I
 obtain ⟨C,D⟩:=aM ha ((hq).toNat) I
 have M:(List.zipWith dz j.Race.aB ha)[(hq).toNat]? =some (dz ht C):=er B D
 refine dS (IA ((hq).toNat) U (aA 12 U) sT dc I I) ?_
 have L:=O.fZ _ _ _ B D
 have u:=L.oY
 have v:=(o.fZ ht (aP B)).1
 refine dS (iK ((hq).toNat) 0 (vS C.1.1 ht.length C.1.2) U cq (aA 12 U) M U dc U)<|dP 1 [] mn ?_
 have p:=L.sig
 have K:=l.fault f (aP hf)
 have z:0≤f.ik∧f.ik≤1000000:=by have y:=K.2.2; split at y<;>omega
 obtain ⟨d,hd⟩:=aM ht ((sq).toNat) I
 obtain ⟨da,J⟩:=aM C.2 ((sq).toNat) I
 have c:(List.zipWith ay.cells ht C.2)[(sq).toNat]? =some (ay.cells d da):=er hd J
 refine dS (IA ((sq).toNat) U (show js _ (rd C.1.1 ht.length 7 (List.zipWith ay.cells ht C.2)).holds from (df 13 U (bW B D cJ))) vn dc I I)<|dS (lQ ((sq).toNat) 0 (aO.cells (aO.mk d.Out d.dx d.Time (cU.mk d.bD.Start d.bD.gd (aR.mk da.1 d.bD.ab.length da.2)))) U cq (show js _ (rd C.1.1 ht.length 7 (List.zipWith ay.cells ht C.2)).holds from (df 13 U (bW B D cJ))) c U dc U U) ?_
 have Ak:=p d (aP hd)
 refine dS (CL (zJ j kA kC az cA cC bA bC slA slC drA drC ha heA heC faA faC prA prC f d da.1 da.2 hin (by exact K.1) sd sd) (oK [6,7,8,9,10,11,12,13,14,15]<|aJ (show js _ (rd da.1 d.bD.ab.length 2 (d.bD.ab.map aG.cells)).holds from (df 13 U (bW B D (dW _ (bW hd J (by simp [ay.gL]))))))<|aK) U) ?_
 refine dP 2 [] mn ?_
 refine cK<|RK AB<|ar<|Q2 hQ U U U U ?_
 first|(have e:=pG (k:=kq) (h:=hq) (s:=sq) A; rw [e.1,e.2]; done)|(have e:=o2 (k:=kq) (h:=hq) (s:=sq) A (fun q=>by unfold ju at q; omega); rw [e.1,e.2]; done)|(have e:=mN (k:=kq) (h:=hq) (s:=sq) A (by unfold ju; omega) hf B hd; rw [e.1,e.2]; done)
theorem OB (j:cV) (kA:OA) (kC:Nat) (az:List RA) (cA:OA) (cC:Nat) (bA:OA) (bC:Nat) (slA:OA) (slC:Nat) (drA:OA) (drC:Nat) (ha:List dQ) (heA:OA) (heC:Nat) (faA:OA) (faC:Nat) (prA:OA) (prC:Nat) (iq:Int) (hin:hH j az ha):
 dH Tryz.prog 13 [(vA (dh.cells (dh.mk (di.mk (bT.mk (bG.mk (aR.mk kA j.Race.aj.aL.length kC)) j.Race.aj.eI (aR.mk cA j.Race.aj.ak.length cC) (aR.mk bA j.Race.aj.aa.length bC) j.Race.aj.bK j.Race.aj.dj j.Race.aj.ck) (aR.mk slA j.Race.aT.length slC) (aR.mk drA j.Race.bS.length drC) j.Race.f_ (aR.mk heA j.Race.aB.length heC)) (aR.mk faA j.aC.length faC) (aR.mk prA j.aq.length prC) j.cu j.j2))),(vI iq)] [(rd g6 3 2 fU),(rd kA j.Race.aj.aL.length 9 (j.Race.aj.aL.map au.cells)),(rd cA j.Race.aj.ak.length 2 (List.zipWith ax.cells j.Race.aj.ak az)),(d_ (bw ax.gL j.Race.aj.ak az)),(rd bA j.Race.aj.aa.length 4 (j.Race.aj.aa.map bM.cells)),(rd slA j.Race.aT.length 1 (j.Race.aT.map iC)),(rd drA j.Race.bS.length 1 (j.Race.bS.map iC)),(rd heA j.Race.aB.length 1 (List.zipWith dz j.Race.aB ha)),(d_ (bw fy j.Race.aB ha)),(rd faA j.aC.length 4 (j.aC.map aX.cells)),(rd prA j.aq.length 5 (j.aq.map a_.cells))] (vT [(Value.int .u8 (vY j iq)),(vI (tJ j iq))]):=by
 have R:=hin.race
 have M:=hin.race.line
 have T:=hin.race.jd
 have AA:=hin.race.has
 have S:=hin.race.ji
 have O:=hin.nf
 have P:=hin.np
 refine bH kr Tryz.func13 U U fun X Q hQ hN=>?_
 try dsimp only
 refine WS fun _ F=>eK U fun V=>bI 2 U<|RK F<|WS fun _ G=>e7 1 [] (mc 0 U mn) U<|rS (CL (tO j kA kC az cA cC bA bC slA slC drA drC ha heA heC faA faC prA prC hin) (bq [1,2,3,4,5,6,7,8,9,10,11]) U)<|bI 3 U<|AL U GU fun W=>fK U FB U<|bI 1 U<|RK G<|ao fun _ H=>WS fun _ AB=>rP 2 [] mn ?_
 refine RK AB<|cH U (bu fun A=>?_) (br fun A=>?_)
 ·refine WS fun _ J=>rP 3 [] mn ?_
  refine RK J<|ar<|Q2 hQ U U U U ?_
  first|(have e:=wG (i:=iq) A; rw [e.1,e.2]; done)|(have e:=wD (i:=iq) A I; rw [e.1,e.2]; done)|(have e:=tY (i:=iq) A I hp; rw [e.1,e.2]; done)
 refine WK H<|ao fun _ K=>WS fun _ L=>rP 5 [] (mc 1 U mn) ?_
 refine ew (xs:=[.tmp 20]) (cs:=[(vI iq)]) U dD kl U U U U (by simp [Value.cells]) U U fun D=>?_
 refine rS (CL (dH.eq (iS 0 ((j.aq.length:Int)-1) ([iq]) (some ⟨D,0,none⟩) 1 sd) cz) (aJ (bo 0 U U (by simp [bO]) U)<|aK) U) ?_
 refine rP 1 [] mn ?_
 refine RK L<|cH U (bu fun E=>?_) (br fun E=>?_)
 ·refine WS fun _ B=>rP 2 [] mn ?_
  refine RK B<|ar<|Q2 hQ U U U U ?_
  first|(have e:=wG (i:=iq) A; rw [e.1,e.2]; done)|(have e:=wD (i:=iq) A I; rw [e.1,e.2]; done)|(have e:=tY (i:=iq) A I hp; rw [e.1,e.2]; done)
 refine WK K<|ao fun _ C=>dw cx 9 kr<|dP 4 [0,1] (mc 1 U (mc 2 U mn)) ?_
 obtain ⟨p,hp⟩:=aM j.aq ((iq).toNat) I
 have N:=bP a_.cells hp
 refine dS (IA ((iq).toNat) U (aA 13 U) Ar dc I I)<|dS (lQ ((iq).toNat) 0 (a_.cells p) U cq (aA 13 U) N U dc U U) ?_
 refine dS (CL (IP j kA kC az cA cC bA bC slA slC drA drC ha heA heC faA faC prA prC p hin sd (by exact ⟨_,hp⟩)) (bq [4,5,6,7,8,9,10,11,12,13]) U) ?_
 refine dP 2 [] mn ?_
 refine cK<|RK C<|ar<|Q2 hQ U U U U ?_
 first|(have e:=wG (i:=iq) A; rw [e.1,e.2]; done)|(have e:=wD (i:=iq) A I; rw [e.1,e.2]; done)|(have e:=tY (i:=iq) A I hp; rw [e.1,e.2]; done)
theorem x4 (j:cV) (kA:OA) (kC:Nat) (az:List RA) (cA:OA) (cC:Nat) (bA:OA) (bC:Nat) (slA:OA) (slC:Nat) (drA:OA) (drC:Nat) (ha:List dQ) (heA:OA) (heC:Nat) (faA:OA) (faC:Nat) (prA:OA) (prC:Nat) (hin:hH j az ha):
 rU Tryz.prog 10 [(vA (dh.cells (dh.mk (di.mk (bT.mk (bG.mk (aR.mk kA j.Race.aj.aL.length kC)) j.Race.aj.eI (aR.mk cA j.Race.aj.ak.length cC) (aR.mk bA j.Race.aj.aa.length bC) j.Race.aj.bK j.Race.aj.dj j.Race.aj.ck) (aR.mk slA j.Race.aT.length slC) (aR.mk drA j.Race.bS.length drC) j.Race.f_ (aR.mk heA j.Race.aB.length heC)) (aR.mk faA j.aC.length faC) (aR.mk prA j.aq.length prC) j.cu j.j2)))] [(rd g6 3 2 fU),(rd kA j.Race.aj.aL.length 9 (j.Race.aj.aL.map au.cells)),(rd cA j.Race.aj.ak.length 2 (List.zipWith ax.cells j.Race.aj.ak az)),(d_ (bw ax.gL j.Race.aj.ak az)),(rd bA j.Race.aj.aa.length 4 (j.Race.aj.aa.map bM.cells)),(rd slA j.Race.aT.length 1 (j.Race.aT.map iC)),(rd drA j.Race.bS.length 1 (j.Race.bS.map iC)),(rd heA j.Race.aB.length 1 (List.zipWith dz j.Race.aB ha)),(d_ (bw fy j.Race.aB ha)),(rd faA j.aC.length 4 (j.aC.map aX.cells)),(rd prA j.aq.length 5 (j.aq.map a_.cells))] (fun (x:(OA)×Nat)=>(vT [(vS x.1 ((gX j).length) x.2),(vI (dU j))])) (fun (x:(OA)×Nat)=>True) (fun (x:(OA)×Nat)=>[(own x.1 x.2 3 1 ((gX j).map iC))]):=by
 have T:=hin.race
 have N:=hin.race.line
 have W:=hin.race.jd
 have X:=hin.race.has
 have AA:=hin.race.ji
 have R:=hin.nf
 have S:=hin.np
 refine gp kr Tryz.func10 U U fun a Q hQ hN=>?_
 try dsimp only
 refine WS fun _ H=>eK U fun Y=>bI 1 U<|bI 1 U<|RK H<|WS fun _ AB=>e7 1 [] (mc 0 U mn) U<|rS (CL (tO j kA kC az cA cC bA bC slA slC drA drC ha heA heC faA faC prA prC hin) (bq [1,2,3,4,5,6,7,8,9,10,11]) U)<|bI 3 U<|AL U GU fun Z=>fK U FB U<|bI 1 U<|RK AB<|ao fun _ J=>WS fun _ K=>rP 2 [] mn ?_
 refine RK K<|cH U (bu fun B=>?_) (br fun B=>?_)
 ·refine WS fun _ L=>lj 3 1 ?_
  rw [show (own none 0 3 1 ([]:List (List Value)))=own none 0 3 1 ((gX j).map iC) from by rw [sJ B]; rfl]
  refine bI 2 U<|rP 1 [] mn ?_
  refine RK L<|ar ?_
  refine LX hQ (none,0) [0] [] mn U U U ?_ ?_
  ·first|rfl|(rw [sJ B]; rfl)|(rw [B]; rfl)
  ·trivial
 refine WK J<|WS fun _ M=>rP 3 [0,1] (mc 1 U (mc 0 U mn)) ?_
 refine rS (FU U) ?_
 refine cX (zq j.aq prA prC (Value.func (.func 31) [(vA (db.cells (db.mk (dh.mk (di.mk (bT.mk (bG.mk (aR.mk kA j.Race.aj.aL.length kC)) j.Race.aj.eI (aR.mk cA j.Race.aj.ak.length cC) (aR.mk bA j.Race.aj.aa.length bC) j.Race.aj.bK j.Race.aj.dj j.Race.aj.ck) (aR.mk slA j.Race.aT.length slC) (aR.mk drA j.Race.bS.length drC) j.Race.f_ (aR.mk heA j.Race.aB.length heC)) (aR.mk faA j.aC.length faC) (aR.mk prA j.aq.length prC) j.cu j.j2))))].toArray [].toArray) (fun O C=>(gu j C)) (d_ [(rd kA j.Race.aj.aL.length 9 (j.Race.aj.aL.map au.cells)),(rd cA j.Race.aj.ak.length 2 (List.zipWith ax.cells j.Race.aj.ak az)),(d_ (bw ax.gL j.Race.aj.ak az)),(rd bA j.Race.aj.aa.length 4 (j.Race.aj.aa.map bM.cells)),(rd slA j.Race.aT.length 1 (j.Race.aT.map iC)),(rd drA j.Race.bS.length 1 (j.Race.bS.map iC)),(rd heA j.Race.aB.length 1 (List.zipWith dz j.Race.aB ha)),(d_ (bw fy j.Race.aB ha)),(rd faA j.aC.length 4 (j.aC.map aX.cells)),(rd prA j.aq.length 5 (j.aq.map a_.cells))]) (by intro O C D; exact lf (fi:=[(vA (db.cells (db.mk (dh.mk (di.mk (bT.mk (bG.mk (aR.mk kA j.Race.aj.aL.length kC)) j.Race.aj.eI (aR.mk cA j.Race.aj.ak.length cC) (aR.mk bA j.Race.aj.aa.length bC) j.Race.aj.bK j.Race.aj.dj j.Race.aj.ck) (aR.mk slA j.Race.aT.length slC) (aR.mk drA j.Race.bS.length drC) j.Race.f_ (aR.mk heA j.Race.aB.length heC)) (aR.mk faA j.aC.length faC) (aR.mk prA j.aq.length prC) j.cu j.j2))))]) (ca:=[]) (jX (ve j kA kC az cA cC bA bC slA slC drA drC ha heA heC faA faC prA prC O C (by first|assumption|(obtain ⟨E,_,A⟩:=D; first|exact ⟨E,A⟩|exact hin.kind _ (aP A))|omega) (by first|assumption|(obtain ⟨E,_,A⟩:=D; first|exact ⟨E,A⟩|exact hin.kind _ (aP A))|omega) (by first|assumption|(obtain ⟨E,_,A⟩:=D; first|exact ⟨E,A⟩|exact hin.kind _ (aP A))|omega)) (bq [0,1,2,3,4,5,6,7,8,9]))) sd) (g_ 12 rfl rfl<|aJ (jT (bq [3,4,5,6,7,8,9,10,11,12]))<|aK) rfl fun P V=>?_
 obtain ⟨F,G⟩:=P
 try dsimp only
 refine rP 1 [] mn ?_
 rw [show (lY (iw j.aq (fun O C=>(gu j C))) j.aq.length)=gX j from by rw [j4 B]; rfl]
 refine rP 1 [] mn ?_
 refine RK M<|ar ?_
 refine LX hQ (F,G) [0] [] mn U U U ?_ ?_
 ·first|rfl|(rw [sJ B]; rfl)|(rw [B]; rfl)
 ·trivial
theorem ER (j:cV) (kA:OA) (kC:Nat) (az:List RA) (cA:OA) (cC:Nat) (bA:OA) (bC:Nat) (slA:OA) (slC:Nat) (drA:OA) (drC:Nat) (ha:List dQ) (heA:OA) (heC:Nat) (faA:OA) (faC:Nat) (prA:OA) (prC:Nat) (hin:hH j az ha):
 dH Tryz.prog 15 [(vA (dh.cells (dh.mk (di.mk (bT.mk (bG.mk (aR.mk kA j.Race.aj.aL.length kC)) j.Race.aj.eI (aR.mk cA j.Race.aj.ak.length cC) (aR.mk bA j.Race.aj.aa.length bC) j.Race.aj.bK j.Race.aj.dj j.Race.aj.ck) (aR.mk slA j.Race.aT.length slC) (aR.mk drA j.Race.bS.length drC) j.Race.f_ (aR.mk heA j.Race.aB.length heC)) (aR.mk faA j.aC.length faC) (aR.mk prA j.aq.length prC) j.cu j.j2)))] [(rd g6 3 2 fU),(rd kA j.Race.aj.aL.length 9 (j.Race.aj.aL.map au.cells)),(rd cA j.Race.aj.ak.length 2 (List.zipWith ax.cells j.Race.aj.ak az)),(d_ (bw ax.gL j.Race.aj.ak az)),(rd bA j.Race.aj.aa.length 4 (j.Race.aj.aa.map bM.cells)),(rd slA j.Race.aT.length 1 (j.Race.aT.map iC)),(rd drA j.Race.bS.length 1 (j.Race.bS.map iC)),(rd heA j.Race.aB.length 1 (List.zipWith dz j.Race.aB ha)),(d_ (bw fy j.Race.aB ha)),(rd faA j.aC.length 4 (j.aC.map aX.cells)),(rd prA j.aq.length 5 (j.aq.map a_.cells))] (vT [(vI (vp j)),(vI (rl j)),(vI (dU j))]):=by
 have R:=hin.race
 have M:=hin.race.line
 have Y:=hin.race.jd
 have Z:=hin.race.has
 have S:=hin.race.ji
 have O:=hin.nf
 have P:=hin.np
 refine bH kr Tryz.func15 U U fun k Q hQ hN=>?_
 try dsimp only
 refine WS fun _ G=>eK U fun f=>bI 3 U<|RK G<|WS fun _ H=>rP 1 [] (mc 0 U mn) ?_
 refine cX (x4 j kA kC az cA cC bA bC slA slC drA drC ha heA heC faA faC prA prC hin) (bq [1,2,3,4,5,6,7,8,9,10,11]) U fun c b=>?_
 obtain ⟨d,g⟩:=c
 try dsimp only
 refine bI 5 U<|RK H<|ao fun _ AB=>WS fun _ J=>rP 2 [] mn ?_
 refine RK J<|cH U (bu fun A=>?_) (br fun A=>?_)
 ·refine WS fun _ D=>rP 4 [] mn ?_
  refine RK D<|ar<|Q3 hQ U U U U U ?_
  first|(have e:=yQ A; rw [e.1,e.2]; done)|(have e:=lM A; rw [e.1,e.2,A,j4 A]; rfl)
 refine WK AB<|WS fun _ E=>?_
 have C:=(eZ A).2
 have X:(gX j).length≤8:=by have h:=C.np; have i:=xn (j:=j); rw [j4 A]; omega
 have B:=C.pd
 have N:=C.np
 have K:=qE (a:=((gX j).length:Int)) ⟨I,I⟩ B
 have L:=qE (a:=(j.aq.length:Int)) ⟨I,I⟩ B
 have T:=Int.mul_le_mul_of_nonneg_right (show (0:Int)≤((gX j).length:Int) by omega) B.1
 have AA:=Int.mul_le_mul_of_nonneg_right (show ((gX j).length:Int)≤8 by omega) B.1
 have V:=Int.mul_le_mul_of_nonneg_right (show (0:Int)≤(j.aq.length:Int) by omega) B.1
 have W:=Int.mul_le_mul_of_nonneg_right N B.1
 refine e7 4 [] (mc 1 U mn) U<|rS (BI U (qs K))<|bI 1 U<|RK E<|ao fun _ F=>dw cx 12 kr<|lU 6 [] (mc 1 U mn) U<|dS (BI U (qs L))<|dP 5 [] mn ?_
 refine cK<|RK F<|ar<|Q3 hQ U U U U U ?_
 first|(have e:=yQ A; rw [e.1,e.2]; done)|(have e:=lM A; rw [e.1,e.2,A,j4 A]; rfl)
theorem Iy (i:Int) (p:a_) (sq:Int) (g1:Nat) (j:cV) (kA:OA) (kC:Nat) (az:List RA) (cA:OA) (cC:Nat) (bA:OA) (bC:Nat) (slA:OA) (slC:Nat) (drA:OA) (drC:Nat) (ha:List dQ) (heA:OA) (heC:Nat) (faA:OA) (faC:Nat) (prA:OA) (prC g2:Nat) (hin:hH j az ha) (hok:dU j=0) (hp: ∃ i:Nat,j.aq[i]? =some p):
 dH Tryz.prog 36 [(vI i),(vA (a_.cells p)),(vP g1),(vP g2)] [(cw g1 3 [(vI sq)]),(rd kA j.Race.aj.aL.length 9 (j.Race.aj.aL.map au.cells)),(rd cA j.Race.aj.ak.length 2 (List.zipWith ax.cells j.Race.aj.ak az)),(d_ (bw ax.gL j.Race.aj.ak az)),(rd bA j.Race.aj.aa.length 4 (j.Race.aj.aa.map bM.cells)),(rd slA j.Race.aT.length 1 (j.Race.aT.map iC)),(rd drA j.Race.bS.length 1 (j.Race.bS.map iC)),(rd heA j.Race.aB.length 1 (List.zipWith dz j.Race.aB ha)),(d_ (bw fy j.Race.aB ha)),(rd faA j.aC.length 4 (j.aC.map aX.cells)),(rd prA j.aq.length 5 (j.aq.map a_.cells)),(cw g2 93 (db.cells (db.mk (dh.mk (di.mk (bT.mk (bG.mk (aR.mk kA j.Race.aj.aL.length kC)) j.Race.aj.eI (aR.mk cA j.Race.aj.ak.length cC) (aR.mk bA j.Race.aj.aa.length bC) j.Race.aj.bK j.Race.aj.dj j.Race.aj.ck) (aR.mk slA j.Race.aT.length slC) (aR.mk drA j.Race.bS.length drC) j.Race.f_ (aR.mk heA j.Race.aB.length heC)) (aR.mk faA j.aC.length faC) (aR.mk prA j.aq.length prC) j.cu j.j2))))] (vB (zF j sq p)):=by
 refine bH kr Tryz.func36 U U fun E Q hQ hN=>?_
 try dsimp only
 refine WS fun _ C=>eK U fun D=>bI 1 U<|RK C<|WS fun _ B=>rP 5 [0,1] (mc 0 U (mr 1 U mn)) ?_
 refine cM (t:=11) U (aW fun A=>?_) (aV fun A=>?_)
 ·refine rP 7 [] mn ?_
  refine RK B<|ar<|Q1 hQ U U U ?_
  first|(rw [Bb A]; done)|(rw [E2 A]; done)
 refine e7 3 [0,1] (mr 12 U (mc 0 U mn)) U<|rS (CL (ve j kA kC az cA cC bA bC slA slC drA drC ha heA heC faA faC prA prC i p hin hok hp) (bq [2,3,4,5,6,7,8,9,10,11]) U)<|rP 3 [] mn ?_
 refine RK B<|ar<|Q1 hQ U U U ?_
 first|(rw [Bb A]; done)|(rw [E2 A]; done)
theorem Ew (j:cV) (kA:OA) (kC:Nat) (az:List RA) (cA:OA) (cC:Nat) (bA:OA) (bC:Nat) (slA:OA) (slC:Nat) (drA:OA) (drC:Nat) (ha:List dQ) (heA:OA) (heC:Nat) (faA:OA) (faC:Nat) (prA:OA) (prC:Nat) (sq:Int) (hin:hH j az ha):
 dH Tryz.prog 16 [(vA (dh.cells (dh.mk (di.mk (bT.mk (bG.mk (aR.mk kA j.Race.aj.aL.length kC)) j.Race.aj.eI (aR.mk cA j.Race.aj.ak.length cC) (aR.mk bA j.Race.aj.aa.length bC) j.Race.aj.bK j.Race.aj.dj j.Race.aj.ck) (aR.mk slA j.Race.aT.length slC) (aR.mk drA j.Race.bS.length drC) j.Race.f_ (aR.mk heA j.Race.aB.length heC)) (aR.mk faA j.aC.length faC) (aR.mk prA j.aq.length prC) j.cu j.j2))),(vI sq)] [(rd g6 3 2 fU),(rd kA j.Race.aj.aL.length 9 (j.Race.aj.aL.map au.cells)),(rd cA j.Race.aj.ak.length 2 (List.zipWith ax.cells j.Race.aj.ak az)),(d_ (bw ax.gL j.Race.aj.ak az)),(rd bA j.Race.aj.aa.length 4 (j.Race.aj.aa.map bM.cells)),(rd slA j.Race.aT.length 1 (j.Race.aT.map iC)),(rd drA j.Race.bS.length 1 (j.Race.bS.map iC)),(rd heA j.Race.aB.length 1 (List.zipWith dz j.Race.aB ha)),(d_ (bw fy j.Race.aB ha)),(rd faA j.aC.length 4 (j.aC.map aX.cells)),(rd prA j.aq.length 5 (j.aq.map a_.cells))] (vT [(vI (oR j sq)),(vI (oM j sq))]):=by
 have d:=hin.race
 have Y:=hin.race.line
 have k:=hin.race.jd
 have l:=hin.race.has
 have f:=hin.race.ji
 have b:=hin.nf
 have c:=hin.np
 refine bH kr Tryz.func16 U U fun q Q hQ hN=>?_
 try dsimp only
 refine WS fun _ P=>eK U fun o=>wu U U fun L=>bI 2 U<|RK P<|WS fun _ R=>e7 1 [] (mc 1 U mn) U<|rS (CL (tO j kA kC az cA cC bA bC slA slC drA drC ha heA heC faA faC prA prC hin) (bq [2,3,4,5,6,7,8,9,10,11,12]) U)<|bI 3 U<|AL U GU fun M=>fK U FB U<|bI 1 U<|RK R<|ao fun _ S=>WS fun _ T=>rP 2 [] mn ?_
 refine RK T<|cH U (bu fun A=>?_) (br fun A=>?_)
 ·refine WS fun _ AA=>rP 3 [] mn ?_
  refine RK AA<|ar<|Q2 hQ U U U U ?_
  first|(have e:=vg (s:=sq) A; rw [e.1,e.2]; done)|(have e:=vm (s:=sq) A I; rw [e.1,e.2]; done)|(have e:=wx (s:=sq) A I; rw [e.1,e.2]; done)
 refine WK S<|ao fun _ V=>WS fun _ E=>rP 6 [0,1] (mc 2 U (mc 1 U mn)) ?_
 refine ew (xs:=[.tmp 22]) (cs:=[(vI sq)]) U dD kl U U U U (by simp [Value.cells]) U U fun N=>?_
 refine rS (CL (dH.eq (iS 0 ((j.Race.aT.length:Int)-1) ([sq]) (some ⟨N,0,none⟩) 1 sd) cz) (aJ (bo 0 U U (by simp [bO]) U)<|aK) U) ?_
 refine rP 1 [] mn ?_
 refine RK E<|cH U (bu fun O=>?_) (br fun O=>?_)
 ·refine WS fun _ F=>rP 2 [] mn ?_
  refine RK F<|ar<|Q2 hQ U U U U ?_
  first|(have e:=vg (s:=sq) A; rw [e.1,e.2]; done)|(have e:=vm (s:=sq) A I; rw [e.1,e.2]; done)|(have e:=wx (s:=sq) A I; rw [e.1,e.2]; done)
 refine WK V<|WS fun _ G=>rP 2 [] (mc 3 U mn) ?_
 refine rS (FU U) ?_
 refine cX (zq j.aq prA prC (Value.func (.func 36) [].toArray [(vP L),(vP M)].toArray) (fun K D=>(zF j sq D)) (d_ [(cw L 3 [(vI sq)]),(rd kA j.Race.aj.aL.length 9 (j.Race.aj.aL.map au.cells)),(rd cA j.Race.aj.ak.length 2 (List.zipWith ax.cells j.Race.aj.ak az)),(d_ (bw ax.gL j.Race.aj.ak az)),(rd bA j.Race.aj.aa.length 4 (j.Race.aj.aa.map bM.cells)),(rd slA j.Race.aT.length 1 (j.Race.aT.map iC)),(rd drA j.Race.bS.length 1 (j.Race.bS.map iC)),(rd heA j.Race.aB.length 1 (List.zipWith dz j.Race.aB ha)),(d_ (bw fy j.Race.aB ha)),(rd faA j.aC.length 4 (j.aC.map aX.cells)),(rd prA j.aq.length 5 (j.aq.map a_.cells)),(cw M 93 (db.cells (db.mk (dh.mk (di.mk (bT.mk (bG.mk (aR.mk kA j.Race.aj.aL.length kC)) j.Race.aj.eI (aR.mk cA j.Race.aj.ak.length cC) (aR.mk bA j.Race.aj.aa.length bC) j.Race.aj.bK j.Race.aj.dj j.Race.aj.ck) (aR.mk slA j.Race.aT.length slC) (aR.mk drA j.Race.bS.length drC) j.Race.f_ (aR.mk heA j.Race.aB.length heC)) (aR.mk faA j.aC.length faC) (aR.mk prA j.aq.length prC) j.cu j.j2))))]) (by intro K D C; exact lf (fi:=[]) (ca:=[(vP L),(vP M)]) (jX (Iy K D sq L j kA kC az cA cC bA bC slA slC drA drC ha heA heC faA faC prA prC M (by first|assumption|(obtain ⟨J,_,B⟩:=C; first|exact ⟨J,B⟩|exact hin.kind _ (aP B))|omega) (by first|assumption|(obtain ⟨J,_,B⟩:=C; first|exact ⟨J,B⟩|exact hin.kind _ (aP B))|omega) (by first|assumption|(obtain ⟨J,_,B⟩:=C; first|exact ⟨J,B⟩|exact hin.kind _ (aP B))|omega)) (bq [0,1,2,3,4,5,6,7,8,9,10,11]))) sd) (g_ 14 rfl rfl<|aJ (jT (bq [2,5,6,7,8,9,10,11,12,13,14,1]))<|aK) rfl fun Z g=>?_
 obtain ⟨h,i⟩:=Z
 try dsimp only
 refine bI 1 U<|RK G<|WS fun _ H=>rP 1 [] mn ?_
 have AB:=(eZ A).2
 have n:=AB.np
 have X:=AB.pd
 have m:(lY (iw j.aq fun _ p=>zF j sq p) j.aq.length).length≤8:=Nat.le_trans qh I
 have W:=qE (a:= -(((lY (iw j.aq fun _ p=>zF j sq p) j.aq.length).length:Nat):Int)) ⟨I,I⟩ X
 refine bI 1 U<|rS (NG U ⟨I,I⟩)<|e7 2 [] (mc 4 U mn) U<|rS (BI U (qs W))<|rP 2 [] mn ?_
 refine RK H<|ar<|Q2 hQ U U U U ?_
 first|(have e:=vg (s:=sq) A; rw [e.1,e.2]; done)|(have e:=vm (s:=sq) A I; rw [e.1,e.2]; done)|(have e:=wx (s:=sq) A I; rw [e.1,e.2]; done)
end
section
open Go.RowKit
def qp (b:Bool):List Value:=[.bool b]
@[simp] theorem z7 (b:Bool):(qp b).length=1:=rfl
theorem FQ (l:List Bool): ∀ v∈(l.map qp).flatten,v.oneCell'=true:=t_ (fun s=>rfl) l
end
section
def lV (r:fg) (i:Nat):Prop:= ∀ (j:Nat) x,j<i→r.aB[j]? =some x→ ¬ po x
def ni (x:List ay) (i:Nat):Prop:= ∀ (j:Nat) d,j<i→x[j]? =some d→ ¬ 15<(d.bD.ab.length:Int)
section
variable {r:fg} {i:Nat} {x:List ay} {d:ay}
theorem Aq:lV r 0:=fun j x hj=>absurd hj (Nat.not_lt_zero _)
theorem Be (h:lV r i) (hx:r.aB[i]? =some x) (ho: ¬ po x):lV r (i+1):=fun j y hj hy=>by
 rcases Nat.lt_or_ge j i with q|q
 ·exact h j y q hy
 ·obtain rfl:j=i:=by omega
  rw [hx] at hy; cases hy; exact ho
theorem BK:ni x 0:=fun j x hj=>absurd hj (Nat.not_lt_zero _)
theorem Bv (h:ni x i) (hx:x[i]? =some d) (ho: ¬ 15<(d.bD.ab.length:Int)):ni x (i+1):=fun j y hj hy=>by
 rcases Nat.lt_or_ge j i with q|q
 ·exact h j y q hy
 ·obtain rfl:j=i:=by omega
  rw [hx] at hy; cases hy; exact ho
theorem CK (hl: ¬ 8<(x.length:Int)) (h:ni x i) (hi:x.length≤i): ¬ po x:=by
 rintro (q|⟨d,hd,q⟩)
 ·exact hl q
 ·obtain ⟨j,hj⟩:=List.getElem?_of_mem hd
  exact h j d (by have:=(aY.1 hj).1; omega) hj q
theorem GM (h1: ¬ mT r.aj) (h2: ¬ 8<(r.aT.length:Int)∧ ¬ 8<(r.bS.length:Int)∧ ¬ 5<(r.aB.length:Int)) (h:lV r i) (hi:r.aB.length≤i): ¬ mU r:=by
 rintro ((q|q)|⟨x,hx,q⟩)
 ·exact h1 q
 ·omega
 ·obtain ⟨j,hj⟩:=List.getElem?_of_mem hx
  exact h j x (by have:=(aY.1 hj).1; omega) hj q
theorem qc (h:mT r.aj∨8<(r.aT.length:Int)∨8<(r.bS.length:Int)∨5<(r.aB.length:Int)):mU r:= .inl h
theorem BO (hx:r.aB[i]? =some x) (h:8<(x.length:Int)):mU r:= .inr ⟨x,aP hx,.inl h⟩
theorem CQ {j:Nat} (hx:r.aB[i]? =some x) (hd:x[j]? =some d) (h:15<(d.bD.ab.length:Int)):mU r:= .inr ⟨x,aP hx,.inr ⟨d,aP hd,h⟩⟩
end
noncomputable def o9 (l:bj) (d:ay):ag:=if d.Out=true then gU else gj l d
theorem H_ {l:bj} {d:ay} (h:iW l d):o9 l d=gj l d:=by
 unfold o9
 split
 ·rename_i q
  rw [ED q]
  rw [qK q] at h
  exact h.2.1.symm
 ·rfl
theorem Af {l:bj} {d:ay} (h:d.Out=true):o9 l d=gU:=if_pos h
theorem Ef {l:bj} {d:ay} (h:d.Out=false∧d.dx=true):o9 l d=d.Time:=by unfold o9; rw [if_neg (by rw [h.1]; decide),E5 h]
theorem D3 {l:bj} {d:ay} (h:d.Out=false∧d.dx=false):o9 l d=z9 l d.bD:=by unfold o9; rw [if_neg (by rw [h.1]; decide),D5 h]
def P4 (r:fg) (j:Nat):Prop:= ∀ x,r.aT[j]? =some x→(0≤x∧x≤9999)∧ ∀ y,0<j→r.aT[j-1]? =some y→y<x
def JK (r:fg) (j:Nat):Prop:= ∀ x,r.bS[j]? =some x→(0≤x∧x≤(r.aT.length:Int)-1)∧ ∀ (k:Nat) y,k<j→r.bS[k]? =some y→y≠x
def xS (r:fg) (i:Nat):Prop:= ∀ j,j<i→P4 r j∧JK r j
section
variable {r:fg} {i k:Nat} {x:Int}
theorem Ib:xS r 0:=fun j hj=>absurd hj (Nat.not_lt_zero _)
theorem BZ (h:xS r i) (h1:P4 r i) (h2:JK r i):xS r (i+1):=fun j hj=>by
 rcases Nat.lt_or_ge j i with q|q
 ·exact h j q
 ·obtain rfl:j=i:=by omega
  exact ⟨h1,h2⟩
theorem wH {l:List Int} {u v:Int} (h: ∀ (q:Nat) y,q<k→l[q]? =some y→y≠v) (hx:l[k]? =some u) (hne: ¬ u=v): ∀ (q:Nat) y,q<k+1→l[q]? =some y→y≠v:=fun q y hq hy=>by
 rcases Nat.lt_or_ge q k with c|c
 ·exact h q y c hy
 ·obtain rfl:q=k:=by omega
  rw [hx] at hy; cases hy; exact hne
theorem G7 (hl:r.bS.length=r.aT.length) (h:xS r r.aT.length):r.bS.Perm (GF r.aT.length):=by
 have nd:r.bS.Nodup:=by
  rw [List.nodup_iff_pairwise_ne,eO]
  intro a b ha hb A
  exact ((h b I).2 _ (fQ hb)).2 a _ A (fQ ha)
 have hm: ∀ x∈r.bS,x∈GF r.aT.length:=fun x hx=>by
  obtain ⟨j,hj⟩:=List.getElem?_of_mem hx
  have:=((h j (by have:=(aY.1 hj).1; omega)).2 x hj).1
  exact cy.2 ⟨x.toNat,List.mem_range.2 I,I⟩
 have ndu:(GF r.aT.length).Nodup:=by
  unfold GF
  rw [List.nodup_iff_pairwise_ne,List.pairwise_map]
  exact List.pairwise_lt_range.imp fun h=>by omega
 have e:nN r.bS=(GF r.aT.length).filter fun x=>decide (x∈r.bS):=by
  refine Gu uu ((xy _).filter _) (l7.nodup_iff.2 nd) (ndu.filter _) fun x=>?_
  rw [l7.mem_iff,List.mem_filter,decide_eq_true_eq]
  exact ⟨fun q=>⟨hm x q,q⟩,fun q=>q.2⟩
 have B:=congrArg List.length e
 rw [tW,hl] at B
 have C:(GF r.aT.length).filter (fun x=>decide (x∈r.bS))=GF r.aT.length:=List.filter_sublist.eq_of_length (by rw [← B]; simp)
 rw [C] at e
 rw [← e]; exact l7.symm
theorem Fy {n:Nat} (h1:1≤(r.aT.length:Int)∧(r.aT.length:Int)≤5) (h2:r.bS.length=r.aT.length) (h3:0≤r.f_∧r.f_≤5) (h4:1≤(r.aB.length:Int)∧(r.aB.length:Int)≤3)
 (hn:n=r.aT.length) (h6:xS r n) (h7:km r i) (hi:r.aB.length≤i):fH r:=by
 subst hn
 refine ⟨h1,h3,h4,fun k x hx=>(h6 k (aY.1 hx).1).1 x hx,G7 h2 h6,fun h hh=>?_⟩
 obtain ⟨j,hj⟩:=List.getElem?_of_mem hh
 exact h7 j h (by have:=(aY.1 hj).1; omega) hj
theorem fH.Ie (h:fH r) (hx:r.bS[i]? =some x):0≤x∧x≤(r.aT.length:Int)-1:=by
 obtain ⟨k,hk,rfl⟩:=cy.1 (h.draw.mem_iff.1 (aP hx))
 have:=List.mem_range.1 hk
 omega
theorem fH.Nv (h:fH r):r.bS.Nodup:=by
 refine h.draw.nodup_iff.2 ?_
 rw [List.nodup_iff_pairwise_ne,List.pairwise_map]
 exact List.pairwise_lt_range.imp fun h=>by omega
theorem fH.O3 (h:fH r) {u v:Int} (hki:k<i) (hu:r.bS[k]? =some u) (hv:r.bS[i]? =some v): ¬ u=v:=by
 have A:=h.Nv
 rw [List.nodup_iff_pairwise_ne,eO] at A
 obtain ⟨a,ea⟩:=aY.1 hu
 obtain ⟨b,eb⟩:=aY.1 hv
 subst ea eb
 exact A k i a b hki
end
section
variable {r:fg} {i k n:Nat} {s:ag} {l:bj} {hs:List (List ay)}
end
section
variable {r:fg} {i x:Int} {own s:ag} {k:Nat} {ys zs:List Int}
end
section
variable {B:List Bool} {P Q:Int→Prop} {k x:Nat} {m:sX} {i y a b:Int} {ys:List Int}
end
end
section
open Go.RowKit
theorem je (n lo hi:Int):
 dH Tryz.prog 137 [(vI n),(vI lo),(vI hi)] [] (vB (decide (lo≤n∧n≤hi))):=by
 refine bH kr Tryz.func137 U U fun D Q hQ hN=>?_
 try dsimp only
 refine WS fun _ B=>bI 1 U<|RK B<|WS fun _ A=>rP 4 [] mn ?_
 refine cg (t:=10) U (aV fun C=>?_) (aW fun C=>?_)
 ·refine rP 5 [] mn ?_
  refine RK A<|ar<|Q1 hQ U U U ?_
  exact cB (fu.2 I)
 refine rP 5 [] mn ?_
 refine RK A<|ar<|Q1 hQ U U U ?_
 exact cB (bx I).symm
theorem AX (ts:List au) (tsA:OA) (tsC:Nat) (hst: ∀ x∈ts,bU x) (hlen:ts.length≤12):
 rU Tryz.prog 160 [(vA (bG.cells (bG.mk (aR.mk tsA ts.length tsC))))] [(rd tsA ts.length 9 (ts.map au.cells))] (fun (x:(OA)×Nat)=>(vS x.1 ((iB ts (ts.length+1)).length) x.2)) (fun (x:(OA)×Nat)=>True) (fun (x:(OA)×Nat)=>[(own x.1 x.2 53 2 ((iB ts (ts.length+1)).map ag.cells))]):=by
 refine gp kr Tryz.func160 U U fun V Q hQ hN=>?_
 try dsimp only
 refine WS fun _ J=>eK U fun AA=>bI 1 U<|RK J<|WS fun _ K=>bI 1 U<|RK K<|ao fun _ L=>WS fun _ M=>rP 1 [] mn ?_
 refine RK M<|aF<|eL 53 2 ?_
 have A:(0≤ts.length+1):=by exact Nat.zero_le _
 refine bZ (ι:={z:Nat×(OA)×Nat // (z.1≤ts.length+1)}) [1] [1,2] U U (fun z=>[(3,(vS z.1.2.1 ((iB ts z.1.1).length) z.1.2.2)),(4,(vI (z.1.1:Int)))]) (fun z=>[(own z.1.2.1 z.1.2.2 53 2 ((iB ts z.1.1).map ag.cells))]) (fun _=>rfl) (fun _=>rfl) (fun z=>ts.length+1-z.1.1) ⟨(0,none,0),A⟩ (bE U) (aU [1,2,0]) ?_
 clear A
 rintro ⟨⟨i,a,c⟩,B⟩ J6 AB
 try dsimp only at B
 try dsimp only
 refine ao fun _ N=>WS fun _ O=>rP 5 [] (mc 0 U mn) ?_
 refine RK O<|bV U (aW fun T=>?_) (aV fun T=>?_)
 ·refine bQ<|ai<|ai<|aI<|KK L<|WS fun _ E=>?_
  obtain rfl:i=ts.length+1:=by omega
  refine rP 2 [] mn ?_
  refine RK E<|ar<|LX hQ (a,c) [2] [] mn U U U U ?_
  trivial
 refine WK N<|ao fun _ C=>aF<|WS fun _ D=>e7 2 [] (mc 0 U mn) U<|rS (CL (zC ts tsA tsC 0 (i:Int) hst hlen I) (bq [1]) U)<|bI 3 U<|AL U ed fun P=>AL U ed fun R=>sr U c_ U<|fK U c_ U<|RK D<|av<|rP 2 [] (mc 1 U mn) ?_
 refine ew (xs:=[.tmp 21]) (cs:=(ag.cells (eE ts (0:Int).toNat ((i:Int)-0).toNat))) U lk ed U U U U (by simp [Value.cells,ag.aZ]) U U fun S=>?_
 refine fF (es2:=(List.map ag.cells (iB ts (i+1)))) (m':=(iB ts (i+1)).length) 5 U U U EK U U sm (bo (es:=List.map ag.cells [(eE ts (0:Int).toNat ((i:Int)-0).toNat)]) 0 U U (by simp [ag.aZ]) U) (kU _) (by simp only [oT]; omega) (by simp only [maxLen,oT]; omega) (by rw [BW]; simp) sm U fun G H=>?_
 try dsimp only
 refine bI 1 U<|aH<|aN<|KK C<|av<|rP 3 [] mn ?_
 refine aH ?_
 have F:(vI (((i+1):Nat):Int))=(vI ((i:Int)+1)):=by exact cI I
 refine bp (AB ⟨((i+1),G,H),(by first|omega|(simp only []; omega))⟩ _ _ _ U os (dG.cons U<|dG.cons U<|bk U F<|dG.nil _) (aU [3,4,5]))
theorem Qg (ts:List au) (tsA:OA) (tsC:Nat) (s:cE) (hlen:ts.length≤1000000) (hside: ∀ x∈ts,0≤x.jm∧x.jm≤255):
 dH Tryz.prog 153 [(vA (bG.cells (bG.mk (aR.mk tsA ts.length tsC)))),(vA (cE.cells s))] [(rd tsA ts.length 9 (ts.map au.cells))] (vT [(vA (ag.cells (N5 ts s))),(vI (EI ts s))]):=by
 refine bH kr Tryz.func153 U U fun r Q hQ hN=>?_
 try dsimp only
 refine WS fun _ R=>eK U fun i=>eK U fun k=>AL U ed fun l=>bI 1 U<|RK R<|ao fun _ S=>WS fun _ T=>e7 1 [] (mc 2 U mn) U<|rS (CL (wq ts tsA tsC hlen) (bq [3]) U)<|rP 1 [] mn ?_
 refine RK T<|cH U (fun AB=>?_) (fun AB=>?_)
 ·rw [Bool.not_eq_true'] at AB
  refine WS fun _ AA=>rS (SX (bf (xs:=[]) (cs:=(ag.cells (ag.mk 0 0))) U U (bg gZ U)) U U)<|fK U c_ U<|rP 1 [] mn ?_
  refine RK AA<|ar<|mQ hQ [0] (mc 0 U mn) U ?_
  (have e:=Kk (s:=s) (by simpa using AB); rw [e.1,e.2]<;>rfl)
 rw [Bool.not_eq_false'] at AB
 refine WK S<|ao fun _ V=>WS fun _ W=>?_
 have M:=kf AB
 have Z:=kZ AB
 refine e7 2 [0,1] (mc 2 U (mc 1 U mn)) U<|rS (CL (rX ts tsA tsC s asm asm) (bq [3]) U)<|rP 1 [] mn ?_
 refine RK W<|cH U (bu fun D=>?_) (br fun D=>?_)
 ·refine WS fun _ O=>rS (SX (bf (xs:=[]) (cs:=(ag.cells (ag.mk 0 0))) U U (bg gZ U)) U U)<|fK U c_ U<|rP 1 [] mn ?_
  refine RK O<|ar<|mQ hQ [0] (mc 0 U mn) U ?_
  (have e:=HF AB D; rw [e.1,e.2]<;>rfl)
 refine WK V<|ao fun _ H=>mx cx [0,2,3] [1,4,5,6,7] [false,false,false] [] [(cw l 53 (ag.cells (ag.mk 0 0))),(cw k 120 (cE.cells s)),(cw i 24 (bG.cells (bG.mk (aR.mk tsA ts.length tsC)))),(rd tsA ts.length 9 (ts.map au.cells)).ro] [] kr (aU [0,1,2,3]) (aU []) ?_
 have q:=D.1
 have N:=qX M D
 have p:(iB ts (ts.length+1)).length=ts.length+1:=oT
 refine eS U (LW 2 U cq U U)<|eS U (FA 0 U fT U)<|eS U (L1 (vI s.bB) 1 U cq U U)<|eJ U<|mS [1,6] kr (iO ?_<|iO ?_<|qm)
 rotate_left 1
 ·refine NO U U [1,4,5,7] fun T12 J=>AL U ed fun f=>RD J 1 U<|N1 1<|NO U U [4,5,7] fun T14 P=>cX (AX ts tsA tsC asm asm) (bq [4]) U fun Y b=>?_
  obtain ⟨d,o⟩:=Y
  try dsimp only
  refine RD P 2 U<|N1 4<|NO U U [5,7] fun T19 E=>?_
  obtain ⟨z,hz⟩:=aM (iB ts (ts.length+1)) ((s.bB).toNat) I
  have A:=bP ag.cells hz
  refine rS (IA ((s.bB).toNat) U (aQ (n:=(iB ts (ts.length+1)).length) 0 U sm) lk dc I I)<|RD E 2 U<|N1 5<|NO U U [7] fun T20 F=>rS (lQ ((s.bB).toNat) 0 (ag.cells z) U cq (aQ (n:=(iB ts (ts.length+1)).length) 0 U sm) A U dc U U)<|RD F 2 U<|N1 7<|NO U U [] fun T21 C=>sr U c_ U<|RD C 2 U<|lS<|KK H<|WS fun _ B=>rP 1 [] mn ?_
  have A:=pZ hz
  have G:=mm M 0 s.bB.toNat
  unfold lR at N
  rw [← A] at G
  refine e7 11 [0,1,0,1] (mc 1 U (mc 3 U mn)) U<|rS (SX (bf (xs:=[(0,.tmp 27),(1,.tmp 33)]) (cs:=(ag.cells (ag.mk (z.Lo+s.mP.Lo) (z.Hi+s.mP.Hi)))) U U (bg gZ U)) U U)<|G3 U c_ U<|rP 1 [] mn ?_
  refine RK B<|ar<|mQ hQ [0] (mc 2 U mn) U ?_
  (have e:=x5 AB D; subst A; rw [e.1,e.2]<;>rfl)
 refine NO U U [4,5,6,7] fun T12 J=>cX (AX ts tsA tsC asm asm) (bq [3]) U fun X a=>?_
 obtain ⟨c,m⟩:=X
 try dsimp only
 refine RD J 1 U<|mS [4,6] kr (iO ?_<|iO ?_<|qm)
 rotate_left 1
 ·refine NO U U [4,5,7] fun T17 K=>AL U ed fun g=>RD K 2 U<|N1 4<|NO U U [5,7] fun T19 E=>?_
  obtain ⟨z,hz⟩:=aM (iB ts (ts.length+1)) ((s.bB).toNat) I
  have A:=bP ag.cells hz
  refine rS (IA ((s.bB).toNat) U (aQ (n:=(iB ts (ts.length+1)).length) 1 U sm) lk dc I I)<|RD E 2 U<|N1 5<|NO U U [7] fun T20 F=>rS (lQ ((s.bB).toNat) 0 (ag.cells z) U cq (aQ (n:=(iB ts (ts.length+1)).length) 1 U sm) A U dc U U)<|RD F 2 U<|N1 7<|NO U U [] fun T21 C=>fK U c_ U<|RD C 2 U<|lS<|KK H<|WS fun _ B=>rP 1 [] mn ?_
  have A:=pZ hz
  have G:=mm M 0 s.bB.toNat
  unfold lR at N
  rw [← A] at G
  refine e7 11 [0,1,0,1] (mc 0 U (mc 3 U mn)) U<|rS (SX (bf (xs:=[(0,.tmp 27),(1,.tmp 33)]) (cs:=(ag.cells (ag.mk (z.Lo+s.mP.Lo) (z.Hi+s.mP.Hi)))) U U (bg gZ U)) U U)<|G3 U c_ U<|rP 1 [] mn ?_
  refine RK B<|ar<|mQ hQ [0] (mc 2 U mn) U ?_
  (have e:=x5 AB D; subst A; rw [e.1,e.2]<;>rfl)
 refine NO U U [5,6,7] fun T17 K=>?_
 obtain ⟨z,hz⟩:=aM (iB ts (ts.length+1)) ((s.bB).toNat) I
 have A:=bP ag.cells hz
 refine rS (IA ((s.bB).toNat) U (aQ (n:=(iB ts (ts.length+1)).length) 0 U sm) lk dc I I)<|RD K 1 U<|mS [5,6] kr (iO ?_<|iO ?_<|qm)
 rotate_left 1
 ·refine NO U U [5,7] fun T18 L=>AL U ed fun h=>RD L 2 U<|N1 5<|NO U U [7] fun T20 F=>rS (lQ ((s.bB).toNat) 0 (ag.cells z) U cq (aQ (n:=(iB ts (ts.length+1)).length) 1 U sm) A U dc U U)<|RD F 2 U<|N1 7<|NO U U [] fun T21 C=>fK U c_ U<|RD C 2 U<|lS<|KK H<|WS fun _ B=>rP 1 [] mn ?_
  have A:=pZ hz
  have G:=mm M 0 s.bB.toNat
  unfold lR at N
  rw [← A] at G
  refine e7 11 [0,1,0,1] (mc 0 U (mc 3 U mn)) U<|rS (SX (bf (xs:=[(0,.tmp 27),(1,.tmp 33)]) (cs:=(ag.cells (ag.mk (z.Lo+s.mP.Lo) (z.Hi+s.mP.Hi)))) U U (bg gZ U)) U U)<|G3 U c_ U<|rP 1 [] mn ?_
  refine RK B<|ar<|mQ hQ [0] (mc 2 U mn) U ?_
  (have e:=x5 AB D; subst A; rw [e.1,e.2]<;>rfl)
 refine NO U U [6,7] fun T18 L=>rS (lQ ((s.bB).toNat) 0 (ag.cells z) U cq (aQ (n:=(iB ts (ts.length+1)).length) 0 U sm) A U dc U U)<|RD L 1 U<|N1 6<|NO U U [7] fun T19 E=>AL U ed fun j=>RD E 2 U<|N1 7<|NO U U [] fun T21 C=>fK U c_ U<|RD C 2 U<|lS<|KK H<|WS fun _ B=>rP 1 [] mn ?_
 have A:=pZ hz
 have G:=mm M 0 s.bB.toNat
 unfold lR at N
 rw [← A] at G
 refine e7 11 [0,1,0,1] (mc 0 U (mc 3 U mn)) U<|rS (SX (bf (xs:=[(0,.tmp 27),(1,.tmp 33)]) (cs:=(ag.cells (ag.mk (z.Lo+s.mP.Lo) (z.Hi+s.mP.Hi)))) U U (bg gZ U)) U U)<|G3 U c_ U<|rP 1 [] mn ?_
 refine RK B<|ar<|mQ hQ [0] (mc 2 U mn) U ?_
 (have e:=x5 AB D; subst A; rw [e.1,e.2]<;>rfl)
theorem Gb (ts:List au) (tsA:OA) (tsC:Nat) (p:cE) (q:cE) (hlen:ts.length≤1000000) (hside: ∀ x∈ts,0≤x.jm∧x.jm≤255) (hord: ¬ q.bB<p.bB):
 dH Tryz.prog 154 [(vA (bG.cells (bG.mk (aR.mk tsA ts.length tsC)))),(vA (cE.cells p)),(vA (cE.cells q))] [(rd tsA ts.length 9 (ts.map au.cells))] (vT [(vA (ag.cells (k6 ts p q))),(vI (l6 ts p q))]):=by
 refine bH kr Tryz.func154 U U fun k Q hQ hN=>?_
 try dsimp only
 refine WS fun _ N=>eK U fun f=>eK U fun g=>eK U fun i=>AL U ed fun j=>bI 1 U<|RK N<|ao fun _ O=>WS fun _ P=>e7 1 [] (mc 3 U mn) U<|rS (CL (wq ts tsA tsC hlen) (bq [4]) U)<|rP 1 [] mn ?_
 refine RK P<|cH U (fun A=>?_) (fun A=>?_)
 ·rw [Bool.not_eq_true'] at A
  refine WS fun _ R=>rS (SX (bf (xs:=[]) (cs:=(ag.cells (ag.mk 0 0))) U U (bg gZ U)) U U)<|fK U c_ U<|rP 1 [] mn ?_
  refine RK R<|ar<|mQ hQ [0] (mc 0 U mn) U ?_
  (have e:=vi (a:=p) (b:=q) (by simpa using A); rw [e.1,e.2]<;>rfl)
 rw [Bool.not_eq_false'] at A
 refine WK O<|ao fun _ S=>WS fun _ E=>?_
 have D:=kf A
 have M:=kZ A
 refine e7 2 [0,1] (mc 3 U (mc 2 U mn)) U<|rS (CL (rX ts tsA tsC p asm asm) (bq [4]) U)<|rP 2 [] mn ?_
 refine cg (t:=20) U (bu fun B=>?_) (br fun B=>?_)
 ·refine bI 5 U<|RK E<|aS U<|WS fun _ G=>rS (SX (bf (xs:=[]) (cs:=(ag.cells (ag.mk 0 0))) U U (bg gZ U)) U U)<|fK U c_ U<|rP 1 [] mn ?_
  refine RK G<|ar<|mQ hQ [0] (mc 0 U mn) U ?_
  (have e:=o0 (a:=p) (b:=q) A (fun h=>by first|exact B h.1|exact C h.2); rw [e.1,e.2]<;>rfl)
 refine e7 2 [0,1] (mc 3 U (mc 1 U mn)) U<|rS (CL (rX ts tsA tsC q asm asm) (bq [4]) U)<|rP 2 [] mn ?_
 refine RK E<|cH U (bu fun C=>?_) (br fun C=>?_)
 ·refine WS fun _ H=>rS (SX (bf (xs:=[]) (cs:=(ag.cells (ag.mk 0 0))) U U (bg gZ U)) U U)<|fK U c_ U<|rP 1 [] mn ?_
  refine RK H<|ar<|mQ hQ [0] (mc 0 U mn) U ?_
  (have e:=o0 (a:=p) (b:=q) A (fun h=>by first|exact B h.1|exact C h.2); rw [e.1,e.2]<;>rfl)
 refine WK S<|ao fun _ AB=>WS fun _ J=>?_
 have AA:fG ts p∧fG ts q:=⟨B,C⟩
 have T:=qX D B
 have V:=qX D C
 have c:=B.1
 have d:=C.1
 have Y:=x9 D M C B
 unfold lR at T V
 refine rP 5 [0,1] (mc 1 U (mc 2 U mn)) ?_
 refine RK J<|cH U (aV fun F=>?_) (aW fun F=>?_)
 ·exfalso; omega
 refine WK AB<|WS fun _ K=>rP 2 [] (mc 3 U mn) ?_
 have Z:=mm D p.bB.toNat (q.bB-p.bB).toNat
 refine e7 3 [0,1] (mc 2 U (mc 1 U mn)) U<|rS (CL (zC ts tsA tsC p.bB q.bB asm asm I) (bq [4]) U)<|bI 3 U<|AL U ed fun W=>AL U ed fun X=>sr U c_ U<|fK U c_ U<|RK K<|WS fun _ L=>e7 20 [0,1,2,0,1,2] (mc 1 U (mc 3 U (mc 4 U mn))) U<|rS (SX (bf (xs:=[(0,.tmp 64),(1,.tmp 74)]) (cs:=(ag.cells (ag.mk ((((eE ts p.bB.toNat (q.bB-p.bB).toNat).Lo)+q.mP.Lo)-p.mP.Hi) ((((eE ts p.bB.toNat (q.bB-p.bB).toNat).Hi)+q.mP.Hi)-p.mP.Lo)))) U U (bg gZ U)) U U)<|G3 U c_ U<|rP 1 [] mn ?_
 refine RK L<|ar<|mQ hQ [0] (mc 2 U mn) U ?_
 (have e:=lK A AA; rw [e.1,e.2,qU F]<;>rfl)
theorem JN (ts:List au) (tsA:OA) (tsC:Nat) (p:cE) (q:cE) (hlen:ts.length≤1000000) (hside: ∀ x∈ts,0≤x.jm∧x.jm≤255):
 dH Tryz.prog 154 [(vA (bG.cells (bG.mk (aR.mk tsA ts.length tsC)))),(vA (cE.cells p)),(vA (cE.cells q))] [(rd tsA ts.length 9 (ts.map au.cells))] (vT [(vA (ag.cells (k6 ts p q))),(vI (l6 ts p q))]):=by
 refine bH kr Tryz.func154 U U fun u Q hQ hN=>?_
 try dsimp only
 refine WS fun _ S=>eK U fun n=>eK U fun o=>eK U fun r=>AL U ed fun s=>bI 1 U<|RK S<|ao fun _ T=>WS fun _ AA=>e7 1 [] (mc 3 U mn) U<|rS (CL (wq ts tsA tsC hlen) (bq [4]) U)<|rP 1 [] mn ?_
 refine RK AA<|cH U (fun A=>?_) (fun A=>?_)
 ·rw [Bool.not_eq_true'] at A
  refine WS fun _ V=>rS (SX (bf (xs:=[]) (cs:=(ag.cells (ag.mk 0 0))) U U (bg gZ U)) U U)<|fK U c_ U<|rP 1 [] mn ?_
  refine RK V<|ar<|mQ hQ [0] (mc 0 U mn) U ?_
  (have e:=vi (a:=p) (b:=q) (by simpa using A); rw [e.1,e.2]<;>rfl)
 rw [Bool.not_eq_false'] at A
 refine WK T<|ao fun _ W=>WS fun _ E=>?_
 have D:=kf A
 have P:=kZ A
 refine e7 2 [0,1] (mc 3 U (mc 2 U mn)) U<|rS (CL (rX ts tsA tsC p asm asm) (bq [4]) U)<|rP 2 [] mn ?_
 refine cg (t:=20) U (bu fun B=>?_) (br fun B=>?_)
 ·refine bI 5 U<|RK E<|aS U<|WS fun _ G=>rS (SX (bf (xs:=[]) (cs:=(ag.cells (ag.mk 0 0))) U U (bg gZ U)) U U)<|fK U c_ U<|rP 1 [] mn ?_
  refine RK G<|ar<|mQ hQ [0] (mc 0 U mn) U ?_
  (have e:=o0 (a:=p) (b:=q) A (fun h=>by first|exact B h.1|exact C h.2); rw [e.1,e.2]<;>rfl)
 refine e7 2 [0,1] (mc 3 U (mc 1 U mn)) U<|rS (CL (rX ts tsA tsC q asm asm) (bq [4]) U)<|rP 2 [] mn ?_
 refine RK E<|cH U (bu fun C=>?_) (br fun C=>?_)
 ·refine WS fun _ H=>rS (SX (bf (xs:=[]) (cs:=(ag.cells (ag.mk 0 0))) U U (bg gZ U)) U U)<|fK U c_ U<|rP 1 [] mn ?_
  refine RK H<|ar<|mQ hQ [0] (mc 0 U mn) U ?_
  (have e:=o0 (a:=p) (b:=q) A (fun h=>by first|exact B h.1|exact C h.2); rw [e.1,e.2]<;>rfl)
 refine WK W<|ao fun _ AB=>WS fun _ J=>?_
 have R:fG ts p∧fG ts q:=⟨B,C⟩
 have X:=qX D B
 have Y:=qX D C
 have l:=B.1
 have m:=C.1
 have j:=x9 D P C B
 unfold lR at X Y
 refine rP 5 [0,1] (mc 1 U (mc 2 U mn)) ?_
 refine RK J<|cH U (aV fun F=>?_) (aW fun F=>?_)
 ·refine WS fun _ K=>e7 3 [0,1,2] (mc 3 U (mc 1 U (mc 2 U mn))) U<|rS (CL (Gb ts tsA tsC q p hlen hside I) (bq [4]) U)<|bI 3 U<|AL U ed fun d=>fK U c_ U<|bI 1 U<|RK K<|WS fun _ L=>rP 2 [] (mc 0 U mn) ?_
  have O:k6 ts q p=j6 ts q p:=(lK A ⟨C,B⟩).2
  have Z: -400000≤(k6 ts q p).Lo∧(k6 ts q p).Hi≤400000:=by rw [O]; omega
  have c:(k6 ts q p).Lo≤(k6 ts q p).Hi:=by rw [O]; omega
  refine rS (NG U ⟨I,I⟩)<|e7 2 [] (mc 0 U mn) U<|rS (NG U ⟨I,I⟩)<|rS (SX (bf (xs:=[(0,.tmp 41),(1,.tmp 44)]) (cs:=(ag.cells (ag.mk (-((k6 ts q p).Hi)) (-((k6 ts q p).Lo))))) U U (bg gZ U)) U U)<|sr U c_ U<|rP 1 [] mn ?_
  refine RK L<|ar<|mQ hQ [0] (mc 1 U mn) U ?_
  (have e:=lK A R; have i:=lK A ⟨C,B⟩; rw [e.1,e.2,i.2,Du F]<;>rfl)
 refine WK AB<|WS fun _ M=>rP 2 [] (mc 3 U mn) ?_
 have k:=mm D p.bB.toNat (q.bB-p.bB).toNat
 refine e7 3 [0,1] (mc 2 U (mc 1 U mn)) U<|rS (CL (zC ts tsA tsC p.bB q.bB asm asm I) (bq [4]) U)<|bI 3 U<|AL U ed fun f=>AL U ed fun g=>sr U c_ U<|fK U c_ U<|RK M<|WS fun _ N=>e7 20 [0,1,2,0,1,2] (mc 1 U (mc 3 U (mc 4 U mn))) U<|rS (SX (bf (xs:=[(0,.tmp 64),(1,.tmp 74)]) (cs:=(ag.cells (ag.mk ((((eE ts p.bB.toNat (q.bB-p.bB).toNat).Lo)+q.mP.Lo)-p.mP.Hi) ((((eE ts p.bB.toNat (q.bB-p.bB).toNat).Hi)+q.mP.Hi)-p.mP.Lo)))) U U (bg gZ U)) U U)<|G3 U c_ U<|rP 1 [] mn ?_
 refine RK N<|ar<|mQ hQ [0] (mc 2 U mn) U ?_
 (have e:=lK A R; rw [e.1,e.2,qU F]<;>rfl)
end
section
open Go.RowKit
theorem H5 (l:bj) (kA:OA) (kC:Nat) (az:List RA) (cA:OA) (cC:Nat) (bA:OA) (bC:Nat) (hraw:tD l az):
 dH Tryz.prog 75 [(vA (bT.cells (ki l kA kC cA cC bA bC)))] [(rd kA l.aL.length 9 (l.aL.map au.cells)),(rd cA l.ak.length 2 (List.zipWith ax.cells l.ak az)),(d_ (bw ax.gL l.ak az)),(rd bA l.aa.length 4 (l.aa.map bM.cells))] (vB (decide (mT l))):=by
 have e:=hraw.te
 have d:=hraw.s_
 have a:=hraw.oY
 have b:=hraw.s7
 refine bH kr Tryz.func75 U U fun g Q hQ hN=>?_
 try dsimp only
 refine WS fun _ O=>eK U fun f=>bI 1 U<|RK O<|ao fun _ P=>WS fun _ D=>bI 1 U<|rS (LP (bG.cells (bG.mk (aR.mk kA l.aL.length kC))) 0 U cq U U U)<|rS (CL (KH l.aL kA kC) (bq [1]) U)<|rP 1 [] mn ?_
 refine cg (t:=7) U (aV fun Z=>?_) (aW fun Z=>?_)
 ·refine bI 11 U<|RK D<|aS U<|WS fun _ R=>rP 1 [] mn ?_
  refine RK R<|ar<|Q1 hQ U U U ?_
  exact cB (c8 (.inl I)).symm
 refine rP 6 [] (mc 0 U mn) ?_
 refine cg (t:=13) U (aV fun C=>?_) (aW fun C=>?_)
 ·refine bI 5 U<|RK D<|aS U<|WS fun _ S=>rP 1 [] mn ?_
  refine RK S<|ar<|Q1 hQ U U U ?_
  exact cB (c8 (.inl I)).symm
 refine rP 5 [] (mc 0 U mn) ?_
 refine RK D<|cH U (aV fun N=>?_) (aW fun N=>?_)
 ·refine WS fun _ T=>rP 1 [] mn ?_
  refine RK T<|ar<|Q1 hQ U U U ?_
  exact cB (c8 (.inl I)).symm
 refine WK P<|ao fun _ AA=>WS fun _ V=>rP 1 [] mn ?_
 refine RK V<|aF ?_
 have A:(0≤l.ak.length)∧(zQ l 0):=by exact ⟨Nat.zero_le _,fun j c hj=>absurd hj (Nat.not_lt_zero _)⟩
 refine bZ (ι:={z:Nat // (z≤l.ak.length)∧(zQ l z)}) [1] [0,1,2,3,4] U U (fun z=>[(3,(vI (z.1:Int)))]) (fun z=>[]) (fun _=>rfl) (fun _=>rfl) (fun z=>l.ak.length-z.1) ⟨0,A⟩ (bE U) (aU [0,1,2,3,4]) ?_
 clear A
 rintro ⟨i,⟨W,B⟩⟩ J10 F
 try dsimp only
 refine ao fun _ G=>WS fun _ H=>rP 5 [] (mc 0 U mn) ?_
 refine RK H<|bV U (aW fun C=>?_) (aV fun C=>?_)
 ·refine bQ<|ai<|ai<|aI<|KK AA<|WS fun _ L=>rP 1 [] mn ?_
  refine RK L<|ar<|Q1 hQ U U U ?_
  exact cB (bx (Io I I B)).symm
 refine WK G<|ao fun _ AB=>aF<|WS fun _ J=>rP 3 [] (mc 0 U mn) ?_
 obtain ⟨x,hx⟩:=aM l.ak i I
 obtain ⟨xa,X⟩:=aM az i I
 have Y:(List.zipWith ax.cells l.ak az)[i]? =some (ax.cells x xa):=er hx X
 refine rS (IA i U (aA 2 U) Ga dc I I)<|rS (qA ((i*2)+1) U (aA 2 U) (Nat.mul_pos I dc) fT U)<|rS (iK i 1 (vS xa.1 x.bJ.length xa.2) U cq (aA 2 U) Y U dc U)<|rP 2 [] mn ?_
 refine RK J<|cH U (aV fun E=>?_) (aW fun E=>?_)
 ·refine WS fun _ K=>rP 1 [] mn ?_
  refine RK K<|ar<|Q1 hQ U U U ?_
  exact cB (c8 (HR hx E)).symm
 refine ct<|aN<|KK AB<|av<|rP 3 [] mn ?_
 refine aH ?_
 have M:(vI (((i+1):Nat):Int))=(vI ((i:Int)+1)):=by exact cI I
 refine bp (F ⟨(i+1),⟨I,l0 B hx I⟩⟩ _ _ _ U os (dG.cons U<|bk U M<|dG.nil _) (aU [0,1,2,3,4]))
theorem xK (d m:Int) (hd:0≤d∧d≤1000) (hm:0≤m∧m≤90000000):
 dH Tryz.prog 152 [(vI d),(vI m)] [] (vI (oZ (d*m) 1000000)):=by
 have J:=Ny (a:=d) (b:=m) (A:=1000) (B:=90000000) hd.1 hd.2 hm.1 hm.2
 refine bH kr Tryz.func152 U U fun K Q hQ hN=>?_
 try dsimp only
 refine WS fun _ C=>bI 1 U<|RK C<|WS fun _ D=>bI 2 U<|rS (BI U (qs ⟨I,I⟩))<|bI 1 U<|RK D<|ao fun _ E=>WS fun _ F=>bI 1 U<|rS (BI U (PL I I))<|rP 1 [] mn ?_
 refine RK F<|cH U (aV fun AA=>?_) (aW fun AA=>?_)
 ·refine WS fun _ G=>bI 1 U<|rS (BI U (uk I I I))<|rP 2 [] mn ?_
  refine RK G<|ar<|Q1 hQ U U U ?_
  exact cI (by unfold oZ; omega)
 refine WK E<|WS fun _ H=>bI 1 U<|rS (BI U (uk I I I))<|rP 1 [] mn ?_
 refine RK H<|ar<|Q1 hQ U U U ?_
 exact cI (by unfold oZ; omega)
theorem Jd (c:ax) (sA:OA) (sC:Nat) (hlen:c.bJ.length≤1000000):
 dH Tryz.prog 138 [(vA (dE.cells (dE.mk c.dC (aR.mk sA c.bJ.length sC))))] [(rd sA c.bJ.length 3 (c.bJ.map cW.cells))] (vB (decide (eX c))):=by
 refine bH kr Tryz.func138 U U fun w0 Q hQ hN=>?_
 try dsimp only
 refine WS fun _ EP=>eK U fun b2=>bI 1 U<|RK EP<|ao fun _ EQ=>WS fun _ A7=>e7 2 [] (mc 0 U mn) U<|rS (CL (je c.dC 0 1000) (aK) U)<|rP 2 [] mn ?_
 refine cg (t:=14) U (bu fun Cp=>?_) (br fun Cp=>?_)
 ·refine bI 6 U<|RK A7<|aS U<|WS fun _ Eq=>rP 1 [] mn ?_
  refine RK Eq<|ar<|Q1 hQ U U U ?_
  exact cB (bx fun h=>by have q1:=h.sx; have q2:=h.len; omega).symm
 refine e7 3 [] (mc 0 U mn) U<|rS (CL (je (c.bJ.length:Int) 1 5) (aK) U)<|rP 2 [] mn ?_
 refine RK A7<|cH U (bu fun Cx=>?_) (br fun Cx=>?_)
 ·refine WS fun _ FS=>rP 1 [] mn ?_
  refine RK FS<|ar<|Q1 hQ U U U ?_
  exact cB (bx fun h=>by have q1:=h.sx; have q2:=h.len; omega).symm
 refine WK EQ<|ao fun _ Fd=>WS fun _ Fn=>rP 1 [] mn ?_
 refine RK Fn<|aF ?_
 have A:(0≤c.bJ.length)∧(∀ (j:Nat) y,j<0→c.bJ[j]? =some y→fE c j y):=by exact ⟨Nat.zero_le _,fun j y hj=>absurd hj (Nat.not_lt_zero _)⟩
 refine bZ (ι:={z:Nat // (z≤c.bJ.length)∧(∀ (j:Nat) y,j<z→c.bJ[j]? =some y→fE c j y)}) [1] [0,1] U U (fun z=>[(3,(vI (z.1:Int)))]) (fun z=>[]) (fun _=>rfl) (fun _=>rfl) (fun z=>c.bJ.length-z.1) ⟨0,A⟩ (bE U) (aU [0,1]) ?_
 clear A
 rintro ⟨i,⟨a,C⟩⟩ J9 f
 try dsimp only
 have H1:=J_ a C
 refine ao fun _ g=>WS fun _ l=>rP 5 [] (mc 0 U mn) ?_
 refine RK l<|cH U (aV fun C0=>?_) (aW fun C0=>?_)
 ·refine WK g<|ao fun _ AA=>aF<|WS fun _ n=>rP 3 [] (mc 0 U mn) ?_
  obtain ⟨x,hx⟩:=aM c.bJ i I
  have b:=bP cW.cells hx
  refine rS (IA i U (aA 1 U) yq dc I I)<|rS (lQ i 0 (cW.cells x) U cq (aA 1 U) b U dc U U)<|AL U yk fun Go=>fK U zL U<|RK n<|ao fun _ B=>dw cx 41 kr<|lU 2 [] (mc 0 U mn) U<|dS (CL (je x.At 0 86400000) (aK) U)<|dP 2 [] mn ?_
  refine ia (t:=37) U (bu fun C1=>?_) (br fun C1=>?_)
  ·refine k7 36 U<|cK<|RK B<|aS U<|WS fun _ p=>rP 1 [] mn ?_
   refine RK p<|ar<|Q1 hQ U U U ?_
   exact cB (bx fun h=>by have q:=h.sync i x hx; unfold fE at q; (rw [gT I] at q; omega)).symm
  refine dP 3 [] mn ?_
  refine jM (t:=40) U (aW fun C2=>?_) (aV fun C2=>?_)
  ·refine dP 19 [] (mc 0 U mn) ?_
   refine ia (t:=59) U (aV fun X=>?_) (aW fun X=>?_)
   ·refine k7 14 U<|cK<|RK B<|aS U<|WS fun _ w=>rP 1 [] mn ?_
    refine RK w<|ar<|Q1 hQ U U U ?_
    exact cB (bx fun h=>by have q:=h.sync i x hx; unfold fE at q; (rw [gT I] at q; omega)).symm
   refine dP 9 [] (mc 0 U mn) ?_
   refine ia (t:=68) U (aV fun Y=>?_) (aW fun Y=>?_)
   ·refine k7 5 U<|cK<|RK B<|aS U<|WS fun _ AC=>rP 1 [] mn ?_
    refine RK AC<|ar<|Q1 hQ U U U ?_
    exact cB (bx fun h=>by have q:=h.sync i x hx; unfold fE at q; (rw [gT I] at q; omega)).symm
   refine dP 5 [] (mc 0 U mn) ?_
   refine cK<|RK B<|bV U (aW fun Z=>?_) (aV fun Z=>?_)
   ·refine ct<|aN<|KK AA<|av<|rP 3 [] mn ?_
    refine aH ?_
    have BF:(vI (((i+1):Nat):Int))=(vI ((i:Int)+1)):=by exact cI I
    refine bp (f ⟨(i+1),⟨I,l0 C hx (by unfold fE; (rw [gT I]; omega))⟩⟩ _ _ _ U os (dG.cons U<|bk U BF<|dG.nil _) (aU [1,2]))
   refine WS fun _ AO=>rP 1 [] mn ?_
   refine RK AO<|ar<|Q1 hQ U U U ?_
   exact cB (bx fun h=>by have q:=h.sync i x hx; unfold fE at q; (rw [gT I] at q; omega)).symm
  refine dP 6 [0,1] (mc 0 U (mc 1 U mn)) ?_
  obtain ⟨y,hy⟩:=aM c.bJ (i-1) I
  have d:=bP cW.cells hy
  refine dS (IA (i-1) U (aA 2 U) yq dc I I)<|dS (qA ((i-1)*3) U (aA 2 U) (Nat.mul_pos I dc) fT U)<|dS (iK (i-1) 0 (vI y.At) U cq (aA 2 U) d U dc U)<|dP 4 [] mn ?_
  refine ia (t:=53) U (aV fun C3=>?_) (aW fun C3=>?_)
  ·refine k7 20 U<|cK<|RK B<|aS U<|WS fun _ r=>rP 1 [] mn ?_
   refine RK r<|ar<|Q1 hQ U U U ?_
   exact cB (bx fun h=>by have q:=h.sync i x hx; unfold fE at q; (rw [xj I hy] at q; omega)).symm
  refine dP 6 [] (mc 0 U mn) ?_
  refine ia (t:=59) U (aV fun X=>?_) (aW fun X=>?_)
  ·refine k7 14 U<|cK<|RK B<|aS U<|WS fun _ s=>rP 1 [] mn ?_
   refine RK s<|ar<|Q1 hQ U U U ?_
   exact cB (bx fun h=>by have q:=h.sync i x hx; unfold fE at q; (rw [gT I] at q; omega)).symm
  refine dP 9 [] (mc 0 U mn) ?_
  refine ia (t:=68) U (aV fun Y=>?_) (aW fun Y=>?_)
  ·refine k7 5 U<|cK<|RK B<|aS U<|WS fun _ u=>rP 1 [] mn ?_
   refine RK u<|ar<|Q1 hQ U U U ?_
   exact cB (bx fun h=>by have q:=h.sync i x hx; unfold fE at q; (rw [gT I] at q; omega)).symm
  refine dP 5 [] (mc 0 U mn) ?_
  refine cK<|RK B<|bV U (aW fun Z=>?_) (aV fun Z=>?_)
  ·refine ct<|aN<|KK AA<|av<|rP 3 [] mn ?_
   refine aH ?_
   have A9:(vI (((i+1):Nat):Int))=(vI ((i:Int)+1)):=by exact cI I
   refine bp (f ⟨(i+1),⟨I,l0 C hx (by unfold fE; (rw [xj I hy]; omega))⟩⟩ _ _ _ U os (dG.cons U<|bk U A9<|dG.nil _) (aU [1,2]))
  refine WS fun _ v=>rP 1 [] mn ?_
  refine RK v<|ar<|Q1 hQ U U U ?_
  exact cB (bx fun h=>by have q:=h.sync i x hx; unfold fE at q; (rw [gT I] at q; omega)).symm
 refine bQ<|ai<|ai<|aI<|KK Fd<|ao fun _ Ak=>WS fun _ A0=>rP 1 [] mn ?_
 refine RK A0<|aF ?_
 have A:(0≤c.bJ.length)∧(uj c 0):=by exact ⟨Nat.zero_le _,fun j y hj=>absurd hj (Nat.not_lt_zero _)⟩
 refine bZ (ι:={z:Nat // (z≤c.bJ.length)∧(uj c z)}) [1] [0,1] U U (fun z=>[(5,(vI (z.1:Int)))]) (fun z=>[]) (fun _=>rfl) (fun _=>rfl) (fun z=>c.bJ.length-z.1) ⟨0,A⟩ (bE U) (aU [0,1]) ?_
 clear A
 rintro ⟨m,⟨B9,G⟩⟩ J28 e
 try dsimp only
 have F:=xZ (P:=fE c) I C
 refine ao fun _ A1=>WS fun _ A2=>rP 5 [] (mc 0 U mn) ?_
 refine RK A2<|bV U (aW fun Di=>?_) (aV fun Di=>?_)
 ·refine bQ<|ai<|ai<|aI<|KK Ak<|WS fun _ A8=>rP 1 [] mn ?_
  refine RK A8<|ar<|Q1 hQ U U U ?_
  exact cB (c8 (Kf I I (xZ I C) I G)).symm
 refine WK A1<|ao fun _ A3=>aF<|WS fun _ A4=>rP 1 [] mn ?_
 refine RK A4<|aF ?_
 have A:(0≤m)∧(∀ y,c.bJ[m]? =some y→E7 c y 0):=by exact ⟨Nat.zero_le _,fun y _ j o hj=>absurd hj (Nat.not_lt_zero _)⟩
 refine bZ (ι:={z:Nat // (z≤m)∧(∀ y,c.bJ[m]? =some y→E7 c y z)}) [1,5] [0,1] U U (fun z=>[(6,(vI (z.1:Int)))]) (fun z=>[]) (fun _=>rfl) (fun _=>rfl) (fun z=>m-z.1) ⟨0,A⟩ (bE U) (aU [0,1]) ?_
 clear A
 rintro ⟨k,⟨CM,D⟩⟩ J33 T
 try dsimp only
 refine ao fun _ A5=>WS fun _ A6=>rP 3 [] mn ?_
 refine RK A6<|bV U (aW fun Do=>?_) (aV fun Do=>?_)
 ·refine bQ<|ai<|ai<|aI<|aN<|KK A3<|av<|rP 3 [] mn ?_
  refine aH ?_
  have B3:(vI (((m+1):Nat):Int))=(vI ((m:Int)+1)):=by exact cI I
  refine bp (e ⟨(m+1),⟨I,DV G D I⟩⟩ _ _ _ U os (dG.cons U<|bk U B3<|dG.nil _) (aU [0,1]))
 refine WK A5<|ao fun _ V=>aF<|ao fun _ W=>mx cx [0,1,2,3,4,5,6,7,8,9] [10,11,12,13] [false,false,false,false,false,false,false,false,false,false] [] [(cw b2 73 (dE.cells (dE.mk c.dC (aR.mk sA c.bJ.length sC)))),(rd sA c.bJ.length 3 (c.bJ.map cW.cells)).ro] [] kr (aU [0,1]) (aU [])<|eS U (FA 1 U fT U)<|eS U (L1 (vS sA c.bJ.length sC) 0 U cq U U)<|eS U (MV U) ?_
 obtain ⟨x,hx⟩:=aM c.bJ k I
 have b:=bP cW.cells hx
 refine eS U (IA k U (aA 1 U) yq dc I I)<|eS U (lQ k 0 (cW.cells x) U cq (aA 1 U) b U dc U U)<|eS U (FA 1 U fT U)<|eS U (L1 (vS sA c.bJ.length sC) 0 U cq U U)<|eS U (MV U) ?_
 obtain ⟨y,hy⟩:=aM c.bJ m I
 have d:=bP cW.cells hy
 refine eS U (IA m U (aA 1 U) yq dc I I)<|eS U (lQ m 0 (cW.cells y) U cq (aA 1 U) d U dc U U)<|eJ U<|mS [10,11] kr (iO ?_<|iO ?_<|qm)
 rotate_left 1
 ·refine NO U U [10,12,13] fun T38 M=>AL U yk fun Ci=>RD M 1 U<|N1 10<|NO U U [12,13] fun T40 N=>AL U yk fun Ck=>RD N 2 U<|N1 12<|NO U U [13] fun T42 O=>fK U zL U<|RD O 2 U<|N1 13<|NO U U [] fun T43 R=>sr U zL U<|RD R 2 U<|lS<|KK W<|WS fun _ J=>rP 6 [0,1,2] (mc 2 U (mc 1 U (mc 0 U mn))) ?_
  obtain ⟨F9,GE,GT⟩:=uN (fun j z _ hz=>F j z hz) hy (F _ _ hy) (show k<m by omega) hx
  refine bI 1 U<|rS (CL (xK c.dC (y.At-x.At) I I) (aK) U)<|bI 1 U<|RK J<|WS fun _ E=>rP 10 [0,1] (mc 0 U (mc 1 U mn)) ?_
  refine cg (t:=113) U (aV fun H=>?_) (aW fun H=>?_)
  ·refine bI 10 U<|RK E<|aS U<|WS fun _ K=>rP 1 [] mn ?_
   refine RK K<|ar<|Q1 hQ U U U ?_
   exact cB (bx fun h=>by have q:=h.pair m k y x hy I hx; unfold nE at q; omega).symm
  refine rP 10 [0,1] (mc 1 U (mc 0 U mn)) ?_
  refine RK E<|bV U (aW fun AB=>?_) (aV fun AB=>?_)
  ·refine ct<|aN<|KK V<|av<|rP 3 [] mn ?_
   refine aH ?_
   have S:(vI (((k+1):Nat):Int))=(vI ((k:Int)+1)):=by exact cI I
   refine bp (T ⟨(k+1),⟨I,fun z hz=>by rw [hy] at hz; cases hz; exact l0 (D _ hy) hx (by unfold nE; omega)⟩⟩ _ _ _ rfl os (dG.cons rfl<|dG.cons rfl<|bk rfl S<|dG.nil _) (aU [2,3]))
  refine WS fun _ L=>rP 1 [] mn ?_
  refine RK L<|ar<|Q1 hQ U U U ?_
  exact cB (bx fun h=>by have q:=h.pair m k y x hy I hx; unfold nE at q; omega).symm
 refine NO U U [11,12,13] fun T38 M=>AL U yk fun Ci=>RD M 1 U<|N1 11<|NO U U [12,13] fun T40 N=>AL U yk fun Ck=>RD N 2 U<|N1 12<|NO U U [13] fun T42 O=>sr U zL U<|RD O 2 U<|N1 13<|NO U U [] fun T43 R=>fK U zL U<|RD R 2 U<|lS<|KK W<|WS fun _ J=>rP 6 [0,1,2] (mc 2 U (mc 0 U (mc 1 U mn))) ?_
 obtain ⟨F9,GE,GT⟩:=uN (fun j z _ hz=>F j z hz) hy (F _ _ hy) (show k<m by omega) hx
 refine bI 1 U<|rS (CL (xK c.dC (y.At-x.At) I I) (aK) U)<|bI 1 U<|RK J<|WS fun _ E=>rP 10 [0,1] (mc 1 U (mc 0 U mn)) ?_
 refine cg (t:=113) U (aV fun H=>?_) (aW fun H=>?_)
 ·refine bI 10 U<|RK E<|aS U<|WS fun _ K=>rP 1 [] mn ?_
  refine RK K<|ar<|Q1 hQ U U U ?_
  exact cB (bx fun h=>by have q:=h.pair m k y x hy I hx; unfold nE at q; omega).symm
 refine rP 10 [0,1] (mc 0 U (mc 1 U mn)) ?_
 refine RK E<|bV U (aW fun AB=>?_) (aV fun AB=>?_)
 ·refine ct<|aN<|KK V<|av<|rP 3 [] mn ?_
  refine aH ?_
  have S:(vI (((k+1):Nat):Int))=(vI ((k:Int)+1)):=by exact cI I
  refine bp (T ⟨(k+1),⟨I,fun z hz=>by rw [hy] at hz; cases hz; exact l0 (D _ hy) hx (by unfold nE; omega)⟩⟩ _ _ _ rfl os (dG.cons rfl<|dG.cons rfl<|bk rfl S<|dG.nil _) (aU [2,3]))
 refine WS fun _ L=>rP 1 [] mn ?_
 refine RK L<|ar<|Q1 hQ U U U ?_
 exact cB (bx fun h=>by have q:=h.pair m k y x hy I hx; unfold nE at q; omega).symm
theorem BL (c:ax) (sA:OA) (sC:Nat) (at_:Int) (hc:eX c) (ha:0≤at_∧at_≤90000000):
 dH Tryz.prog 185 [(vA (dE.cells (dE.mk c.dC (aR.mk sA c.bJ.length sC)))),(vI at_)] [(rd sA c.bJ.length 3 (c.bJ.map cW.cells))] (vA (ag.cells (iQ c at_))):=by
 have e:=hc.len
 have W:=hc.sx
 refine bH kr Tryz.func185 U U fun j Q hQ hN=>?_
 try dsimp only
 refine WS fun _ R=>eK U fun g=>AL U ed fun h=>RK R<|WS fun _ S=>AL U ed fun d=>RK S<|ao fun _ T=>WS fun _ AA=>rP 1 [] mn ?_
 refine RK AA<|aF ?_
 have A:(0≤c.bJ.length):=by exact Nat.zero_le _
 refine bZ (ι:={z:Nat // (z≤c.bJ.length)}) [1,2,4,5] [1,2,3] U U (fun z=>[(6,(vI (z.1:Int)))]) (fun z=>[(cw d 53 (ag.cells (kX c at_ z.1)))]) (fun _=>rfl) (fun _=>rfl) (fun z=>c.bJ.length-z.1) ⟨0,A⟩ (bE U) (aU [1,2,3,0]) ?_
 clear A
 rintro ⟨i,X⟩ J8 D
 try dsimp only
 refine ao fun _ V=>WS fun _ E=>rP 5 [] (mc 1 U mn) ?_
 refine RK E<|bV U (aW fun O=>?_) (aV fun O=>?_)
 ·refine bQ<|ai<|ai<|aI<|KK T<|WS fun _ J=>rP 1 [] (mc 3 U mn) ?_
  refine fK U c_ U<|RK J<|ar<|Cs hQ [0] (mc 0 U mn) U ?_
  rw [CO hc (show c.bJ.length≤i by omega)]
 refine WK V<|ao fun _ B=>aF<|WS fun _ F=>rP 3 [] (mc 1 U mn) ?_
 obtain ⟨x,hx⟩:=aM c.bJ i I
 have Z:=bP cW.cells hx
 refine rS (IA i U (aA 2 U) yq dc I I)<|rS (lQ i 0 (cW.cells x) U cq (aA 2 U) Z U dc U U)<|AL U yk fun a=>fK U zL U<|RK F<|WS fun _ G=>rP 2 [] (mc 2 U mn) ?_
 have Y:=hc.uT hx
 have f:0≤oZ (c.dC*max (at_-x.At) (x.At-at_)) 1000000∧oZ (c.dC*max (at_-x.At) (x.At-at_)) 1000000≤90001:=uZ W ha Y.1
 refine e7 8 [] (mc 0 U mn) U<|rS (MX U)<|rS (CL (xK c.dC (max (at_-x.At) (x.At-at_)) I I) (aK) U)<|bI 1 U<|RK G<|WS fun _ H=>e7 10 [] (mc 0 U mn) U<|rS (SX (bf (xs:=[(0,.tmp 38),(1,.tmp 43)]) (cs:=(ag.cells (ag.mk (x.eD.Lo-(oZ (c.dC*(max (at_-x.At) (x.At-at_))) 1000000)) (x.eD.Hi+(oZ (c.dC*(max (at_-x.At) (x.At-at_))) 1000000))))) U U (bg gZ U)) U U)<|AL U ed fun b=>fK U c_ U<|RK H<|ao fun _ C=>WS fun _ AB=>rP 2 [] mn ?_
 refine RK AB<|bV U (aW fun P=>?_) (aV fun P=>?_)
 ·refine WK C<|av<|e7 4 [0,1] (mc 5 U (mc 0 U mn)) U<|rS (MX U)<|rP 4 [0,1] (mc 5 U (mc 0 U mn)) ?_
  refine rS (MN U)<|rS (SX (bf (xs:=[(0,.tmp 52),(1,.tmp 57)]) (cs:=(ag.cells (ag.mk (max ((kX c at_ i).Lo) (x.eD.Lo-(oZ (c.dC*(max (at_-x.At) (x.At-at_))) 1000000))) (min ((kX c at_ i).Hi) (x.eD.Hi+(oZ (c.dC*(max (at_-x.At) (x.At-at_))) 1000000)))))) U U (bg gZ U)) U U)<|HQ U c_ U<|aH<|aN<|KK B ?_
  have M:(ag.cells (ag.mk (max ((kX c at_ i).Lo) (x.eD.Lo-(oZ (c.dC*(max (at_-x.At) (x.At-at_))) 1000000))) (min ((kX c at_ i).Hi) (x.eD.Hi+(oZ (c.dC*(max (at_-x.At) (x.At-at_))) 1000000)))))=(ag.cells (kX c at_ (i+1))):=by exact congrArg ag.cells (Bn hx I).symm
  rw [M]
  refine av<|rP 3 [] mn ?_
  refine aH ?_
  have N:(vI (((i+1):Nat):Int))=(vI ((i:Int)+1)):=by exact cI I
  refine bp (D ⟨(i+1),(by first|omega|(simp only []; omega))⟩ _ _ _ U os (cY 4<|bk U N<|dG.nil _) (aU [2,3,4,5]))
 refine av<|e7 1 [] (mc 0 U mn) U<|HQ U c_ U<|RK C<|av<|e7 4 [0,1] (mc 5 U (mc 0 U mn)) U<|rS (MX U)<|rP 4 [0,1] (mc 5 U (mc 0 U mn)) ?_
 refine rS (MN U)<|rS (SX (bf (xs:=[(0,.tmp 52),(1,.tmp 57)]) (cs:=(ag.cells (ag.mk (max (x.eD.Lo-(oZ (c.dC*(max (at_-x.At) (x.At-at_))) 1000000)) (x.eD.Lo-(oZ (c.dC*(max (at_-x.At) (x.At-at_))) 1000000))) (min (x.eD.Hi+(oZ (c.dC*(max (at_-x.At) (x.At-at_))) 1000000)) (x.eD.Hi+(oZ (c.dC*(max (at_-x.At) (x.At-at_))) 1000000)))))) U U (bg gZ U)) U U)<|HQ U c_ U<|aH<|aN<|KK B ?_
 have K:(ag.cells (ag.mk (max (x.eD.Lo-(oZ (c.dC*(max (at_-x.At) (x.At-at_))) 1000000)) (x.eD.Lo-(oZ (c.dC*(max (at_-x.At) (x.At-at_))) 1000000))) (min (x.eD.Hi+(oZ (c.dC*(max (at_-x.At) (x.At-at_))) 1000000)) (x.eD.Hi+(oZ (c.dC*(max (at_-x.At) (x.At-at_))) 1000000)))))=(ag.cells (kX c at_ (i+1))):=by exact congrArg ag.cells (zI hc ha hx I).symm
 rw [K]
 refine av<|rP 3 [] mn ?_
 refine aH ?_
 have L:(vI (((i+1):Nat):Int))=(vI ((i:Int)+1)):=by exact cI I
 refine bp (D ⟨(i+1),(by first|omega|(simp only []; omega))⟩ _ _ _ U os (cY 4<|bk U L<|dG.nil _) (aU [2,3,4,5]))
theorem I7 (l:bj) (kA:OA) (kC:Nat) (az:List RA) (cA:OA) (cC:Nat) (bA:OA) (bC:Nat) (n:Int) (hin:eH l az) (htr:du l.aL=true) (hbk: ∀ b∈l.aa,j_ l b) (hn:0≤n∧n<(l.aa.length:Int)):
 dH Tryz.prog 140 [(vA (bT.cells (ki l kA kC cA cC bA bC))),(vI n)] [(rd kA l.aL.length 9 (l.aL.map au.cells)),(rd cA l.ak.length 2 (List.zipWith ax.cells l.ak az)),(d_ (bw ax.gL l.ak az)),(rd bA l.aa.length 4 (l.aa.map bM.cells))] (vI (ly l n.toNat)):=by
 have AA:=hin.te
 have S:=hin.s_
 have P:=hin.oY
 have R:=hin.s7
 have T:=hin.side
 refine bH kr Tryz.func140 U U fun X Q hQ hN=>?_
 try dsimp only
 refine WS fun _ G=>eK U fun V=>bI 1 U<|RK G<|ao fun _ H=>WS fun _ AB=>rP 2 [] mn ?_
 refine RK AB<|cH U (aV fun F=>?_) (aW fun F=>?_)
 ·refine ao fun _ J=>dV cx [11,12] [] [] [0,1,2,3,4] [] U U U U U<|eS U (FA 0 U fT U)<|eS U (LP (bG.cells (bG.mk (aR.mk kA l.aL.length kC))) 0 U cq U U U)<|eS U (FA 3 U fT U)<|eS U (L1 (vS bA l.aa.length bC) 0 U cq U U) ?_
  obtain ⟨y,hy⟩:=aM l.aa 0 I
  have A:=bP bM.cells hy
  refine eS U (IA 0 U (aA 4 U) xQ dc U I)<|eS U (qA (0*4) U (aA 4 U) (Nat.mul_pos I dc) fT U)<|eS U (lQ 0 0 (cE.cells y.mR) U cq (aA 4 U) A U dc U U)<|eS U (CL (Qg l.aL kA kC y.mR asm asm) (bq [1]) U)<|eS U (MV U)<|eS U (EX U)<|eS U (EX U)<|eS U (AG U)<|eJ U<|cv U fun T6 L=>AL U ed fun W=>aH (L _ _ (aU [1,2,3,4,5]) ?_)
  refine cv U fun T8 M=>fK U c_ U<|aH (M _ _ (aU [1,2,3,4,5]) ?_)
  refine fY U<|KK J<|WS fun _ K=>rP 3 [] (mc 0 U mn) ?_
  refine RK K<|ar<|Q1 hQ U U U ?_
  (refine congrArg (Value.int .i64) ?_; rw [show n.toNat=0 by omega]; rw [zd hy,(x5 htr (hbk _ (List.mem_of_getElem? hy)).1).2])
 refine WK H<|ao fun _ B=>dV cx [19,20] [] [] [0,1,2,3,4] [] U U U U U<|eS U (FA 0 U fT U)<|eS U (LP (bG.cells (bG.mk (aR.mk kA l.aL.length kC))) 0 U cq U U U)<|eS U (FA 3 U fT U)<|eS U (L1 (vS bA l.aa.length bC) 0 U cq U U)<|eS U (MV U)<|eS U (BI U (xL ⟨I,I⟩)) ?_
 obtain ⟨y,hy⟩:=aM l.aa (((n-1)).toNat) I
 have A:=bP bM.cells hy
 refine eS U (IA (((n-1)).toNat) U (aA 4 U) xQ dc I I)<|eS U (qA ((((n-1)).toNat)*4) U (aA 4 U) (Nat.mul_pos I dc) fT U)<|eS U (lQ (((n-1)).toNat) 0 (cE.cells y.mR) U cq (aA 4 U) A U dc U U)<|eS U (FA 3 U fT U)<|eS U (L1 (vS bA l.aa.length bC) 0 U cq U U)<|eS U (MV U) ?_
 obtain ⟨x,hx⟩:=aM l.aa ((n).toNat) I
 have N:=bP bM.cells hx
 refine eS U (IA ((n).toNat) U (aA 4 U) xQ dc I I)<|eS U (qA (((n).toNat)*4) U (aA 4 U) (Nat.mul_pos I dc) fT U)<|eS U (lQ ((n).toNat) 0 (cE.cells x.mR) U cq (aA 4 U) N U dc U U)<|eS U (CL (JN l.aL kA kC y.mR x.mR asm asm) (bq [1]) U)<|eS U (MV U)<|eS U (EX U)<|eS U (EX U)<|eS U (AG U)<|eJ U<|cv U fun T11 D=>AL U ed fun O=>aH (D _ _ (aU [1,2,3,4,5]) ?_)
 refine cv U fun T13 E=>fK U c_ U<|aH (E _ _ (aU [1,2,3,4,5]) ?_)
 refine fY U<|KK B<|WS fun _ C=>rP 3 [] (mc 0 U mn) ?_
 refine RK C<|ar<|Q1 hQ U U U ?_
 (refine congrArg (Value.int .i64) ?_; rw [AP I hx (by rw [show n.toNat-1=(n-1).toNat by omega]; exact hy),(lK htr ⟨(hbk _ (List.mem_of_getElem? hy)).1,(hbk _ (List.mem_of_getElem? hx)).1⟩).2])
theorem Ki (l:bj) (kA:OA) (kC:Nat) (az:List RA) (cA:OA) (cC:Nat) (bA:OA) (bC:Nat) (n:Int) (hin:eH l az) (htr:du l.aL=true) (hok:lL l) (hn:0≤n∧n<(l.aa.length:Int)):
 dH Tryz.prog 177 [(vA (bT.cells (ki l kA kC cA cC bA bC))),(vI n)] [(rd kA l.aL.length 9 (l.aL.map au.cells)),(rd cA l.ak.length 2 (List.zipWith ax.cells l.ak az)),(d_ (bw ax.gL l.ak az)),(rd bA l.aa.length 4 (l.aa.map bM.cells))] (vI (ej l n.toNat)):=by
 have G:=hin.te
 have F:=hin.s_
 have D:=hin.oY
 have E:=hin.s7
 have C:=hok.head
 unfold eV at C
 have H:=BY htr hok.ui n.toNat
 have AA:=hok.NW n.toNat I
 refine bH kr Tryz.func177 U U fun K Q hQ hN=>?_
 try dsimp only
 refine WS fun _ A=>eK U fun J=>bI 1 U<|RK A<|ao fun _ B=>dw cx 12 kr<|lU 2 [] (mc 0 U mn) U<|dS (CL (I7 l kA kC az cA cC bA bC n hin htr (by exact hok.ui) hn) (bq [1,2,3,4]) U)<|dS (BI U (qs ⟨I,I⟩))<|lU 6 [] (mc 0 U mn) U<|dS (BI U (uk I I I))<|dP 1 [] mn ?_
 refine cK<|RK B<|ar<|Q1 hQ U U U ?_
 exact cI (by unfold ej oZ; rw [Int.mul_comm])
theorem KQ (l:bj) (kA:OA) (kC:Nat) (az:List RA) (cA:OA) (cC:Nat) (bA:OA) (bC:Nat) (hin:eH l az) (htr:du l.aL=true):
 dH Tryz.prog 121 [(vA (bT.cells (ki l kA kC cA cC bA bC)))] [(rd kA l.aL.length 9 (l.aL.map au.cells)),(rd cA l.ak.length 2 (List.zipWith ax.cells l.ak az)),(d_ (bw ax.gL l.ak az)),(rd bA l.aa.length 4 (l.aa.map bM.cells))] (vB (decide (lL l))):=by
 have FS:=hin.te
 have Do:=hin.s_
 have C2:=hin.oY
 have Di:=hin.s7
 have EP:=hin.side
 have EQ:=kf htr
 have C1:=kZ htr
 refine bH kr Tryz.func121 U U fun w0 Q hQ hN=>?_
 try dsimp only
 refine WS fun _ A9=>eK U fun b2=>bI 1 U<|RK A9<|ao fun _ BF=>WS fun _ D=>e7 2 [] (mc 0 U mn) U<|rS (CL (je l.eI 1 5000) (aK) U)<|rP 2 [] mn ?_
 refine cg (t:=10) U (bu fun Ak=>?_) (br fun Ak=>?_)
 ·refine bI 35 U<|RK D<|aS U<|WS fun _ B3=>rP 1 [] mn ?_
  refine RK B3<|ar<|Q1 hQ U U U ?_
  exact cB (bx fun h=>by have q:=h.head; unfold eV at q; omega).symm
 refine e7 3 [] (mc 0 U mn) U<|rS (CL (je (l.ak.length:Int) 1 4) (aK) U)<|rP 3 [] mn ?_
 refine cg (t:=17) U (bu fun A0=>?_) (br fun A0=>?_)
 ·refine bI 28 U<|RK D<|aS U<|WS fun _ B9=>rP 1 [] mn ?_
  refine RK B9<|ar<|Q1 hQ U U U ?_
  exact cB (bx fun h=>by have q:=h.head; unfold eV at q; omega).symm
 refine e7 3 [] (mc 0 U mn) U<|rS (CL (je (l.aa.length:Int) 1 6) (aK) U)<|rP 3 [] mn ?_
 refine cg (t:=24) U (bu fun A1=>?_) (br fun A1=>?_)
 ·refine bI 21 U<|RK D<|aS U<|WS fun _ CM=>rP 1 [] mn ?_
  refine RK CM<|ar<|Q1 hQ U U U ?_
  exact cB (bx fun h=>by have q:=h.head; unfold eV at q; omega).symm
 refine e7 6 [] (mc 0 U mn) U<|rS (CL (je l.bK 0 ((l.aa.length:Int)-1)) (aK) U)<|rP 3 [] mn ?_
 refine cg (t:=34) U (bu fun A2=>?_) (br fun A2=>?_)
 ·refine bI 11 U<|RK D<|aS U<|WS fun _ Ci=>rP 1 [] mn ?_
  refine RK Ci<|ar<|Q1 hQ U U U ?_
  exact cB (bx fun h=>by have q:=h.head; unfold eV at q; omega).symm
 refine e7 2 [] (mc 0 U mn) U<|rS (CL (je l.dj 0 3) (aK) U)<|rP 3 [] mn ?_
 refine cg (t:=40) U (bu fun A3=>?_) (br fun A3=>?_)
 ·refine bI 5 U<|RK D<|aS U<|WS fun _ Ck=>rP 1 [] mn ?_
  refine RK Ck<|ar<|Q1 hQ U U U ?_
  exact cB (bx fun h=>by have q:=h.head; unfold eV at q; omega).symm
 refine e7 2 [] (mc 0 U mn) U<|rS (CL (je l.ck 0 3) (aK) U)<|rP 2 [] mn ?_
 refine RK D<|cH U (bu fun A4=>?_) (br fun A4=>?_)
 ·refine WS fun _ N=>rP 1 [] mn ?_
  refine RK N<|ar<|Q1 hQ U U U ?_
  exact cB (bx fun h=>by have q:=h.head; unfold eV at q; omega).symm
 refine WK BF<|ao fun _ O=>WS fun _ R=>rP 1 [] mn ?_
 refine RK R<|aF ?_
 have A:(0≤l.ak.length)∧(∀ (j:Nat) y,j<0→l.ak[j]? =some y→eX y):=by exact ⟨Nat.zero_le _,fun j y hj=>absurd hj (Nat.not_lt_zero _)⟩
 refine bZ (ι:={z:Nat // (z≤l.ak.length)∧(∀ (j:Nat) y,j<z→l.ak[j]? =some y→eX y)}) [1] [0,1,2,3,4] U U (fun z=>[(3,(vI (z.1:Int)))]) (fun z=>[]) (fun _=>rfl) (fun _=>rfl) (fun z=>l.ak.length-z.1) ⟨0,A⟩ (bE U) (aU [0,1,2,3,4]) ?_
 clear A
 rintro ⟨i,⟨Cp,F⟩⟩ J13 K
 try dsimp only
 refine ao fun _ S=>WS fun _ T=>rP 5 [] (mc 0 U mn) ?_
 refine RK T<|cH U (aV fun A5=>?_) (aW fun A5=>?_)
 ·refine WK S<|ao fun _ AA=>aF<|WS fun _ V=>rP 3 [] (mc 0 U mn) ?_
  obtain ⟨x,hx⟩:=aM l.ak i I
  obtain ⟨xa,J⟩:=aM az i I
  have C0:(List.zipWith ax.cells l.ak az)[i]? =some (ax.cells x xa):=er hx J
  refine rS (IA i U (aA 2 U) Ga dc I I)<|rS (lQ i 0 (dE.cells (dE.mk x.dC (aR.mk xa.1 x.bJ.length xa.2))) U cq (aA 2 U) C0 U dc U U) ?_
  have Eq:=(hin.Se _ _ _ hx J).2
  refine rS (CL (Jd x xa.1 xa.2 asm) (aJ (show js _ (rd xa.1 x.bJ.length 3 (x.bJ.map cW.cells)).holds from (df 3 U (bW hx J (by simp [ax.gL]))))<|aK) U)<|rP 1 [] mn ?_
  refine RK V<|bV U (br fun AB=>?_) (bu fun AB=>?_)
  ·refine ct<|aN<|KK AA<|av<|rP 3 [] mn ?_
   refine aH ?_
   have u:(vI (((i+1):Nat):Int))=(vI ((i:Int)+1)):=by exact cI I
   refine bp (K ⟨(i+1),⟨I,l0 (P:=fun _ y=>eX y) F hx AB⟩⟩ _ _ _ U os (dG.cons U<|bk U u<|dG.nil _) (aU [0,1,2,3,4]))
  refine WS fun _ W=>rP 1 [] mn ?_
  refine RK W<|ar<|Q1 hQ U U U ?_
  exact cB (bx fun h=>AB (h.clock _ (aP hx))).symm
 refine bQ<|ai<|ai<|aI<|KK O<|ao fun _ X=>WS fun _ Y=>rP 1 [] mn ?_
 refine RK Y<|aF ?_
 have A:(0≤l.aa.length)∧(∀ (j:Nat) y,j<0→l.aa[j]? =some y→j_ l y):=by exact ⟨Nat.zero_le _,fun j y hj=>absurd hj (Nat.not_lt_zero _)⟩
 refine bZ (ι:={z:Nat // (z≤l.aa.length)∧(∀ (j:Nat) y,j<z→l.aa[j]? =some y→j_ l y)}) [1] [0,1,2,3,4] U U (fun z=>[(4,(vI (z.1:Int)))]) (fun z=>[]) (fun _=>rfl) (fun _=>rfl) (fun z=>l.aa.length-z.1) ⟨0,A⟩ (bE U) (aU [0,1,2,3,4]) ?_
 clear A
 rintro ⟨m,⟨Cx,B⟩⟩ J22 L
 try dsimp only
 refine ao fun _ Z=>WS fun _ a=>rP 5 [] (mc 0 U mn) ?_
 refine RK a<|bV U (aW fun A6=>?_) (aV fun A6=>?_)
 ·refine bQ<|ai<|ai<|aI<|KK X<|ao fun _ e=>WS fun _ f=>rP 1 [] mn ?_
  refine RK f<|aF ?_
  have A:(0≤l.aa.length)∧(∀ j,j<0→1≤ly l j):=by exact ⟨Nat.zero_le _,fun j hj=>absurd hj (Nat.not_lt_zero _)⟩
  refine bZ (ι:={z:Nat // (z≤l.aa.length)∧(∀ j,j<z→1≤ly l j)}) [1] [0,1,2,3,4] U U (fun z=>[(5,(vI (z.1:Int)))]) (fun z=>[]) (fun _=>rfl) (fun _=>rfl) (fun z=>l.aa.length-z.1) ⟨0,A⟩ (bE U) (aU [0,1,2,3,4]) ?_
  clear A
  rintro ⟨n,⟨AO,C⟩⟩ J32 M
  try dsimp only
  have C3:=w8 (P:=j_ l) I B
  refine ao fun _ g=>WS fun _ k=>rP 5 [] (mc 0 U mn) ?_
  refine RK k<|bV U (aW fun A8=>?_) (aV fun A8=>?_)
  ·refine bQ<|ai<|ai<|aI<|KK e<|WS fun _ s=>rP 1 [] mn ?_
   refine RK s<|ar<|Q1 hQ U U U ?_
   exact cB (c8 (yx (by unfold eV; omega) (w8 I F) (w8 I B) (fun j hj=>C j I))).symm
  refine WK g<|ao fun _ o=>aF<|WS fun _ p=>e7 2 [] (mc 0 U mn) U<|rS (CL (I7 l kA kC az cA cC bA bC (n:Int) hin htr asm I) (bq [1,2,3,4]) U)<|rP 1 [] mn ?_
  refine RK p<|bV U (aW fun E=>?_) (aV fun E=>?_)
  ·refine ct<|aN<|KK o<|av<|rP 3 [] mn ?_
   refine aH ?_
   have w:(vI (((n+1):Nat):Int))=(vI ((n:Int)+1)):=by exact cI I
   refine bp (M ⟨(n+1),⟨I,fun j hj=>by rcases Nat.lt_or_ge j n with q|q; exact C j q; (obtain rfl:j=n:=by omega); simp only [Int.toNat_natCast] at E; omega⟩⟩ _ _ _ rfl os (dG.cons rfl<|bk rfl w<|dG.nil _) (aU [0,1,2,3,4]))
  refine WS fun _ r=>rP 1 [] mn ?_
  refine RK r<|ar<|Q1 hQ U U U ?_
  exact cB (bx fun h=>by have q:=h.NW n I; simp only [Int.toNat_natCast] at E; omega).symm
 refine WK Z<|ao fun _ b=>aF<|ao fun _ H=>dw cx 24 kr<|k7 1 U<|dS (LP (bG.cells (bG.mk (aR.mk kA l.aL.length kC))) 0 U cq U U U)<|dP 3 [] (mc 0 U mn) ?_
 obtain ⟨y,hy⟩:=aM l.aa m I
 have AC:=bP bM.cells hy
 refine dS (IA m U (aA 4 U) xQ dc I I)<|dS (qA (m*4) U (aA 4 U) (Nat.mul_pos I dc) fT U)<|dS (lQ m 0 (cE.cells y.mR) U cq (aA 4 U) AC U dc U U)<|dS (CL (rX l.aL kA kC y.mR asm asm) (bq [1]) U)<|dP 2 [] mn ?_
 refine ia (t:=77) U (bu fun G=>?_) (br fun G=>?_)
 ·refine k7 13 U<|cK<|RK H<|aS U<|WS fun _ c=>rP 1 [] mn ?_
  refine RK c<|ar<|Q1 hQ U U U ?_
  exact cB (bx fun h=>by have q:=h.ui _ (aP hy); have q2:=q.2; first|exact G q.1|omega).symm
 refine lU 3 [] (mc 0 U mn) U<|dS (IA m U (aA 4 U) xQ dc I I)<|dS (qA ((m*4)+3) U (aA 4 U) (Nat.mul_pos I dc) fT U)<|dS (iK m 3 (vI y.kb) U cq (aA 4 U) AC U dc U)<|lU 4 [] (mc 0 U mn) U<|dS (CL (je y.kb 0 ((l.ak.length:Int)-1)) (aK) U)<|dP 2 [] mn ?_
 refine cK<|RK H<|bV U (br fun A7=>?_) (bu fun A7=>?_)
 ·refine ct<|aN<|KK b<|av<|rP 3 [] mn ?_
  refine aH ?_
  have v:(vI (((m+1):Nat):Int))=(vI ((m:Int)+1)):=by exact cI I
  refine bp (L ⟨(m+1),⟨I,l0 (P:=fun _ y=>j_ l y) B hy ⟨G,I,I⟩⟩⟩ _ _ _ U os (dG.cons U<|bk U v<|dG.nil _) (aU [0,1,2,3,4]))
 refine WS fun _ d=>rP 1 [] mn ?_
 refine RK d<|ar<|Q1 hQ U U U ?_
 exact cB (bx fun h=>by have q:=h.ui _ (aP hy); have q2:=q.2; first|exact G q.1|omega).symm
end
section
open Go.RowKit
theorem By (r:fg) (kA:OA) (kC:Nat) (az:List RA) (cA:OA) (cC:Nat) (bA:OA) (bC:Nat) (slA:OA) (slC:Nat) (drA:OA) (drC:Nat) (ha:List dQ) (heA:OA) (heC:Nat) (hraw:tP r az ha):
 dH Tryz.prog 49 [(vA (di.cells (DP r kA kC cA cC bA bC slA slC drA drC heA heC)))] [(rd kA r.aj.aL.length 9 (r.aj.aL.map au.cells)),(rd cA r.aj.ak.length 2 (List.zipWith ax.cells r.aj.ak az)),(d_ (bw ax.gL r.aj.ak az)),(rd bA r.aj.aa.length 4 (r.aj.aa.map bM.cells)),(rd slA r.aT.length 1 (r.aT.map iC)),(rd drA r.bS.length 1 (r.bS.map iC)),(rd heA r.aB.length 1 (List.zipWith dz r.aB ha)),(d_ (bw fy r.aB ha))] (vB (decide (mU r))):=by
 have AC:=hraw.line
 have A1:=hraw.jd
 have A3:=hraw.has
 have A0:=hraw.ji
 have AO:=hraw.draw
 refine bH kr Tryz.func49 U U fun w0 Q hQ hN=>?_
 try dsimp only
 refine WS fun _ l=>eK U fun b2=>bI 1 U<|RK l<|ao fun _ m=>WS fun _ H=>bI 1 U<|rS (LP (bT.cells (ki r.aj kA kC cA cC bA bC)) 0 U cq U U U)<|rS (CL (H5 r.aj kA kC az cA cC bA bC asm) (bq [1,2,3,4]) U)<|rP 1 [] mn ?_
 refine cg (t:=8) U (aV fun k=>?_) (aW fun k=>?_)
 ·refine bI 17 U<|RK H<|aS U<|WS fun _ n=>rP 1 [] mn ?_
  refine RK n<|ar<|Q1 hQ U U U ?_
  exact cB (c8 (qc (.inl k))).symm
 refine rP 6 [] (mc 0 U mn) ?_
 refine cg (t:=14) U (aV fun AB=>?_) (aW fun AB=>?_)
 ·refine bI 11 U<|RK H<|aS U<|WS fun _ o=>rP 1 [] mn ?_
  refine RK o<|ar<|Q1 hQ U U U ?_
  exact cB (c8 (qc (.inr I))).symm
 refine rP 6 [] (mc 0 U mn) ?_
 refine cg (t:=20) U (aV fun f=>?_) (aW fun f=>?_)
 ·refine bI 5 U<|RK H<|aS U<|WS fun _ p=>rP 1 [] mn ?_
  refine RK p<|ar<|Q1 hQ U U U ?_
  exact cB (c8 (qc (.inr I))).symm
 refine rP 5 [] (mc 0 U mn) ?_
 refine RK H<|cH U (aV fun h=>?_) (aW fun h=>?_)
 ·refine WS fun _ q=>rP 1 [] mn ?_
  refine RK q<|ar<|Q1 hQ U U U ?_
  exact cB (c8 (qc (.inr I))).symm
 refine WK m<|ao fun _ s=>WS fun _ N=>rP 1 [] mn ?_
 refine RK N<|aF ?_
 have B:(0≤r.aB.length)∧(lV r 0):=by exact ⟨Nat.zero_le _,Aq⟩
 refine bZ (ι:={z:Nat // (z≤r.aB.length)∧(lV r z)}) [1] [0,1,2,3,4,5,6,7,8] U U (fun z=>[(3,(vI (z.1:Int)))]) (fun z=>[]) (fun _=>rfl) (fun _=>rfl) (fun z=>r.aB.length-z.1) ⟨0,B⟩ (bE U) (aU [0,1,2,3,4,5,6,7,8]) ?_
 clear B
 rintro ⟨i,⟨x,F⟩⟩ J11 L
 try dsimp only
 refine ao fun _ O=>WS fun _ P=>rP 5 [] (mc 0 U mn) ?_
 refine RK P<|bV U (aW fun AB=>?_) (aV fun AB=>?_)
 ·refine bQ<|ai<|ai<|aI<|KK s<|WS fun _ b=>rP 1 [] mn ?_
  refine RK b<|ar<|Q1 hQ U U U ?_
  exact cB (bx (GM k I F I)).symm
 refine WK O<|ao fun _ R=>aF<|ao fun _ S=>WS fun _ T=>rP 3 [] (mc 0 U mn) ?_
 obtain ⟨ht,D⟩:=aM r.aB i I
 obtain ⟨A,C⟩:=aM ha i I
 have E:(List.zipWith dz r.aB ha)[i]? =some (dz ht A):=er D C
 refine rS (IA i U (aA 7 U) sT dc I I)<|rS (iK i 0 (vS A.1.1 ht.length A.1.2) U cq (aA 7 U) E U dc U) ?_
 obtain ⟨A2,Ak,w⟩:=hraw.fZ _ _ _ D C
 refine rP 2 [] mn ?_
 refine RK T<|cH U (aV fun J=>?_) (aW fun J=>?_)
 ·refine WS fun _ AA=>rP 1 [] mn ?_
  refine RK AA<|ar<|Q1 hQ U U U ?_
  exact cB (c8 (BO D J)).symm
 refine WK S<|WS fun _ V=>rP 1 [] mn ?_
 refine RK V<|aF ?_
 have B:(0≤ht.length)∧(ni ht 0):=by exact ⟨Nat.zero_le _,BK⟩
 refine bZ (ι:={z:Nat // (z≤ht.length)∧(ni ht z)}) [1,3] [0,1,2,3,4,5,6,7,8] U U (fun z=>[(4,(vI (z.1:Int)))]) (fun z=>[]) (fun _=>rfl) (fun _=>rfl) (fun z=>ht.length-z.1) ⟨0,B⟩ (bE U) (aU [0,1,2,3,4,5,6,7,8]) ?_
 clear B
 rintro ⟨j,⟨y,G⟩⟩ J20 M
 try dsimp only
 refine ao fun _ W=>WS fun _ X=>e7 4 [] (mc 0 U mn) U<|rS (IA i U (aA 7 U) sT dc I I)<|rS (iK i 0 (vS A.1.1 ht.length A.1.2) U cq (aA 7 U) E U dc U)<|rP 2 [] mn ?_
 refine RK X<|bV U (aW fun g=>?_) (aV fun g=>?_)
 ·refine bQ<|ai<|ai<|aI<|aN<|KK R<|av<|rP 3 [] mn ?_
  refine aH ?_
  have e:(vI (((i+1):Nat):Int))=(vI ((i:Int)+1)):=by exact cI I
  refine bp (L ⟨(i+1),⟨I,Be F D (CK J G I)⟩⟩ _ _ _ U os (dG.cons U<|bk U e<|dG.nil _) (aU [0,1,2,3,4,5,6,7,8]))
 refine WK W<|ao fun _ Y=>aF<|WS fun _ Z=>e7 3 [] (mc 0 U mn) U<|rS (IA i U (aA 7 U) sT dc I I)<|rS (iK i 0 (vS A.1.1 ht.length A.1.2) U cq (aA 7 U) E U dc U)<|rP 1 [] mn ?_
 obtain ⟨d,hd⟩:=aM ht j I
 obtain ⟨da,u⟩:=aM A.2 j I
 have v:(List.zipWith ay.cells ht A.2)[j]? =some (ay.cells d da):=er hd u
 refine rS (IA j U (show js _ (rd A.1.1 ht.length 7 (List.zipWith ay.cells ht A.2)).holds from (df 8 U (bW D C cJ))) vn dc I I)<|rS (qA ((j*7)+4) U (show js _ (rd A.1.1 ht.length 7 (List.zipWith ay.cells ht A.2)).holds from (df 8 U (bW D C cJ))) (Nat.mul_pos I dc) fT U)<|rS (qA (((j*7)+4)+2) U (show js _ (rd A.1.1 ht.length 7 (List.zipWith ay.cells ht A.2)).holds from (df 8 U (bW D C cJ))) (Nat.mul_pos I dc) fT U)<|rS (iK j 6 (vS da.1 d.bD.ab.length da.2) U cq (show js _ (rd A.1.1 ht.length 7 (List.zipWith ay.cells ht A.2)).holds from (df 8 U (bW D C cJ))) v U dc U) ?_
 have A4:=w d (aP hd)
 refine rP 2 [] mn ?_
 refine RK Z<|bV U (aW fun K=>?_) (aV fun K=>?_)
 ·refine ct<|aN<|KK Y<|av<|rP 3 [] mn ?_
  refine aH ?_
  have c:(vI (((j+1):Nat):Int))=(vI ((j:Int)+1)):=by exact cI I
  refine bp (M ⟨(j+1),⟨I,Bv G hd K⟩⟩ _ _ _ U os (dG.cons U<|dG.cons U<|bk U c<|dG.nil _) (aU [0,1,2,3,4,5,6,7,8]))
 refine WS fun _ a=>rP 1 [] mn ?_
 refine RK a<|ar<|Q1 hQ U U U ?_
 exact cB (c8 (CQ D hd K)).symm
end
section
open Go.RowKit
theorem jl (n lo hi:Int):
 dH Tryz.prog 77 [(vI n),(vI lo),(vI hi)] [] (vB (decide (lo≤n∧n≤hi))):=by
 refine bH kr Tryz.func77 U U fun D Q hQ hN=>?_
 try dsimp only
 refine WS fun _ B=>bI 1 U<|RK B<|WS fun _ A=>rP 4 [] mn ?_
 refine cg (t:=10) U (aV fun C=>?_) (aW fun C=>?_)
 ·refine rP 5 [] mn ?_
  refine RK A<|ar<|Q1 hQ U U U ?_
  exact cB (fu.2 I)
 refine rP 5 [] mn ?_
 refine RK A<|ar<|Q1 hQ U U U ?_
 exact cB (bx I).symm
theorem ES (o fx:Bool) (tm:ag) (rv:cU):
 dH Tryz.prog 78 [(vA (aO.cells (aO.mk o fx tm rv)))] [] (vB (decide (o=false∧fx=false))):=by
 refine bH kr Tryz.func78 U U fun E Q hQ hN=>?_
 try dsimp only
 refine WS fun _ B=>eK U fun D=>bI 1 U<|RK B<|WS fun _ A=>rP 4 [] (mc 0 U mn) ?_
 refine cM (t:=6) U (fun C=>?_) (fun C=>?_)
 ·rw [Bool.not_eq_false'] at C
  refine rP 5 [] mn ?_
  refine RK A<|ar<|Q1 hQ U U U ?_
  clear hQ hN A B
  refine cB ?_
  first|(simp_all; done)|(cases fx<;>simp_all; done)
 rw [Bool.not_eq_true'] at C
 refine rP 5 [] (mc 0 U mn) ?_
 refine RK A<|ar<|Q1 hQ U U U ?_
 clear hQ hN A B
 refine cB ?_
 first|(simp_all; done)|(cases fx<;>simp_all; done)
theorem HS (j:cV) (kA:OA) (kC:Nat) (az:List RA) (cA:OA) (cC:Nat) (bA:OA) (bC:Nat) (slA:OA) (slC:Nat) (drA:OA) (drC:Nat) (ha:List dQ) (heA:OA) (heC:Nat) (faA:OA) (faC:Nat) (prA:OA) (prC:Nat) (hraw:rW j az ha):
 dH Tryz.prog 27 [(vA (dh.cells (dh.mk (di.mk (bT.mk (bG.mk (aR.mk kA j.Race.aj.aL.length kC)) j.Race.aj.eI (aR.mk cA j.Race.aj.ak.length cC) (aR.mk bA j.Race.aj.aa.length bC) j.Race.aj.bK j.Race.aj.dj j.Race.aj.ck) (aR.mk slA j.Race.aT.length slC) (aR.mk drA j.Race.bS.length drC) j.Race.f_ (aR.mk heA j.Race.aB.length heC)) (aR.mk faA j.aC.length faC) (aR.mk prA j.aq.length prC) j.cu j.j2)))] [(rd kA j.Race.aj.aL.length 9 (j.Race.aj.aL.map au.cells)),(rd cA j.Race.aj.ak.length 2 (List.zipWith ax.cells j.Race.aj.ak az)),(d_ (bw ax.gL j.Race.aj.ak az)),(rd bA j.Race.aj.aa.length 4 (j.Race.aj.aa.map bM.cells)),(rd slA j.Race.aT.length 1 (j.Race.aT.map iC)),(rd drA j.Race.bS.length 1 (j.Race.bS.map iC)),(rd heA j.Race.aB.length 1 (List.zipWith dz j.Race.aB ha)),(d_ (bw fy j.Race.aB ha)),(rd faA j.aC.length 4 (j.aC.map aX.cells)),(rd prA j.aq.length 5 (j.aq.map a_.cells))] (vB (decide (ld j))):=by
 have E:=hraw.race
 have F:=hraw.nf
 have G:=hraw.np
 refine bH kr Tryz.func27 U U fun AA Q hQ hN=>?_
 try dsimp only
 refine WS fun _ D=>eK U fun H=>bI 1 U<|RK D<|WS fun _ C=>rP 1 [] mn ?_
 refine rS (LP (di.cells (di.mk (bT.mk (bG.mk (aR.mk kA j.Race.aj.aL.length kC)) j.Race.aj.eI (aR.mk cA j.Race.aj.ak.length cC) (aR.mk bA j.Race.aj.aa.length bC) j.Race.aj.bK j.Race.aj.dj j.Race.aj.ck) (aR.mk slA j.Race.aT.length slC) (aR.mk drA j.Race.bS.length drC) j.Race.f_ (aR.mk heA j.Race.aB.length heC))) 0 U cq U U U) ?_
 refine rS (CL (By j.Race kA kC az cA cC bA bC slA slC drA drC ha heA heC sd) (bq [1,2,3,4,5,6,7,8]) U) ?_
 refine rP 1 [] mn ?_
 refine cg (t:=6) U (aV fun B=>?_) (aW fun B=>?_)
 ·refine rP 12 [] mn ?_
  refine RK C<|ar<|Q1 hQ U U U ?_
  first|(exact cB (c8 (show ld j from .inl (.inl B))).symm)|(exact cB (c8 (show ld j from .inl (.inr A))).symm)|(exact cB (fu.2 (show _↔ld j from ⟨.inr,fun q=>Or.elim q (fun q=>Or.elim q (fun q=>absurd q B) (fun q=>absurd q A)) id⟩)))
 refine rP 6 [] (mc 0 U mn) ?_
 refine cg (t:=12) U (aV fun A=>?_) (aW fun A=>?_)
 ·refine rP 6 [] mn ?_
  refine RK C<|ar<|Q1 hQ U U U ?_
  first|(exact cB (c8 (show ld j from .inl (.inl B))).symm)|(exact cB (c8 (show ld j from .inl (.inr A))).symm)|(exact cB (fu.2 (show _↔ld j from ⟨.inr,fun q=>Or.elim q (fun q=>Or.elim q (fun q=>absurd q B) (fun q=>absurd q A)) id⟩)))
 refine rP 6 [] (mc 0 U mn) ?_
 refine RK C<|ar<|Q1 hQ U U U ?_
 first|(exact cB (c8 (show ld j from .inl (.inl B))).symm)|(exact cB (c8 (show ld j from .inl (.inr A))).symm)|(exact cB (fu.2 (show _↔ld j from ⟨.inr,fun q=>Or.elim q (fun q=>Or.elim q (fun q=>absurd q B) (fun q=>absurd q A)) id⟩)))
end
section
open Go.RowKit
theorem Br (l:bj) (kA:OA) (kC:Nat) (az:List RA) (cA:OA) (cC:Nat) (bA:OA) (bC:Nat) (hin:eH l az):
 dH Tryz.prog 101 [(vA (bT.cells (ki l kA kC cA cC bA bC)))] [(rd kA l.aL.length 9 (l.aL.map au.cells)),(rd cA l.ak.length 2 (List.zipWith ax.cells l.ak az)),(d_ (bw ax.gL l.ak az)),(rd bA l.aa.length 4 (l.aa.map bM.cells))] (vI (dI l)):=by
 have N:=hin.te
 have M:=hin.s_
 have K:=hin.oY
 have L:=hin.s7
 refine bH kr Tryz.func101 U U fun P Q hQ hN=>?_
 try dsimp only
 refine WS fun _ C=>eK U fun O=>bI 1 U<|RK C<|ao fun _ D=>WS fun _ E=>bI 1 U<|rS (LP (bG.cells (bG.mk (aR.mk kA l.aL.length kC))) 0 U cq U U U)<|rS (CL (wq l.aL kA kC asm) (bq [1]) U)<|rP 1 [] mn ?_
 refine RK E<|cH U (fun A=>?_) (fun A=>?_)
 ·rw [Bool.not_eq_true'] at A
  refine WS fun _ F=>rP 1 [] mn ?_
  refine RK F<|ar<|Q1 hQ U U U ?_
  exact cI (yE (by simpa using A)).symm
 rw [Bool.not_eq_false'] at A
 refine WK D<|ao fun _ G=>WS fun _ H=>e7 1 [] (mc 0 U mn) U<|rS (CL (KQ l kA kC az cA cC bA bC hin asm) (bq [1,2,3,4]) U)<|rP 1 [] mn ?_
 refine RK H<|cH U (bu fun B=>?_) (br fun B=>?_)
 ·refine WS fun _ AA=>rP 1 [] mn ?_
  refine RK AA<|ar<|Q1 hQ U U U ?_
  exact cI (q9 A B).symm
 refine WK G<|WS fun _ J=>rP 1 [] mn ?_
 refine RK J<|ar<|Q1 hQ U U U ?_
 exact cI (xU A B).symm
theorem Mx (l:bj) (kA:OA) (kC:Nat) (az:List RA) (cA:OA) (cC:Nat) (bA:OA) (bC:Nat) (s:aG) (hin:eH l az) (hok:lL l) (hs:(0≤s.fz∧s.fz≤(l.aa.length:Int)-1)∧0≤s.Read∧s.Read≤86400000):
 dH Tryz.prog 178 [(vA (bT.cells (ki l kA kC cA cC bA bC))),(vA (aG.cells s))] [(rd kA l.aL.length 9 (l.aL.map au.cells)),(rd cA l.ak.length 2 (List.zipWith ax.cells l.ak az)),(d_ (bw ax.gL l.ak az)),(rd bA l.aa.length 4 (l.aa.map bM.cells))] (vT [(vA (ag.cells (cO l s))),(vB (decide ((cO l s).Lo≤(cO l s).Hi)))]):=by
 have A1:=hin.te
 have A0:=hin.s_
 have AO:=hin.oY
 have Ak:=hin.s7
 refine bH kr Tryz.func178 U U fun w0 Q hQ hN=>?_
 try dsimp only
 refine WS fun _ i=>eK U fun b2=>eK U fun b3=>AL U ed fun b4=>rP 1 [] mn ?_
 refine RK i<|ao fun _ j=>dV cx [11,12] [] [] [0,1,2,3,4,5,6] [] U U U U U<|eS U (FA 2 U fT U)<|eS U (L1 (vS cA l.ak.length cC) 2 U cq U U)<|eS U (FA 3 U fT U)<|eS U (L1 (vS bA l.aa.length bC) 2 U cq U U)<|eS U (FA 0 U fT U)<|eS U (L1 (vI s.fz) 1 U cq U U) ?_
 obtain ⟨y,hy⟩:=aM l.aa ((s.fz).toNat) I
 have w:=bP bM.cells hy
 refine eS U (IA ((s.fz).toNat) U (aA 6 U) xQ dc I I)<|eS U (qA ((((s.fz).toNat)*4)+3) U (aA 6 U) (Nat.mul_pos I dc) fT U)<|eS U (iK ((s.fz).toNat) 3 (vI y.kb) U cq (aA 6 U) w U dc U) ?_
 have A2:=(hok.ui _ (aP hy)).2
 obtain ⟨x,hx⟩:=aM l.ak ((y.kb).toNat) I
 obtain ⟨xa,J⟩:=aM az ((y.kb).toNat) I
 have u:(List.zipWith ax.cells l.ak az)[(y.kb).toNat]? =some (ax.cells x xa):=er hx J
 refine eS U (IA ((y.kb).toNat) U (aA 4 U) Ga dc I I)<|eS U (lQ ((y.kb).toNat) 0 (dE.cells (dE.mk x.dC (aR.mk xa.1 x.bJ.length xa.2))) U cq (aA 4 U) u U dc U U)<|eJ U<|cv U fun T6 m=>AL U Og fun b7=>aH (m _ _ (aU [1,2,3,4,5,6,7]) ?_)
 refine cv U fun T8 o=>fK U QP U<|aH (o _ _ (aU [1,2,3,4,5,6,7]) ?_)
 refine fY U<|KK j<|WS fun _ k=>rP 2 [] mn ?_
 refine RK k<|ao fun _ K=>aF ?_
 have A:(0≤(0:Int)∧(0:Int)≤(fI (gJ x s.Read) 86400001))∧((fI (gJ x s.Read) 86400001)≤(86400001:Int)∧(86400001:Int)≤86400001):=by (have Z:=iL (p:=gJ x s.Read) (n:=86400001); omega)
 refine bZ (ι:={z:Int×Int // (0≤z.1∧z.1≤(fI (gJ x s.Read) 86400001))∧((fI (gJ x s.Read) 86400001)≤z.2∧z.2≤86400001)}) [2,3,4,6] [0,1,2,3,4,5,6,7] U U (fun z=>[(7,(vI z.1.1)),(8,(vI z.1.2))]) (fun z=>[]) (fun _=>rfl) (fun _=>rfl) (fun z=>(z.1.2-z.1.1).toNat) ⟨((0:Int),(86400001:Int)),A⟩ (bE U) (aU [0,1,2,3,4,5,6,7]) ?_
 clear A
 rintro ⟨⟨a,b⟩,⟨H,AB⟩⟩ J11 F
 try dsimp only at H AB
 try dsimp only
 have B:=hok.clock _ (aP hx)
 have Z:=iL (p:=gJ x s.Read) (n:=86400001)
 have Y:=iL (p:=gI x s.Read) (n:=86400001)
 refine ao fun _ L=>WS fun _ M=>rP 3 [] mn ?_
 refine RK M<|cH U (aV fun c=>?_) (aW fun c=>?_)
 ·refine WK L<|aF<|WS fun _ N=>bI 3 U<|rS (BI U (uk I I I))<|bI 1 U<|RK N<|ao fun _ O=>dw cx 9 kr<|dP 3 [] (mc 0 U mn) ?_
  refine dS (CL (BL x xa.1 xa.2 ((a+b)/2) asm I) (aJ (show js _ (rd xa.1 x.bJ.length 3 (x.bJ.map cW.cells)).holds from (df 6 U (bW hx J (by simp [ax.gL]))))<|aK) U)<|dS (SX (rY (v:=(vI ((iQ x ((a+b)/2)).Hi))) U U fT G_ U) U U) ?_
  have t:=qQ B (show 0≤(a+b)/2∧(a+b)/2≤90000000 by omega)
  refine dP 4 [] (mc 2 U mn) ?_
  refine cK<|RK O<|cH U (aV fun g=>?_) (aW fun g=>?_)
  ·refine av<|rP 2 [] mn ?_
   refine aH<|aN ?_
   refine bp (F ⟨(a,((a+b)/2)),(by dsimp only; have hm:=lh (r:=s.Read) B (x:=(a+b)/2) I I; rcases Int.lt_or_le ((a+b)/2) (fI (gJ x s.Read) 86400001) with q|q; (have C:=hm.1 q; simp only [gJ,decide_eq_false_iff_not] at C; omega); (have C:=hm.2.1 q; simp only [gJ,decide_eq_true_eq] at C; omega))⟩ _ _ _ rfl (by simp only []; omega) (bE rfl) (aU [0,1,2,3,4,5,6,7]))
  refine av<|rP 3 [] mn ?_
  refine aH<|aN ?_
  refine bp (F ⟨((((a+b)/2)+1),b),(by dsimp only; have hm:=lh (r:=s.Read) B (x:=(a+b)/2) I I; rcases Int.lt_or_le ((a+b)/2) (fI (gJ x s.Read) 86400001) with q|q; (have C:=hm.1 q; simp only [gJ,decide_eq_false_iff_not] at C; omega); (have C:=hm.2.1 q; simp only [gJ,decide_eq_true_eq] at C; omega))⟩ _ _ _ rfl (by simp only []; omega) (bE rfl) (aU [0,1,2,3,4,5,6,7]))
 refine bQ<|ai<|ai<|aI<|KK K<|WS fun _ P=>bI 2 U<|RK P<|WS fun _ R=>rP 2 [] mn ?_
 refine RK R<|ao fun _ S=>aF ?_
 have A:(-1≤((-1):Int)∧((-1):Int)≤(fI (gI x s.Read) 86400001)-1)∧((fI (gI x s.Read) 86400001)-1≤(86400000:Int)∧(86400000:Int)≤86400000):=by (have Y:=iL (p:=gI x s.Read) (n:=86400001); omega)
 refine bZ (ι:={z:Int×Int // (-1≤z.1∧z.1≤(fI (gI x s.Read) 86400001)-1)∧((fI (gI x s.Read) 86400001)-1≤z.2∧z.2≤86400000)}) [2,3,4,6,10] [0,1,2,3,4,5,6,7] U U (fun z=>[(7,(vI z.1.1)),(8,(vI z.1.2))]) (fun z=>[]) (fun _=>rfl) (fun _=>rfl) (fun z=>(z.1.2-z.1.1).toNat) ⟨(((-1):Int),(86400000:Int)),A⟩ (bE U) (aU [0,1,2,3,4,5,6,7]) ?_
 clear A
 rintro ⟨⟨d,e⟩,⟨D,E⟩⟩ J20 G
 try dsimp only at D E
 try dsimp only
 have B:=hok.clock _ (aP hx)
 have Z:=iL (p:=gJ x s.Read) (n:=86400001)
 have Y:=iL (p:=gI x s.Read) (n:=86400001)
 refine ao fun _ T=>WS fun _ AA=>rP 3 [] mn ?_
 refine RK AA<|bV U (aW fun f=>?_) (aV fun f=>?_)
 ·refine bQ<|ai<|ai<|aI<|KK S<|WS fun _ X=>bI 2 U<|rS (SX (bf (xs:=[(0,.tmp 63),(1,.tmp 64)]) (cs:=(ag.cells (ag.mk a d))) U U (bg gZ U)) U U)<|bI 3 U<|sr U c_ U<|rP 1 [] mn ?_
  refine RK X<|ar<|mQ hQ [0] (mc 1 U mn) U ?_
  have e0:cO l s=⟨a,d⟩:=by (unfold cO rr; rw [xe hy hx,show a=(fI (gJ x s.Read) 86400001) by omega,show d=(fI (gI x s.Read) 86400001)-1 by omega])
  rw [e0]
 refine WK T<|aF<|WS fun _ V=>bI 4 U<|rS (BI U (uk I I I))<|bI 1 U<|RK V<|ao fun _ W=>dw cx 9 kr<|dP 3 [] (mc 0 U mn) ?_
 refine dS (CL (BL x xa.1 xa.2 (((d+e)+1)/2) asm I) (aJ (show js _ (rd xa.1 x.bJ.length 3 (x.bJ.map cW.cells)).holds from (df 6 U (bW hx J (by simp [ax.gL]))))<|aK) U)<|dS (SX (rY (v:=(vI ((iQ x (((d+e)+1)/2)).Lo))) U U fT IN U) U U) ?_
 have t:=qQ B (show 0≤(d+e+1)/2∧(d+e+1)/2≤90000000 by omega)
 refine dP 4 [] (mc 2 U mn) ?_
 refine cK<|RK W<|cH U (aV fun h=>?_) (aW fun h=>?_)
 ·refine av<|rP 2 [] mn ?_
  refine aH<|aN ?_
  refine bp (G ⟨((((d+e)+1)/2),e),(by dsimp only; have hm:=lh (r:=s.Read) B (x:=(d+e+1)/2) I I; rcases Int.lt_or_le ((d+e+1)/2) (fI (gI x s.Read) 86400001) with q|q; (have C:=hm.2.2.1 q; simp only [gI,decide_eq_false_iff_not] at C; omega); (have C:=hm.2.2.2 q; simp only [gI,decide_eq_true_eq] at C; omega))⟩ _ _ _ rfl (by simp only []; omega) (bE rfl) (aU [0,1,2,3,4,5,6,7]))
 refine av<|rP 3 [] mn ?_
 refine aH<|aN ?_
 refine bp (G ⟨(d,((((d+e)+1)/2)-1)),(by dsimp only; have hm:=lh (r:=s.Read) B (x:=(d+e+1)/2) I I; rcases Int.lt_or_le ((d+e+1)/2) (fI (gI x s.Read) 86400001) with q|q; (have C:=hm.2.2.1 q; simp only [gI,decide_eq_false_iff_not] at C; omega); (have C:=hm.2.2.2 q; simp only [gI,decide_eq_true_eq] at C; omega))⟩ _ _ _ rfl (by simp only []; omega) (bE rfl) (aU [0,1,2,3,4,5,6,7]))
end
section
open Go.RowKit
theorem o6 (n lo hi:Int):
 dH Tryz.prog 122 [(vI n),(vI lo),(vI hi)] [] (vB (decide (lo≤n∧n≤hi))):=by
 refine bH kr Tryz.func122 U U fun D Q hQ hN=>?_
 try dsimp only
 refine WS fun _ B=>bI 1 U<|RK B<|WS fun _ A=>rP 4 [] mn ?_
 refine cg (t:=10) U (aV fun C=>?_) (aW fun C=>?_)
 ·refine rP 5 [] mn ?_
  refine RK A<|ar<|Q1 hQ U U U ?_
  exact cB (fu.2 I)
 refine rP 5 [] mn ?_
 refine RK A<|ar<|Q1 hQ U U U ?_
 exact cB (bx I).symm
theorem D6 (r:cD) (sgA:OA) (sgC:Nat):
 dH Tryz.prog 141 [(vA (cU.cells (jE r sgA sgC)))] [(rd sgA r.ab.length 2 (r.ab.map aG.cells))] (vB (decide (mW r))):=by
 refine bH kr Tryz.func141 U U fun F Q hQ hN=>?_
 try dsimp only
 refine WS fun _ B=>eK U fun E=>bI 1 U<|RK B<|WS fun _ A=>rP 4 [] (mc 0 U mn) ?_
 refine cM (t:=6) U (aW fun C=>?_) (aV fun C=>?_)
 ·refine rP 11 [] mn ?_
  refine RK A<|ar<|Q1 hQ U U U ?_
  simp only [mW]
  exact cB (bx I).symm
 refine rP 5 [] (mc 0 U mn) ?_
 refine cM (t:=11) U (aW fun D=>?_) (aV fun D=>?_)
 ·refine rP 6 [] mn ?_
  refine RK A<|ar<|Q1 hQ U U U ?_
  simp only [mW]
  exact cB (bx I).symm
 refine rP 6 [] (mc 0 U mn) ?_
 refine RK A<|ar<|Q1 hQ U U U ?_
 simp only [mW]
 exact cB (fu.2 I)
theorem Md (s:ag):
 dH Tryz.prog 142 [(vA (ag.cells s))] [] (vB (decide (l5 s))):=by
 refine bH kr Tryz.func142 U U fun F Q hQ hN=>?_
 try dsimp only
 refine WS fun _ B=>eK U fun E=>bI 1 U<|RK B<|WS fun _ A=>rP 4 [] (mc 0 U mn) ?_
 refine cM (t:=6) U (aW fun C=>?_) (aV fun C=>?_)
 ·refine rP 12 [] mn ?_
  refine RK A<|ar<|Q1 hQ U U U ?_
  simp only [l5]
  exact cB (bx I).symm
 refine rP 7 [] (mc 0 U mn) ?_
 refine cM (t:=13) U (aW fun D=>?_) (aV fun D=>?_)
 ·refine rP 5 [] mn ?_
  refine RK A<|ar<|Q1 hQ U U U ?_
  simp only [l5]
  exact cB (bx I).symm
 refine rP 5 [] (mc 0 U mn) ?_
 refine RK A<|ar<|Q1 hQ U U U ?_
 simp only [l5]
 exact cB (fu.2 I)
theorem Bh (la:List Int) (laA:OA) (laC:Nat) (lb:List Int) (lbA:OA) (lbC:Nat) (h1:la.length≤1000000) (h2:lb.length≤1000000):
 dH Tryz.prog 38 [(vS laA la.length laC),(vS lbA lb.length lbC)] [(rd laA la.length 1 (la.map iC)),(rd lbA lb.length 1 (lb.map iC))] (vB (decide (la=lb))):=by
 refine bH kr Tryz.func38 U U fun V Q hQ hN=>?_
 try dsimp only
 refine WS fun _ J=>bI 1 U<|RK J<|ao fun _ K=>WS fun _ L=>rP 5 [] mn ?_
 refine RK L<|cH U (bu fun hl=>?_) (br fun hl=>?_)
 ·refine WS fun _ M=>rP 1 [] mn ?_
  refine RK M<|ar<|Q1 hQ U U U ?_
  exact cB (bx (fun e=>by subst e; omega)).symm
 refine WK K<|ao fun _ N=>WS fun _ O=>rP 1 [] mn ?_
 refine RK O<|aF ?_
 have A:(0≤la.length)∧(la.take 0=lb.take 0):=by simp
 refine bZ (ι:={z:Nat // (z≤la.length)∧(la.take z=lb.take z)}) [0,1] [0,1] U U (fun z=>[(5,(vI (z.1:Int)))]) (fun z=>[]) (fun _=>rfl) (fun _=>rfl) (fun z=>la.length-z.1) ⟨0,A⟩ (bE U) (aU [0,1]) ?_
 clear A
 rintro ⟨i,⟨S,B⟩⟩ J7 AB
 try dsimp only
 refine ao fun _ P=>WS fun _ R=>rP 4 [] mn ?_
 refine RK R<|bV U (aW fun H=>?_) (aV fun H=>?_)
 ·refine bQ<|ai<|ai<|aI<|KK N<|WS fun _ F=>rP 1 [] mn ?_
  refine RK F<|ar<|Q1 hQ U U U ?_
  exact cB (c8 (nW I B I)).symm
 refine WK P<|ao fun _ C=>aF<|ao fun _ D=>dw cx 9 kr<|dP 2 [] mn ?_
 obtain ⟨x,hx⟩:=aM la i I
 have T:=bP iC hx
 refine dS (IA i U (aA 0 U) dD dc I I)<|dS (iK i 0 (vI x) U cq (aA 0 U) T U dc U)<|dP 2 [] mn ?_
 obtain ⟨y,hy⟩:=aM lb i I
 have AA:=bP iC hy
 refine dS (IA i U (aA 1 U) dD dc I I)<|dS (iK i 0 (vI y) U cq (aA 1 U) AA U dc U)<|dP 1 [] mn ?_
 refine cK<|RK D<|cH U (bu fun h=>?_) (br fun h=>?_)
 ·refine WS fun _ E=>rP 1 [] mn ?_
  refine RK E<|ar<|Q1 hQ U U U ?_
  exact cB (bx (nZ hx hy h)).symm
 refine ct<|aN<|KK C<|av<|rP 3 [] mn ?_
 refine aH ?_
 have G:(vI (((i+1):Nat):Int))=(vI ((i:Int)+1)):=by exact cI I
 refine bp (AB ⟨(i+1),⟨I,uP B hx hy h⟩⟩ _ _ _ U os (dG.cons U<|dG.cons U<|bk U G<|dG.nil _) (aU [0,1]))
end
section
structure Df (w w':bY):Prop where
 start:w'.Start=w.Start
 now:w.gd≤w'.gd
 n:w'.n=w.n
 least: ∀ b,cf w' b≤cf w b
 times:w'.vz=w.vz
 Pa:w.ck≤w'.ck
 Qn:w.dj≤w'.dj
 sigs:w'.OR=w.OR
variable {w w':bY}
theorem Df.opt (h:Df w w') {b:Nat} {o:Int×ag} (ho:o∈iT w b): ∃ o'∈iT w' b,o'.1=o.1∧o'.2.Lo≤o.2.Lo∧o.2.Hi≤o'.2.Hi:=by
 unfold iT at ho
 rcases bR.1 ho with rfl|ho
 ·exact ⟨(-1,⟨w'.Start,w'.gd⟩),cJ ..,U,by simp only [h.start]; omega,h.now⟩
 ·refine ⟨o,dW _ ?_,U,Int.le_refl _,Int.le_refl _⟩
  unfold uv at ho ⊢; rw [h.times]; exact ho
theorem Df.may (h:Df w w') {t:aD} (ht:kP w t=true):kP w' t=true:=by
 unfold kP at ht ⊢
 have:=of_decide_eq_true ht
 have A:=h.Pa
 have B:=h.Qn
 have C:=h.sigs
 exact c8 I
theorem Df.fwd (h:Df w w'): ∀ (b:Nat) (p:aD×Int),p∈fwd w b→ ∃ p'∈Go.Proofs.YtijpnoadncadoaaGreatDoor.fwd w' b,p'.1=p.1∧p'.2≤p.2:=by
 intro b
 induction b with
 |zero=>
  intro p hp
  simp only [Go.Proofs.YtijpnoadncadoaaGreatDoor.fwd,cm] at hp ⊢
  subst hp
  exact ⟨_,U,U,by simp only [h.start]; omega⟩
 |succ b ih=>
  intro q hq
  obtain ⟨p,hp,o,ho,e⟩:=gf.1 hq
  obtain ⟨p',hp',A,D⟩:=ih p hp
  obtain ⟨o',ho',B,E,F⟩:=h.opt ho
  have hl:=h.least b
  have hn:=h.now
  unfold k8 at e
  split at e
  ·rename_i C
   simp only [Option.some.injEq] at e
   subst e
   refine ⟨(dF p'.1 (fB o'.1),max (p'.2+cf w' b) o'.2.Lo),gf.2 ⟨p',hp',o',ho',by unfold k8; rw [if_pos I]⟩,by simp only [A,B],by simp only; omega⟩
  ·cases e
theorem Df.bwd (h:Df w w'): ∀ (k:Nat) (p:aD×Int),p∈bwd w k→ ∃ p'∈Go.Proofs.YtijpnoadncadoaaGreatDoor.bwd w' k,p'.1=p.1∧p.2≤p'.2:=by
 intro k
 induction k with
 |zero=>
  intro p hp
  simp only [Go.Proofs.YtijpnoadncadoaaGreatDoor.bwd,cm] at hp ⊢
  subst hp
  exact ⟨_,U,U,h.now⟩
 |succ k ih=>
  intro q hq
  simp only [Go.Proofs.YtijpnoadncadoaaGreatDoor.bwd,bR,List.mem_flatMap,List.mem_filterMap] at hq ⊢
  rcases hq with rfl|⟨p,hp,o,ho,e⟩
  ·exact ⟨_,.inl U,U,h.now⟩
  ·obtain ⟨p',hp',A,D⟩:=ih p hp
   obtain ⟨o',ho',B,E,F⟩:=h.opt ho
   have hl:=h.least (w.n-(k+1))
   rw [h.n]
   unfold oc at e
   split at e
   ·rename_i C
    simp only [Option.some.injEq] at e
    subst e
    exact ⟨(dF p'.1 (fB o'.1),min p'.2 o'.2.Hi-cf w' (w.n-(k+1))),.inr ⟨p',hp',o',ho',by unfold oc; rw [if_pos I]⟩,by simp only [A,B],by simp only; omega⟩
   ·cases e
theorem Df.back (h:Df w w') {b:Nat} {p:aD×Int} (hp:p∈back w b): ∃ p'∈Go.Proofs.YtijpnoadncadoaaGreatDoor.back w' b,p'.1=p.1∧p.2≤p'.2:=by
 unfold Go.Proofs.YtijpnoadncadoaaGreatDoor.back at hp ⊢
 rw [h.n]
 exact h.bwd _ p hp
theorem Df.pass (h:Df w w') {b:Nat} {q:Int×ag} (hq:q∈mz w b): ∃ q'∈mz w' b,q'.1=q.1∧q'.2.Lo≤q.2.Lo∧q.2.Hi≤q'.2.Hi:=by
 obtain ⟨o,ho,p,hp,u,hu,e⟩:=iH.1 hq
 obtain ⟨D,E,rfl⟩:=jL.1 e
 obtain ⟨o',ho',A,F,G⟩:=h.opt ho
 obtain ⟨p',hp',B,H⟩:=h.fwd _ p hp
 obtain ⟨u',hu',C,AA⟩:=h.back hu
 have hl:=h.least b
 simp only [jO] at D
 refine ⟨(o'.1,jO w' b p' u' o'),iH.2 ⟨o',ho',p',hp',u',hu',jL.2 ⟨?_,?_,U⟩⟩,A,?_,?_⟩
 ·simp only [jO]; omega
 ·have:=h.may E
  unfold xM at this ⊢
  rw [A,B,C]; exact this
 ·simp only [jO]; omega
 ·simp only [jO]; omega
theorem ph {k:Int}:k∈ic w↔ ∃ i:Nat,k=(i:Int)∧i≤w.n∧jK w (fwd w i)=true:=by
 unfold ic kI
 simp only [cy,List.mem_filter,List.mem_range]
 constructor
 ·rintro ⟨i,⟨B,A⟩,rfl⟩; exact ⟨i,rfl,I,A⟩
 ·rintro ⟨i,rfl,B,A⟩; exact ⟨i,⟨I,A⟩,rfl⟩
theorem Df.F9 (h:Df w w') {k:Int} (hk:k∈ic w):k∈ic w':=by
 obtain ⟨i,rfl,C,A⟩:=ph.1 hk
 refine ph.2 ⟨i,U,by rw [h.n]; exact C,?_⟩
 unfold jK at A ⊢
 obtain ⟨p,hp,D⟩:=List.any_eq_true.1 A
 obtain ⟨p',hp',B,_⟩:=h.fwd _ p hp
 exact List.any_eq_true.2 ⟨p',hp',by rw [B]; exact h.may D⟩
/-- two rides, of two lines, of which one allows more -/
structure Sf (l:bj) (r:cD) (l':bj) (r':cD):Prop where
 line:dI l=0
 line':dI l'=0
 iJ:eh l r
 ride':eh l' r'
 w:Df (cb l r) (cb l' r')
 Nh:l'.aa.length=l.aa.length
variable {l l':bj} {r r':cD}
theorem Sf.ok (h:Sf l r l' r') (he:dN l r 0=0):dN l' r' 0=0:=by
 refine lv h.line' h.ride' U fun e=>?_
 obtain ⟨k,hk⟩:=List.exists_mem_of_ne_nil _ (iN he).2.2.2
 have:=h.w.F9 hk
 rw [e] at this; cases this
theorem Sf.CM (h:Sf l r l' r') {k:Int} (hk:k∈hP l r):k∈hP l' r':=by
 by_cases he:dN l r 0=0
 ·rw [ky he] at hk
  rw [ky (h.ok he)]
  exact h.w.F9 hk
 ·rw [nv he] at hk; cases hk
theorem F1 {b:Nat} (hb:b<l.aa.length):dN l r (jI l b)=dN l r 0:=by rw [tI I]
theorem yA {b:Nat}:cf (cb l r) b=if b<l.aa.length then ej l b else 0:=by
 unfold cf cb cj
 split
 ·rename_i h
  simp [h]
 ·rename_i h
  simp [h]
theorem GV {sg:List aG} {i:Nat} (h:i=0):kT sg i=⟨-1,0⟩:=by subst h; rfl
theorem sf {sg:List aG} {i:Nat} {y:aG} (h:0<i) (hy:sg[i-1]? =some y):kT sg i=y:=by unfold kT; rw [if_neg I,hy]; rfl
def NI (l:bj):Prop:= ¬ mT l∧dI l=0
noncomputable instance (l:bj):Decidable (NI l):=Classical.propDecidable _
end
section
/-- where a sled may be after k beams more -/
def gr (w:bY):Nat→Nat→aD×Int→List (aD×Int)
 |0,_,p=>[p]
 |k+1,b,p=>(iT w b).flatMap fun o=>match k8 w b p o with
  |some q=>gr w k (b+1) q
  |none=>[]
variable {w:bY}
theorem iI {k b:Nat} {p q:aD×Int}:q∈gr w (k+1) b p↔ ∃ o∈iT w b,∃ p',k8 w b p o=some p'∧q∈gr w k (b+1) p':=by
 simp only [gr,List.mem_flatMap]
 constructor
 ·rintro ⟨o,ho,h⟩
  cases e:k8 w b p o with
  |none=>rw [e] at h; cases h
  |some p'=>rw [e] at h; exact ⟨o,ho,p',e,h⟩
 ·rintro ⟨o,ho,p',e,h⟩
  exact ⟨o,ho,by rw [e]; exact h⟩
theorem rZ: ∀ (k b:Nat) (q:aD×Int),q∈fwd w (b+k)↔ ∃ p∈fwd w b,q∈gr w k b p:=by
 intro k
 induction k with
 |zero=>
  intro b q
  simp only [Nat.add_zero,gr,cm]
  exact ⟨fun h=>⟨q,h,rfl⟩,fun ⟨p,hp,e⟩=>e▸hp⟩
 |succ k ih=>
  intro b q
  rw [show b+(k+1)=(b+1)+k by omega,ih]
  constructor
  ·rintro ⟨p',hp',h⟩
   obtain ⟨p,hp,o,ho,e⟩:=gf.1 hp'
   exact ⟨p,hp,iI.2 ⟨o,ho,p',e,h⟩⟩
  ·rintro ⟨p,hp,h⟩
   obtain ⟨o,ho,p',e,h'⟩:=iI.1 h
   exact ⟨p',gf.2 ⟨p,hp,o,ho,e⟩,h'⟩
theorem g8 {b:Nat} {p q:aD×Int} {o:Int×ag}:k8 w b p o=some q↔max (p.2+cf w b) o.2.Lo≤min o.2.Hi w.gd∧q=(dF p.1 (fB o.1),max (p.2+cf w b) o.2.Lo):=by
 unfold k8
 split
 ·rename_i h
  constructor
  ·intro e; cases e; exact ⟨h,rfl⟩
  ·rintro ⟨_,rfl⟩; rfl
 ·rename_i h
  constructor
  ·intro e; cases e
  ·rintro ⟨h',_⟩; exact absurd h' h
theorem vh {b:Nat} {p q:aD×Int} {o:Int×ag}:oc w b p o=some q↔o.2.Lo≤min p.2 o.2.Hi∧q=(dF p.1 (fB o.1),min p.2 o.2.Hi-cf w b):=by
 unfold oc
 split
 ·rename_i h
  constructor
  ·intro e; cases e; exact ⟨h,rfl⟩
  ·rintro ⟨_,rfl⟩; rfl
 ·rename_i h
  constructor
  ·intro e; cases e
  ·rintro ⟨h',_⟩; exact absurd h' h
theorem Fk {b:Nat} (hb:b≤w.n):((⟨0,0⟩:aD),w.gd)∈back w b:=by
 rcases Nat.lt_or_ge b w.n with h|h
 ·exact (o3 h).2 (.inl U)
 ·rw [vd h]; simp
theorem nu (t:aD):dF t ⟨0,0⟩=t:=by cases t; simp [dF]
theorem yH (a o u:aD):dF (dF a o) u=dF a (dF u o):=by simp only [dF,aD.mk.injEq]; omega
theorem EC (hl: ∀ b,0≤cf w b): ∀ (k:Nat) (u:aD×Int),u∈bwd w k→u.2≤w.gd:=by
 intro k
 induction k with
 |zero=>intro u hu; simp only [bwd,cm] at hu; subst hu; exact Int.le_refl _
 |succ k ih=>
  intro u hu
  simp only [bwd,bR,List.mem_flatMap,List.mem_filterMap] at hu
  rcases hu with rfl|⟨p,hp,o,ho,e⟩
  ·exact Int.le_refl _
  ·obtain ⟨_,rfl⟩:=vh.1 e
   have:=ih p hp
   have:=hl (w.n-(k+1))
   simp only; omega
/-- what follows a passing is told by the way back -/
theorem KO: ∀ (k b:Nat) (p q:aD×Int),b+k≤w.n→p.2≤w.gd→q∈gr w k b p→ ∃ u∈back w b,p.2≤u.2∧q.1=dF p.1 u.1:=by
 intro k
 induction k with
 |zero=>
  intro b p q hb hp hq
  simp only [gr,cm] at hq
  subst hq
  exact ⟨_,Fk I,hp,(nu _).symm⟩
 |succ k ih=>
  intro b p q hb hp hq
  obtain ⟨o,ho,p',e,h⟩:=iI.1 hq
  obtain ⟨C,rfl⟩:=g8.1 e
  obtain ⟨u',hu',B,A⟩:=ih (b+1) _ q I (by simp only; omega) h
  simp only at B A
  refine ⟨(dF u'.1 (fB o.1),min u'.2 o.2.Hi-cf w b),(o3 I).2 (.inr ⟨u',hu',o,ho,vh.2 ⟨I,U⟩⟩),by simp only; omega,?_⟩
  rw [A,yH]
theorem JR (hl: ∀ b,0≤cf w b): ∀ (d b:Nat) (p u:aD×Int),w.n=b+d→p.2≤u.2→u∈back w b→ ∃ k,b+k≤w.n∧ ∃ q∈gr w k b p,q.1=dF p.1 u.1:=by
 intro d
 induction d with
 |zero=>
  intro b p u hd hp hu
  rw [vd I] at hu
  simp only [cm] at hu
  subst hu
  exact ⟨0,I,p,by simp [gr],(nu _).symm⟩
 |succ d ih=>
  intro b p u hd hp hu
  rcases (o3 I).1 hu with rfl|⟨u',hu',o,ho,e⟩
  ·exact ⟨0,I,p,by simp [gr],(nu _).symm⟩
  ·obtain ⟨B,rfl⟩:=vh.1 e
   have hn:u'.2≤w.gd:=EC hl _ _ hu'
   simp only at hp
   obtain ⟨k,hk,q,hq,A⟩:=ih (b+1) (dF p.1 (fB o.1),max (p.2+cf w b) o.2.Lo) u' I (by simp only; omega) hu'
   refine ⟨k+1,I,q,iI.2 ⟨o,ho,_,g8.2 ⟨I,U⟩,hq⟩,?_⟩
   rw [A]; simp only; rw [yH]
end
section
section
variable {l:bj} {r:cD} {one at_:Int} {d:Nat} {f g m:Int} {rec:Int→Int→Int→Bool} {i:Int}
end
theorem rp {l:bj} {r:cD} {d:Nat} (hd:d<l.aa.length) {o:Int×ag}:o∈iT (cb l r) d↔o=(-1,⟨r.Start,r.gd⟩)∨ ∃ k,k<r.ab.length∧ ∃ s,r.ab[k]? =some s∧(s.fz=(d:Int)∧(cO l s).Lo≤(cO l s).Hi)∧o=((k:Int),cO l s):=by
 unfold iT uv
 show o∈(-1,(⟨r.Start,r.gd⟩:ag))::((cL l r.ab r.ab.length)[d]?).getD []↔_
 rw [pz hd,Option.getD_some,bR,sP]
theorem pU {l:bj} {r:cD} {d:Nat} (hd:d<l.aa.length):cf (cb l r) d=ej l d:=by rw [yA,if_pos hd]
theorem uW {l:bj} {n d:Nat} {y:Int} (h:(cj l n)[d]? =some y):y=ej l d:=by
 unfold cj at h
 rw [fO] at h
 have hd:d<n:=by
  rcases Nat.lt_or_ge d n with q|q
  ·exact q
  ·rw [List.getElem?_eq_none (by simpa using q)] at h; cases h
 rw [List.getElem?_range hd] at h
 exact (Option.some.inj h).symm
end
section
def CZ (w:bY) (b:Nat) (i:Int):Prop:= ∃ b',b'<b∧ ∃ q∈mz w b',q.1=i
noncomputable instance (w:bY) (b:Nat) (i:Int):Decidable (CZ w b i):=Classical.propDecidable _
noncomputable def Ad (w:bY) (n:Nat):List Int:=((List.range n).map fun (k:Nat)=>(k:Int)).filter fun i=> !decide (CZ w w.n i)
noncomputable def IJ (l:bj) (r:cD):List Int:=if dN l r 0=0 then Ad (cb l r) r.ab.length else []
theorem Gq {l:bj} {r:cD} (h:dN l r 0=0):IJ l r=Ad (cb l r) r.ab.length:=if_pos h
def ua (w:bY) (b:Nat):Bool:=(mz w b).any fun q=>decide (0≤q.1)
def wk (w:bY) (k:Nat):List Int:=((List.range k).filter fun b=> !ua w b).map fun (b:Nat)=>(b:Int)
noncomputable def tU (l:bj) (r:cD):List Int:=if dN l r 0=0 then wk (cb l r) (nB (hP l r)).toNat else []
theorem sH {l:bj} {r:cD} (h:dN l r 0=0):tU l r=wk (cb l r) (nB (hP l r)).toNat:=if_pos h
theorem xX {l:bj} {r:cD} (h: ¬ dN l r 0=0):tU l r=[]:=if_neg h
theorem CY {w:bY} {n:Nat} {i:Int}:i∈Ad w n↔(0≤i∧i<(n:Int))∧ ¬ CZ w w.n i:=by
 unfold Ad
 rw [List.mem_filter,cy]
 simp only [Bool.not_eq_true',decide_eq_false_iff_not]
 constructor
 ·rintro ⟨⟨k,hk,rfl⟩,A⟩
  have:=List.mem_range.1 hk
  exact ⟨I,A⟩
 ·rintro ⟨B,A⟩
  exact ⟨⟨i.toNat,List.mem_range.2 I,I⟩,A⟩
theorem Rn {l:bj} {r:cD} (h:dN l r 0=0):0≤nB (hP l r)∧nB (hP l r)≤(l.aa.length:Int):=by
 have A:=(Fc (u6 h)).1
 rw [ky h] at A ⊢
 obtain ⟨i,e,hi,_⟩:=ph.1 A
 have hn:(cb l r).n=l.aa.length:=cT
 omega
end
section
/-- a truth goes on from here -/
def sV (w:bY) (b:Nat) (p:aD×Int):Prop:= ∃ k,b+k≤w.n∧ ∃ q∈gr w k b p,kP w q.1=true
/-- a truth may have come here, or earlier -/
def Co (w:bY) (b:Nat) (p:aD×Int):Prop:= ∃ v,(p.1,v)∈fwd w b∧v≤p.2
def I4 (n:Int) (p:aD×Int):aD×Int:=(p.1,p.2+n)
section
variable {w:bY}
theorem FC: ∀ (k j b:Nat) (p q z:aD×Int),q∈gr w k b p→z∈gr w j (b+k) q→z∈gr w (k+j) b p:=by
 intro k
 induction k with
 |zero=>
  intro j b p q z A B
  simp only [gr,cm] at A
  subst A
  rw [Nat.zero_add]; exact B
 |succ k ih=>
  intro j b p q z A B
  obtain ⟨o,ho,p',e,h⟩:=iI.1 A
  rw [show k+1+j=(k+j)+1 by omega]
  exact iI.2 ⟨o,ho,p',e,ih j (b+1) p' q z h (by rw [show b+1+k=b+(k+1) by omega]; exact B)⟩
theorem Ap: ∀ (k b:Nat) (t:aD) (x y:Int) (q:aD×Int),y≤x→q∈gr w k b (t,x)→ ∃ q'∈gr w k b (t,y),q'.1=q.1∧q'.2≤q.2:=by
 intro k
 induction k with
 |zero=>
  intro b t x y q A hq
  simp only [gr,cm] at hq ⊢
  subst hq
  exact ⟨_,U,U,A⟩
 |succ k ih=>
  intro b t x y q A hq
  obtain ⟨o,ho,p',e,h⟩:=iI.1 hq
  obtain ⟨B,rfl⟩:=g8.1 e
  simp only at B h
  obtain ⟨q',hq',C,D⟩:=ih (b+1) _ _ (max (y+cf w b) o.2.Lo) q I h
  exact ⟨q',iI.2 ⟨o,ho,_,g8.2 ⟨by simp only; omega,U⟩,hq'⟩,C,D⟩
theorem xG {b:Nat} {t:aD} {x y:Int} (h:sV w b (t,x)) (hy:y≤x):sV w b (t,y):=by
 obtain ⟨k,hk,q,hq,hm⟩:=h
 obtain ⟨q',hq',e,_⟩:=Ap k b t x y q hy hq
 exact ⟨k,hk,q',hq',by rw [e]; exact hm⟩
theorem u_ {k b:Nat} {p q:aD×Int} (h:q∈gr w k b p) (hv:sV w (b+k) q):sV w b p:=by
 obtain ⟨j,hj,z,hz,hm⟩:=hv
 exact ⟨k+j,I,z,FC k j b p q z h hz,hm⟩
theorem Fl {b:Nat} {p q:aD×Int} {o:Int×ag} (h:Co w b p) (ho:o∈iT w b) (e:k8 w b p o=some q):Co w (b+1) q:=by
 obtain ⟨v,hv,A⟩:=h
 obtain ⟨B,rfl⟩:=g8.1 e
 exact ⟨max (v+cf w b) o.2.Lo,gf.2 ⟨_,hv,o,ho,g8.2 ⟨by simp only; omega,U⟩⟩,by simp only; omega⟩
theorem BP {b:Nat} {p:aD×Int} (h:p∈fwd w b):Co w b p:=⟨p.2,h,Int.le_refl _⟩
theorem zc (hl: ∀ b,0≤cf w b): ∀ (b:Nat) (p:aD×Int),p∈fwd w b→w.Start≤p.2:=by
 intro b
 induction b with
 |zero=>intro p hp; simp only [fwd,cm] at hp; subst hp; exact Int.le_refl _
 |succ b ih=>
  intro q hq
  obtain ⟨p,hp,o,ho,e⟩:=gf.1 hq
  obtain ⟨_,rfl⟩:=g8.1 e
  have:=ih p hp
  have:=hl b
  simp only; omega
/-- a beam is passed at a time, by a signal -/
def xz (w:bY) (b:Nat) (s t:Int):Prop:= ∃ p∈fwd w b,∃ o∈iT w b,o.1=s∧(max (p.2+cf w b) o.2.Lo≤t∧t≤min o.2.Hi w.gd)∧sV w (b+1) (dF p.1 (fB o.1),t)
theorem wv (hl: ∀ b,0≤cf w b) {b:Nat} (hb:b<w.n) {s t:Int}:(∃ q∈mz w b,q.1=s∧q.2.Lo≤t∧t≤q.2.Hi)↔xz w b s t:=by
 constructor
 ·rintro ⟨q,hq,hs,C,D⟩
  obtain ⟨o,ho,p,hp,u,hu,e⟩:=iH.1 hq
  obtain ⟨B,A,rfl⟩:=jL.1 e
  simp only [jO] at C D B
  have hn:u.2≤w.gd:=EC hl _ _ hu
  obtain ⟨k,hk,q,hq',E⟩:=JR hl (w.n-(b+1)) (b+1) (dF p.1 (fB o.1),t) u I (by simp only; omega) hu
  refine ⟨p,hp,o,ho,hs,⟨I,I⟩,k,hk,q,hq',?_⟩
  rw [E]
  unfold xM at A
  rw [show dF (dF p.1 (fB o.1)) u.1=dF (dF p.1 u.1) (fB o.1) by simp only [dF,aD.mk.injEq]; omega]
  exact A
 ·rintro ⟨p,hp,o,ho,hs,⟨C,D⟩,k,hk,q,hq,hm⟩
  obtain ⟨u,hu,B,A⟩:=KO k (b+1) _ q hk (by simp only; omega) hq
  simp only at B A
  refine ⟨(o.1,jO w b p u o),iH.2 ⟨o,ho,p,hp,u,hu,jL.2 ⟨by simp only [jO]; omega,?_,U⟩⟩,hs,by simp only [jO]; omega,by simp only [jO]; omega⟩
  unfold xM
  rw [A] at hm
  rw [show dF (dF p.1 u.1) (fB o.1)=dF (dF p.1 (fB o.1)) u.1 by simp only [dF,aD.mk.injEq]; omega]
  exact hm
end
structure ym (w w':bY) (n:Int) (f:Int→Int):Prop where
 start:w'.Start=w.Start+n
 now:w'.gd=w.gd+n
 wn:w'.n=w.n
 low: ∀ b,0≤cf w b
 least: ∀ b,cf w' b=cf w b
 may: ∀ t,kP w t=true→kP w' t=true
 Tw: ∀ s,0≤f s↔0≤s
 opt: ∀ (b:Nat) (p:aD×Int) (o:Int×ag),b<w.n→w.Start≤p.2→Co w b p→o∈iT w b→max (p.2+cf w b) o.2.Lo≤min o.2.Hi w.gd→sV w (b+1) (dF p.1 (fB o.1),max (p.2+cf w b) o.2.Lo)→
  ∃ o'∈iT w' b,o'.1=f o.1∧ ∀ t,w.Start≤t→t≤w.gd→((o.2.Lo≤t∧t≤o.2.Hi)↔(o'.2.Lo≤t+n∧t+n≤o'.2.Hi))
section
variable {w w':bY} {n:Int} {f g:Int→Int}
theorem ym.one (h:ym w w' n f) (s:Int):fB (f s)=fB s:=by
 unfold fB
 have:=h.Tw s
 by_cases q:s<0
 ·rw [if_pos q,if_pos I]
 ·rw [if_neg q,if_neg I]
theorem ym.step (h:ym w w' n f) {b:Nat} {p q:aD×Int} {o:Int×ag} (hb:b<w.n) (hs:w.Start≤p.2) (hl:Co w b p) (ho:o∈iT w b) (e:k8 w b p o=some q) (hv:sV w (b+1) q):
 ∃ o'∈iT w' b,k8 w' b (I4 n p) o'=some (I4 n q):=by
 obtain ⟨E,rfl⟩:=g8.1 e
 obtain ⟨o',ho',D,A⟩:=h.opt b p o hb hs hl ho E hv
 have F:=h.low b
 have B:=A (max (p.2+cf w b) o.2.Lo) I I
 have C:=A (max (p.2+n+cf w b) o'.2.Lo-n) I
 refine ⟨o',ho',g8.2 ?_⟩
 simp only [I4,h.least,h.now]
 rw [D,h.one]
 have G:=B.1 I
 have H:=(C I).2 I
 refine ⟨I,?_⟩
 simp only [Prod.mk.injEq,true_and]
 omega
theorem ym.reach (h:ym w w' n f): ∀ (k b:Nat) (p q:aD×Int),b+k≤w.n→w.Start≤p.2→Co w b p→q∈gr w k b p→sV w (b+k) q→I4 n q∈gr w' k b (I4 n p):=by
 intro k
 induction k with
 |zero=>
  intro b p q _ _ _ hq _
  simp only [gr,cm] at hq ⊢
  rw [hq]
 |succ k ih=>
  intro b p q hb hs hl hq hv
  obtain ⟨o,ho,p',e,hq'⟩:=iI.1 hq
  have hv':sV w (b+1) p':=u_ hq' (by rw [show b+1+k=b+(k+1) by omega]; exact hv)
  obtain ⟨o',ho',e'⟩:=h.step I hs hl ho e hv'
  have A:=g8.1 e
  have B:=h.low b
  exact iI.2 ⟨o',ho',_,e',ih (b+1) p' q I (by rw [A.2]; simp only; omega) (Fl hl ho e) hq' (by rw [show b+1+k=b+(k+1) by omega]; exact hv)⟩
theorem ym.O2 (h:ym w w' n f) {b:Nat} {p:aD×Int} (hs:w.Start≤p.2) (hl:Co w b p) (hv:sV w b p):sV w' b (I4 n p):=by
 obtain ⟨k,hk,q,hq,hm⟩:=hv
 exact ⟨k,by rw [h.wn]; exact hk,_,h.reach k b p q hk hs hl hq ⟨0,I,q,by simp [gr],hm⟩,h.may _ hm⟩
theorem ym.fwd (h:ym w w' n f) {b:Nat} {q:aD×Int} (hb:b≤w.n) (hq:q∈fwd w b) (hv:sV w b q):I4 n q∈Go.Proofs.YtijpnoadncadoaaGreatDoor.fwd w' b:=by
 obtain ⟨p,hp,hr⟩:=(rZ b 0 q).1 (by rw [Nat.zero_add]; exact hq)
 have hr':=h.reach b 0 p q I (zc h.low 0 p hp) (BP hp) hr (by rw [Nat.zero_add]; exact hv)
 have:I4 n p∈Go.Proofs.YtijpnoadncadoaaGreatDoor.fwd w' 0:=by
  simp only [Go.Proofs.YtijpnoadncadoaaGreatDoor.fwd,cm] at hp ⊢
  subst hp
  rw [h.start]; rfl
 have A:=(rZ b 0 (I4 n q)).2 ⟨_,this,hr'⟩
 rwa [Nat.zero_add] at A
theorem ym.any (h:ym w w' n f) {b:Nat} (hb:b≤w.n) (hm:jK w (Go.Proofs.YtijpnoadncadoaaGreatDoor.fwd w b)=true):jK w' (Go.Proofs.YtijpnoadncadoaaGreatDoor.fwd w' b)=true:=by
 unfold jK at hm ⊢
 obtain ⟨p,hp,A⟩:=List.any_eq_true.1 hm
 exact List.any_eq_true.2 ⟨_,h.fwd hb hp ⟨0,I,p,by simp [gr],A⟩,h.may _ A⟩
theorem ym.pass (h:ym w w' n f) {b:Nat} (hb:b<w.n) {s t:Int} (hp:xz w b s t):xz w' b (f s) (t+n):=by
 obtain ⟨p,hp,o,ho,rfl,⟨D,G⟩,hv⟩:=hp
 have hs:=zc h.low b p hp
 have hl:=h.low b
 have A:sV w (b+1) (dF p.1 (fB o.1),max (p.2+cf w b) o.2.Lo):=xG hv D
 have e:k8 w b p o=some (dF p.1 (fB o.1),max (p.2+cf w b) o.2.Lo):=g8.2 ⟨I,rfl⟩
 have B:sV w b p:=u_ (k:=1) (iI.2 ⟨o,ho,_,e,by simp [gr]⟩) A
 obtain ⟨o',ho',C,E⟩:=h.opt b p o hb hs (BP hp) ho I A
 have c:=(E t I I).1 I
 refine ⟨I4 n p,h.fwd I hp B,o',ho',C,?_,?_⟩
 ·simp only [I4,h.least,h.now]; omega
 ·have F:=h.O2 (b:=b+1) (p:=(dF p.1 (fB o.1),t)) (by simp only; omega) ⟨_,gf.2 ⟨p,hp,o,ho,e⟩,D⟩ hv
  rw [C,h.one]; exact F
theorem Hr (h:ym w w' n f) (h':ym w' w (-n) g):ic w'=ic w:=by
 unfold ic
 rw [h.wn]
 unfold kI
 congr 1
 refine List.filter_congr fun b hb=>?_
 have hb:=List.mem_range.1 hb
 rw [Bool.eq_iff_iff]
 exact ⟨h'.any (by rw [h.wn]; omega),h.any I⟩
theorem Bj (h:ym w w' n f) (hl': ∀ b,0≤cf w' b) {b:Nat} (hb:b<w.n) {s:Int} (hq: ∃ q∈mz w b,q.1=s): ∃ q∈mz w' b,q.1=f s:=by
 obtain ⟨q,hq,e⟩:=hq
 have A:q.2.Lo≤q.2.Hi:=m8 hq
 obtain ⟨q',hq',e',_⟩:=(wv hl' (by rw [h.wn]; exact hb)).2 (h.pass hb ((wv h.low hb).1 ⟨q,hq,e,Int.le_refl _,A⟩))
 exact ⟨q',hq',e'⟩
theorem GQ (h:ym w w' n f) (h':ym w' w (-n) g) {b:Nat} (hb:b<w.n):ua w' b=ua w b:=by
 rw [Bool.eq_iff_iff]
 unfold ua
 simp only [List.any_eq_true,decide_eq_true_eq]
 constructor
 ·rintro ⟨q,hq,A⟩
  obtain ⟨q',hq',e⟩:=Bj h' h.low (by rw [h.wn]; exact hb) ⟨q,hq,rfl⟩
  exact ⟨q',hq',by rw [e]; exact (h'.Tw _).2 A⟩
 ·rintro ⟨q,hq,A⟩
  obtain ⟨q',hq',e⟩:=Bj h h'.low hb ⟨q,hq,rfl⟩
  exact ⟨q',hq',by rw [e]; exact (h.Tw _).2 A⟩
end
section
variable {l l':bj} {r r':cD} {n:Int} {f g:Int→Int}
structure wc (l:bj) (r:cD) (l':bj) (r':cD) (n:Int) (f g:Int→Int):Prop where
 line:dI l=0
 line':dI l'=0
 iJ:eh l r
 ride':eh l' r'
 Nh:l'.aa.length=l.aa.length
 to:ym (cb l r) (cb l' r') n f
 Ui:ym (cb l' r') (cb l r) (-n) g
theorem wc.F9 (h:wc l r l' r' n f g):ic (cb l' r')=ic (cb l r):=Hr h.to h.Ui
theorem wc.e (h:wc l r l' r' n f g) {me:Int}:dN l' r' me=dN l r me:=by
 by_cases hm:me=0
 ·by_cases q:ic (cb l r)=[]
  ·rw [g7 h.line h.iJ hm q,g7 h.line' h.ride' hm (h.F9.trans q)]
  ·rw [lv h.line h.iJ hm q,lv h.line' h.ride' hm (by rw [h.F9]; exact q)]
 ·rw [rf h.line h.iJ hm,rf h.line' h.ride' hm]
theorem wc.CM (h:wc l r l' r' n f g):hP l' r'=hP l r:=by
 by_cases q:dN l r 0=0
 ·rw [ky q,ky (h.e.trans q),h.F9]
 ·rw [nv q,nv (by rw [h.e]; exact q)]
theorem wc.ui (h:wc l r l' r' n f g) {b:Int}:jI l' b=jI l b:=by unfold jI; rw [h.Nh]
theorem wc.bn (h:wc l r l' r' n f g):(cb l r).n=l.aa.length:=cT
theorem wc.eQ (h:wc l r l' r' n f g):tU l' r'=tU l r:=by
 by_cases q:dN l r 0=0
 ·rw [sH q,sH (h.e.trans q),h.CM]
  have hb:=Rn q
  unfold wk
  congr 1
  refine List.filter_congr fun b A=>?_
  have A:=List.mem_range.1 A
  rw [GQ h.to h.Ui (by rw [h.bn]; omega)]
 ·rw [xX q,xX (by rw [h.e]; exact q)]
end
end
section
theorem ng {l:bj} (ht:du l.aL=true) (h:lL l) {i:Nat} (hi:i<l.aa.length):1≤ej l i∧ej l i≤500000000:=by
 have A:=h.NW i hi
 have B:=BY ht h.ui i
 have hf:=h.head.1
 unfold ej oZ
 refine ⟨(Int.le_ediv_iff_mul_le I).2 I,?_⟩
 have:(1000*ly l i+l.eI-1)/l.eI≤1000*ly l i+l.eI-1:=Int.ediv_le_self _ I
 omega
end
section
def dv (good:List Int):aD:=good.foldl (fun t g=>dF t (fB g)) ⟨0,0⟩
theorem j8 {l:List Int} {g:Int}:dv (l++[g])=dF (dv l) (fB g):=by unfold dv; rw [List.foldl_append]; rfl
def tR (r:cD) (times:List Int) (b:Nat):Int:=if b=0 then r.Start else (times[b-1]?).getD 0
theorem qf {r:cD} {times:List Int} {b:Nat} {t:Int} (h:times[b]? =some t):tR r times (b+1)=t:=by unfold tR; rw [if_neg I,Nat.add_sub_cancel,h]; rfl
structure iZ (l:bj) (r:cD) (times good:List Int):Prop where
 iJ:eh l r
 len:good.length=times.length
 le:times.length≤l.aa.length
 step: ∀ (b:Nat) t,times[b]? =some t→tR r times b+ej l b≤t∧t≤r.gd
 sig: ∀ (b:Nat) t g,times[b]? =some t→good[b]? =some g→g= -1∨ ∃ (k:Nat) (s:aG),g=(k:Int)∧r.ab[k]? =some s∧s.fz=(b:Int)∧(cO l s).Lo≤t∧t≤(cO l s).Hi
 Ja:(dv good).eQ≤l.ck
 PI:(r.ab.length:Int)-(dv good).right≤l.dj
section
variable {l:bj} {r:cD} {times good:List Int}
theorem iZ.low (h:iZ l r times good) (hl:dI l=0): ∀ b,0≤cf (cb l r) b:=fun b=>by
 obtain ⟨ht,A⟩:=dY hl
 exact ((lI ht A h.iJ).cf b).1
theorem iZ.least (h:iZ l r times good) {b:Nat} (hb:b<times.length):cf (cb l r) b=ej l b:=by
 have:=h.le
 rw [yA,if_pos I]
theorem iZ.from_ (h:iZ l r times good) (hl:dI l=0): ∀ b:Nat,b≤times.length→r.Start≤tR r times b∧tR r times b≤r.gd:=by
 intro b
 induction b with
 |zero=>intro _; have:=h.iJ.time; unfold tR; rw [if_pos rfl]; omega
 |succ b ih=>
  intro hb
  have ht:times[b]? =some (times[b]'I):=fQ _
  have B:=ih I
  have C:=h.step b _ ht
  have A:=h.low hl b
  rw [h.least I] at A
  rw [qf ht]
  omega
/-- what comes next, in the truth -/
theorem iZ.opt (h:iZ l r times good) (hl:dI l=0) {b:Nat} {t g:Int} (ht:times[b]? =some t) (hg:good[b]? =some g): ∃ o∈iT (cb l r) b,o.1=g∧o.2.Lo≤t∧t≤o.2.Hi:=by
 have hb:=(aY.1 ht).1
 have E:=h.le
 have F:=h.step b t ht
 have G:=h.from_ hl b I
 have B:=h.low hl b
 rw [h.least hb] at B
 rcases h.sig b t g ht hg with rfl|⟨k,s,rfl,hs,A,C,D⟩
 ·exact ⟨(-1,⟨r.Start,r.gd⟩),(rp I).2 (.inl U),U,by simp only; omega,by simp only; omega⟩
 ·exact ⟨((k:Int),cO l s),(rp I).2 (.inr ⟨k,(aY.1 hs).1,s,hs,⟨A,I⟩,U⟩),U,C,D⟩
theorem lZ {α:Type} {l:List α} {b:Nat} {x:α} (h:l[b]? =some x):l.take (b+1)=l.take b++[x]:=by rw [List.take_add_one,h]; rfl
theorem iZ.live (h:iZ l r times good) (hl:dI l=0): ∀ b:Nat,b≤times.length→Co (cb l r) b (dv (good.take b),tR r times b):=by
 intro b
 induction b with
 |zero=>intro _; exact ⟨r.Start,by simp [fwd,dv]; rfl,by unfold tR; rw [if_pos rfl]; exact Int.le_refl _⟩
 |succ b ih=>
  intro hb
  have B:=h.len
  have ht:times[b]? =some (times[b]'I):=fQ _
  have hg:good[b]? =some (good[b]'I):=fQ _
  obtain ⟨v,hv,A⟩:=ih I
  obtain ⟨o,ho,e,C,D⟩:=h.opt hl ht hg
  have E:=h.step b _ ht
  have F:=h.least (b:=b) I
  simp only at A hv
  rw [qf ht,lZ hg,j8,← e]
  refine ⟨max (v+cf (cb l r) b) o.2.Lo,gf.2 ⟨_,hv,o,ho,g8.2 ⟨?_,U⟩⟩,?_⟩
  ·have G:(cb l r).gd=r.gd:=rfl
   simp only; omega
  ·simp only; omega
theorem iZ.O2 (h:iZ l r times good) (hl:dI l=0): ∀ (d b:Nat),b+d=times.length→sV (cb l r) b (dv (good.take b),tR r times b):=by
 intro d
 induction d with
 |zero=>
  intro b hb
  have hn:(cb l r).n=l.aa.length:=cT
  have C:=h.len
  have D:=h.le
  refine ⟨0,I,_,by simp [gr]; rfl,?_⟩
  rw [List.take_of_length_le I]
  unfold kP
  have A:=h.Ja
  have B:=h.PI
  exact c8 ⟨A,B⟩
 |succ d ih=>
  intro b hb
  have C:=h.len
  have ht:times[b]? =some (times[b]'I):=fQ _
  have hg:good[b]? =some (good[b]'I):=fQ _
  obtain ⟨o,ho,e,D,A⟩:=h.opt hl ht hg
  have B:=h.step b _ ht
  have E:=h.least (b:=b) I
  have F:(cb l r).gd=r.gd:=rfl
  have hv:=ih (b+1) I
  rw [qf ht,lZ hg,j8,← e] at hv
  exact u_ (k:=1) (iI.2 ⟨o,ho,_,g8.2 ⟨by first|omega|(simp only; omega),U⟩,by simp [gr]; rfl⟩) (xG hv (by first|omega|(simp only; omega)))
theorem iZ.pass (h:iZ l r times good) (hl:dI l=0) {b:Nat} {t g:Int} (ht:times[b]? =some t) (hg:good[b]? =some g):xz (cb l r) b g t:=by
 have hb:=(aY.1 ht).1
 obtain ⟨v,hv,A⟩:=h.live hl b I
 obtain ⟨o,ho,e,B,C⟩:=h.opt hl ht hg
 have D:=h.step b _ ht
 have E:=h.least (b:=b) hb
 have F:(cb l r).gd=r.gd:=rfl
 have hw:=h.O2 hl (times.length-(b+1)) (b+1) I
 rw [qf ht,lZ hg,j8,← e] at hw
 simp only at A
 exact ⟨_,hv,o,ho,e,⟨by simp only; omega,I⟩,hw⟩
theorem iZ.num (h:iZ l r times good) (hl:dI l=0):(times.length:Int)∈ic (cb l r):=by
 obtain ⟨v,hv,_⟩:=h.live hl times.length (Nat.le_refl _)
 have hn:(cb l r).n=l.aa.length:=cT
 have B:=h.le
 refine ph.2 ⟨times.length,U,I,?_⟩
 unfold jK
 refine List.any_eq_true.2 ⟨_,hv,?_⟩
 have A:=h.len
 rw [List.take_of_length_le I]
 unfold kP
 exact c8 ⟨h.Ja,h.PI⟩
theorem iZ.e (h:iZ l r times good) (hl:dI l=0):dN l r 0=0:=lv hl h.iJ rfl fun e=>by have:=h.num hl; rw [e] at this; cases this
theorem iZ.CM (h:iZ l r times good) (hl:dI l=0):(times.length:Int)∈hP l r:=by rw [ky (h.e hl)]; exact h.num hl
theorem iZ.not_false (h:iZ l r times good) (hl:dI l=0) {b:Nat} {g:Int} (hg:good[b]? =some g) (h0:0≤g): ¬ g∈IJ l r∧ ¬ (b:Int)∈tU l r:=by
 have hb:=(aY.1 hg).1
 have A:=h.len
 have B:=h.le
 have ht:times[b]? =some (times[b]'I):=fQ _
 have hn:(cb l r).n=l.aa.length:=cT
 obtain ⟨q,hq,e,_⟩:=(wv (h.low hl) I).2 (h.pass hl ht hg)
 constructor
 ·rw [Gq (h.e hl)]
  intro hm
  exact (CY.1 hm).2 ⟨b,I,q,hq,e⟩
 ·rw [sH (h.e hl)]
  intro hm
  unfold wk at hm
  obtain ⟨k,hk,ek⟩:=cy.1 hm
  obtain rfl:k=b:=by omega
  have hr:=(List.mem_filter.1 hk).2
  have:ua (cb l r) k=true:=List.any_eq_true.2 ⟨q,hq,c8 I⟩
  rw [this] at hr
  cases hr
end
end
section
def gW (hi:Int→Int) (least:Nat→Int) (now:Int):Nat→List Int→List Int×Int
 |_,[]=>([],now)
 |b,x::xs=>((if 0≤x then min (gW hi least now (b+1) xs).2 (hi x) else (gW hi least now (b+1) xs).2)::(gW hi least now (b+1) xs).1,(if 0≤x then min (gW hi least now (b+1) xs).2 (hi x) else (gW hi least now (b+1) xs).2)-least b)
def gG (t:Int):List Int→Int
 |[]=>t
 |x::xs=>gG x xs
def kg (w:bY):Nat→Int→List Int→List Int→Prop
 |_,_,[],[]=>True
 |b,t,x::rs,y::fs=>(∃ o∈iT w b,o.1=x∧max (t+cf w b) o.2.Lo≤min o.2.Hi w.gd∧y=max (t+cf w b) o.2.Lo)∧kg w (b+1) y rs fs
 |_,_,_,_=>False
section
variable {w:bY} {hi:Int→Int} {least:Nat→Int} {now:Int}
theorem rK: ∀ (b:Nat) (rs:List Int),(gW hi least now b rs).1.length=rs.length
 |_,[]=>rfl
 |b,x::xs=>by simp only [gW,List.length_cons]; rw [rK]
theorem nc: ∀ (t:Int) (fs:List Int) (y:Int),gG t (fs++[y])=y
 |_,[],_=>rfl
 |t,x::fs,y=>nc x fs y
theorem AZ: ∀ (t:Int) (fs:List Int) (y:Int),fs[fs.length-1]? =some y→gG t fs=y
 |t,[],y,h=>by simp at h
 |t,[x],y,h=>by simpa [gG] using h
 |t,x::x2::fs,y,h=>by
  show gG x (x2::fs)=y
  exact AZ x (x2::fs) y (by simpa using h)
theorem tn: ∀ (b:Nat) (rs:List Int) (x:Int) (ss:List Int),(gW hi least now b (rs++x::ss)).1[rs.length]? =some (if 0≤x then min (gW hi least now (b+rs.length+1) ss).2 (hi x) else (gW hi least now (b+rs.length+1) ss).2)
 |b,[],x,ss=>by simp [gW]
 |b,z::rs,x,ss=>by
  have:=tn (b+1) rs x ss
  simp only [List.cons_append,gW,List.length_cons,List.getElem?_cons_succ]
  rw [this,show b+1+rs.length+1=b+(rs.length+1)+1 by omega]
theorem kp: ∀ (b:Nat) (t:Int) (rs fs:List Int),kg w b t rs fs→fs.length=rs.length
 |_,_,[],[],_=>rfl
 |b,t,x::rs,y::fs,h=>by simp [kp _ _ rs fs h.2]
 |_,_,[],_::_,h=>h.elim
 |_,_,_::_,[],h=>h.elim
theorem rL: ∀ (b:Nat) (t:Int) (rs fs ss gs:List Int),fs.length=rs.length→(kg w b t (rs++ss) (fs++gs)↔kg w b t rs fs∧kg w (b+rs.length) (gG t fs) ss gs)
 |b,t,[],[],ss,gs,_=>by simp [kg,gG]
 |b,t,x::rs,y::fs,ss,gs,h=>by
  have ih:=rL (b+1) y rs fs ss gs (by simpa using h)
  simp only [List.cons_append,kg,List.length_cons,gG]
  rw [ih,show b+1+rs.length=b+(rs.length+1) by omega,and_assoc]
 |_,_,[],_::_,_,_,h=>by simp at h
 |_,_,_::_,[],_,_,h=>by simp at h
theorem Cz (b:List Int): ∀ t:aD,b.foldl (fun t g=>dF t (fB g)) t=dF t (dv b):=by
 induction b with
 |nil=>intro t; exact (nu t).symm
 |cons x b ih=>
  intro t
  show b.foldl (fun t g=>dF t (fB g)) (dF t (fB x))=dF t (b.foldl (fun t g=>dF t (fB g)) (dF ⟨0,0⟩ (fB x)))
  rw [ih,ih]; simp only [dF,aD.mk.injEq]; omega
theorem si (a b:List Int):dv (a++b)=dF (dv a) (dv b):=by
 show (a++b).foldl _ _=_
 rw [List.foldl_append,Cz]; rfl
theorem rV:dv []=(⟨0,0⟩:aD):=rfl
theorem qe (l:List Int):dF (⟨0,0⟩:aD) (dv l)=dv l:=by simp [dF]
theorem sR (x:Int) (l:List Int):dv (x::l)=dF (fB x) (dv l):=by
 rw [show x::l=[x]++l from rfl,si,show dv [x]=fB x from (j8 (l:=[])).trans (by rw [rV]; simp [dF])]
theorem tf: ∀ l:List Int,0≤(dv l).right∧0≤(dv l).eQ∧(dv l).right+(dv l).eQ=(l.length:Int)
 |[]=>by rw [rV]; simp
 |x::l=>by
  rw [sR]
  have:=uL x
  have:=tf l
  simp only [dF,List.length_cons]
  omega
/-- chains are what the watch goes through -/
theorem j5: ∀ (k b:Nat) (p q:aD×Int),q∈gr w k b p↔ ∃ rs fs,rs.length=k∧kg w b p.2 rs fs∧q=(dF p.1 (dv rs),gG p.2 fs):=by
 intro k
 induction k with
 |zero=>
  intro b p q
  simp only [gr,cm]
  constructor
  ·rintro rfl; exact ⟨[],[],rfl,trivial,by rw [rV,nu]; rfl⟩
  ·rintro ⟨rs,fs,A,B,rfl⟩
   have A:=ir A
   subst A
   have:=ir (kp _ _ _ _ B)
   subst this
   rw [rV,nu]; rfl
 |succ k ih=>
  intro b p q
  rw [iI]
  constructor
  ·rintro ⟨o,ho,p',e,h⟩
   obtain ⟨A,rfl⟩:=g8.1 e
   obtain ⟨rs,fs,B,C,rfl⟩:=(ih _ _ _).1 h
   refine ⟨o.1::rs,max (p.2+cf w b) o.2.Lo::fs,by simp [B],⟨⟨o,ho,U,A,U⟩,C⟩,?_⟩
   rw [sR]
   simp only [gG,dF,Prod.mk.injEq,aD.mk.injEq,and_true]; omega
  ·rintro ⟨rs,fs,A,B,rfl⟩
   cases rs with
   |nil=>simp at A
   |cons x rs=>
    cases fs with
    |nil=>exact B.elim
    |cons y fs=>
     obtain ⟨⟨o,ho,rfl,C,rfl⟩,D⟩:=B
     refine ⟨o,ho,_,g8.2 ⟨C,U⟩,(ih _ _ _).2 ⟨rs,fs,by simpa using A,D,?_⟩⟩
     rw [sR]
     simp only [gG,dF,Prod.mk.injEq,aD.mk.injEq,and_true]; omega
/-- what the reference's rows of last times know -/
structure Jw (w:bY) (hi:Int→Int) (least:Nat→Int) (now:Int):Prop where
 low: ∀ b,0≤cf w b
 least: ∀ b,b<w.n→least b=cf w b
 now:now=w.gd
 hi: ∀ b o,b<w.n→o∈iT w b→0≤o.1→o.2.Hi=hi o.1
 none_: ∀ b o,b<w.n→o∈iT w b→ ¬ 0≤o.1→o.2.Hi=w.gd
theorem wS (h:Jw w hi least now): ∀ (b:Nat) (rs:List Int),b+rs.length≤w.n→(gW hi least now b rs).2≤w.gd
 |_,[],_=>by simp only [gW]; exact Int.le_of_eq h.now
 |b,x::xs,hb=>by
  simp only [List.length_cons] at hb
  have B:=wS h (b+1) xs I
  have A:=h.low b
  rw [← h.least b I] at A
  simp only [gW]
  split<;>omega
theorem r8 (h:Jw w hi least now): ∀ (b:Nat) (t:Int) (rs fs:List Int),b+rs.length≤w.n→t≤w.gd→kg w b t rs fs→t≤(gW hi least now b rs).2
 |_,t,[],[],_,ht,_=>by simp only [gW]; rw [h.now]; exact ht
 |b,t,x::rs,y::fs,hb,ht,hc=>by
  simp only [List.length_cons] at hb
  obtain ⟨⟨o,ho,rfl,D,rfl⟩,A⟩:=hc
  have B:=r8 h (b+1) _ rs fs I I A
  have C:=h.least b I
  simp only [gW]
  split
  ·rename_i q
   have:=h.hi b o I ho q
   omega
  ·omega
 |_,_,[],_::_,_,_,hc=>hc.elim
 |_,_,_::_,[],_,_,hc=>hc.elim
theorem wO (h:Jw w hi least now): ∀ (b:Nat) (t t':Int) (rs fs:List Int),b+rs.length≤w.n→t≤t'→t'≤(gW hi least now b rs).2→kg w b t rs fs→ ∃ gs,kg w b t' rs gs
 |_,t,_,[],[],_,_,_,_=>⟨[],trivial⟩
 |b,t,t',x::rs,y::fs,hb,ht,he,hc=>by
  simp only [List.length_cons] at hb
  obtain ⟨⟨o,ho,rfl,E,rfl⟩,A⟩:=hc
  have C:=r8 h (b+1) _ rs fs I I A
  have D:=h.least b I
  have F:=wS h (b+1) rs I
  simp only [gW] at he
  have B:max (t'+cf w b) o.2.Lo≤min o.2.Hi w.gd∧max (t'+cf w b) o.2.Lo≤(gW hi least now (b+1) rs).2:=by
   split at he
   ·rename_i q
    have:=h.hi b o I ho q
    omega
   ·rename_i q
    have:=h.none_ b o I ho q
    omega
  obtain ⟨gs,hg⟩:=wO h (b+1) _ (max (t'+cf w b) o.2.Lo) rs fs I I B.2 A
  exact ⟨_::gs,⟨o,ho,U,B.1,U⟩,hg⟩
 |_,_,_,[],_::_,_,_,_,hc=>hc.elim
 |_,_,_,_::_,[],_,_,_,hc=>hc.elim
theorem B1 (b:Nat) (t t':Int) (rs fs:List Int) (ht:t'≤t) (hc:kg w b t rs fs): ∃ gs,kg w b t' rs gs:=by
 have A:(dF ⟨0,0⟩ (dv rs),gG t fs)∈gr w rs.length b (⟨0,0⟩,t):=(j5 _ _ _ _).2 ⟨rs,fs,rfl,hc,rfl⟩
 clear A
 induction rs generalizing b t t' fs with
 |nil=>exact ⟨[],trivial⟩
 |cons x rs ih=>
  cases fs with
  |nil=>exact hc.elim
  |cons y fs=>
   obtain ⟨⟨o,ho,rfl,C,rfl⟩,B⟩:=hc
   obtain ⟨gs,hg⟩:=ih (b+1) _ (max (t'+cf w b) o.2.Lo) fs I B
   exact ⟨_::gs,⟨o,ho,U,I,U⟩,hg⟩
/-- a way, as it is asked for -/
structure Ni (w:bY) (hi:Int→Int) (least:Nat→Int) (now:Int) (y:dy):Prop where
 chain:kg w 0 w.Start y.gO y.jc
 len:y.gO.length≤w.n
 last:y.l3=(gW hi least now 0 y.gO).1
 may:kP w (dv y.gO)=true
theorem AI {k:Nat}:jK w (fwd w k)=true↔ ∃ rs fs,rs.length=k∧kg w 0 w.Start rs fs∧kP w (dv rs)=true:=by
 unfold jK
 rw [List.any_eq_true]
 have e:=fun q=>(rZ (w:=w) k 0 q)
 rw [Nat.zero_add] at e
 constructor
 ·rintro ⟨q,hq,hm⟩
  obtain ⟨p,hp,h⟩:=(e q).1 hq
  simp only [fwd,cm] at hp
  subst hp
  obtain ⟨rs,fs,A,B,rfl⟩:=(j5 _ _ _ _).1 h
  refine ⟨rs,fs,A,B,?_⟩
  rwa [qe] at hm
 ·rintro ⟨rs,fs,A,B,C⟩
  refine ⟨_,(e _).2 ⟨((⟨0,0⟩:aD),w.Start),cm.2 U,(j5 _ _ _ _).2 ⟨rs,fs,A,B,U⟩⟩,?_⟩
  simp only [qe]; exact C
theorem Jf (h:Jw w hi least now) (hs:w.Start≤w.gd) {b:Nat} (hb:b<w.n) {s t:Int}:xz w b s t↔ ∃ y,Ni w hi least now y∧ ∃ f e,y.gO[b]? =some s∧y.jc[b]? =some f∧y.l3[b]? =some e∧f≤t∧t≤e:=by
 have ef:=fun q=>(rZ (w:=w) b 0 q)
 rw [Nat.zero_add] at ef
 constructor
 ·rintro ⟨p,hp,o,ho,rfl,⟨C,L⟩,k,hk,q,hq,hm⟩
  obtain ⟨Y,AB,hp⟩:=(ef p).1 hp
  simp only [fwd,cm] at AB
  subst AB
  obtain ⟨rs,fs,K,D,rfl⟩:=(j5 _ _ _ _).1 hp
  obtain ⟨ss,gs,AA,E,rfl⟩:=(j5 _ _ _ _).1 hq
  simp only at C L D E hm
  obtain ⟨gs',J⟩:=B1 (b+1) t (max (gG w.Start fs+cf w b) o.2.Lo) ss gs C E
  have H:=kp _ _ _ _ D
  have T:=kp _ _ _ _ J
  have hc:kg w 0 w.Start (rs++o.1::ss) (fs++max (gG w.Start fs+cf w b) o.2.Lo::gs'):=(rL _ _ _ _ _ _ H).2 ⟨D,by rw [Nat.zero_add,K]; exact ⟨⟨o,ho,rfl,I,rfl⟩,J⟩⟩
  have he:=r8 h (b+1) t ss gs I I E
  have A:=tn (hi:=hi) (least:=least) (now:=now) 0 rs o.1 ss
  rw [Nat.zero_add,K] at A
  refine ⟨⟨rs++o.1::ss,fs++max (gG w.Start fs+cf w b) o.2.Lo::gs',(gW hi least now 0 (rs++o.1::ss)).1⟩,⟨hc,by simp; omega,U,?_⟩,max (gG w.Start fs+cf w b) o.2.Lo,_,?_,?_,A,C,?_⟩
  ·show kP w (dv (rs++o.1::ss))=true
   rw [show rs++o.1::ss=(rs++[o.1])++ss by simp,si,j8]
   rwa [qe] at hm
  ·show (rs++o.1::ss)[b]? =some o.1
   rw [List.getElem?_append_right I,K,Nat.sub_self]; rfl
  ·show (fs++_::gs')[b]? =_
   rw [List.getElem?_append_right I,H,K,Nat.sub_self]; rfl
  ·split
   ·rename_i q
    have:=h.hi b o hb ho q
    omega
   ·exact he
 ·rintro ⟨y,hy,f,e,C,L,P,Q,V⟩
  obtain ⟨R,F,La⟩:=y
  obtain ⟨hc,hn,A,hm⟩:=hy
  simp only at C L P hc hn A hm
  have N:=(aY.1 C).1
  have S:=kp _ _ _ _ hc
  have eR:R=R.take b++s::R.drop (b+1):=by rw [← (aY.1 C).2]; exact (List.take_append_drop b R).symm.trans (by rw [List.drop_eq_getElem_cons N])
  have M:b<F.length:=by omega
  have eF:F=F.take b++f::F.drop (b+1):=by rw [← (aY.1 L).2]; exact (List.take_append_drop b F).symm.trans (by rw [List.drop_eq_getElem_cons M])
  rw [eR,eF,rL _ _ _ _ _ _ (by simp only [List.length_take]; omega)] at hc
  have O:(R.take b).length=b:=by rw [List.length_take]; omega
  rw [O,Nat.zero_add] at hc
  obtain ⟨D,⟨o,ho,rfl,W,rfl⟩,E⟩:=hc
  have B:=tn (hi:=hi) (least:=least) (now:=now) 0 (R.take b) o.1 (R.drop (b+1))
  rw [← eR,O,Nat.zero_add,← A,P] at B
  have B:=Option.some.inj B
  have G:t≤(gW hi least now (b+1) (R.drop (b+1))).2∧t≤min o.2.Hi w.gd:=by
   have X:=wS h (b+1) (R.drop (b+1)) (by rw [List.length_drop]; omega)
   split at B
   ·rename_i q
    have:=h.hi b o hb ho q
    omega
   ·rename_i q
    have:=h.none_ b o hb ho q
    omega
  obtain ⟨gs,J⟩:=wO h (b+1) _ t (R.drop (b+1)) (F.drop (b+1)) (by rw [List.length_drop]; omega) Q G.1 E
  refine ⟨(dF ⟨0,0⟩ (dv (R.take b)),gG w.Start (F.take b)),(ef _).2 ⟨((⟨0,0⟩:aD),w.Start),cm.2 U,(j5 _ _ _ _).2 ⟨_,_,O,D,U⟩⟩,o,ho,U,⟨Q,G.2⟩,(R.drop (b+1)).length,by rw [List.length_drop]; omega,_,(j5 _ _ _ _).2 ⟨_,gs,U,J,U⟩,?_⟩
  show kP w (dF (dF (dF ⟨0,0⟩ (dv (R.take b))) (fB o.1)) (dv (R.drop (b+1))))=true
  rw [qe,← j8,← si,show R.take b++[o.1]++R.drop (b+1)=R from by rw [List.append_assoc]; exact eR.symm]
  exact hm
end
noncomputable def Kv (l:bj) (r:cD) (x:Int):Int:=match r.ab[x.toNat]? with
 |some s=>(cO l s).Hi
 |none=>0
theorem CE {l:bj} {r:cD} {x:Int} {s:aG} (h:r.ab[x.toNat]? =some s):Kv l r x=(cO l s).Hi:=by unfold Kv; rw [h]
noncomputable def jN (l:bj) (r:cD) (rs:List Int):List Int:=(gW (Kv l r) (ej l) r.gd 0 rs).1
noncomputable def pC (l:bj) (r:cD) (n:Nat) (t i:Int):Option Int:=
 if i<0 then (if t≤r.gd then some t else none) else match r.ab[i.toNat]? with
  |some s=>if (s.fz=(n:Int)∧(cO l s).Lo≤(cO l s).Hi)∧max t (cO l s).Lo≤min r.gd (cO l s).Hi then some (max t (cO l s).Lo) else none
  |none=>none
noncomputable def hZ (l:bj) (r:cD) (rs fs:List Int):List dy:=if (r.ab.length:Int)-(dv rs).right≤l.dj then [⟨rs,fs,jN l r rs⟩] else []
noncomputable def iG (l:bj) (r:cD):Nat→List Int→List Int→List dy
 |0,rs,fs=>if l.ck<(dv rs).eQ then [] else hZ l r rs fs
 |k+1,rs,fs=>if l.ck<(dv rs).eQ then [] else hZ l r rs fs++(List.range (r.ab.length+1)).flatMap fun (j:Nat)=>match pC l r rs.length (gG r.Start fs+ej l rs.length) ((j:Int)-1) with
  |some t=>iG l r k (rs++[(j:Int)-1]) (fs++[t])
  |none=>[]
noncomputable def DQ (l:bj) (r:cD) (k:Nat) (rs fs:List Int) (j:Nat):List dy:=hZ l r rs fs++(List.range j).flatMap fun (j:Nat)=>match pC l r rs.length (gG r.Start fs+ej l rs.length) ((j:Int)-1) with
 |some t=>iG l r k (rs++[(j:Int)-1]) (fs++[t])
 |none=>[]
noncomputable def iP (l:bj) (r:cD) (k:Nat) (rs fs:List Int) (j:Nat):List dy:=(List.range j).flatMap fun (j:Nat)=>match pC l r rs.length (gG r.Start fs+ej l rs.length) ((j:Int)-1) with
 |some t=>iG l r k (rs++[(j:Int)-1]) (fs++[t])
 |none=>[]
section
variable {l:bj} {r:cD} {k j:Nat} {rs fs:List Int} {t:Int}
theorem rR:DQ l r k rs fs j=hZ l r rs fs++iP l r k rs fs j:=rfl
theorem nt (h:pC l r rs.length (gG r.Start fs+ej l rs.length) ((j:Int)-1)=some t):iP l r k rs fs (j+1)=iP l r k rs fs j++iG l r k (rs++[(j:Int)-1]) (fs++[t]):=by
 unfold iP; rw [List.range_succ,List.flatMap_append]; simp [h]
theorem qZ (h:pC l r rs.length (gG r.Start fs+ej l rs.length) ((j:Int)-1)=none):iP l r k rs fs (j+1)=iP l r k rs fs j:=by
 unfold iP; rw [List.range_succ,List.flatMap_append]; simp [h]
theorem nT (h:l.ck<(dv rs).eQ):iG l r k rs fs=[]:=by cases k<;>exact if_pos h
theorem nJ (h: ¬ l.ck<(dv rs).eQ):iG l r 0 rs fs=hZ l r rs fs:=if_neg h
theorem n9 (h: ¬ l.ck<(dv rs).eQ):iG l r (k+1) rs fs=DQ l r k rs fs (r.ab.length+1):=if_neg h
theorem BV {n:Nat} (hn:n<l.aa.length) (hl:0≤ej l n) (ht:r.Start≤t) {i y:Int} (hi: -1≤i):pC l r n (t+ej l n) i=some y↔ ∃ o∈iT (cb l r) n,o.1=i∧max (t+cf (cb l r) n) o.2.Lo≤min o.2.Hi (cb l r).gd∧y=max (t+cf (cb l r) n) o.2.Lo:=by
 rw [pU hn]
 have hw:(cb l r).gd=r.gd:=rfl
 unfold pC
 constructor
 ·intro h
  split at h
  ·rename_i B
   split at h
   ·cases h
    exact ⟨(-1,⟨r.Start,r.gd⟩),(rp hn).2 (.inl U),by simp only; omega,by simp only; omega,by simp only; omega⟩
   ·cases h
  ·rename_i B
   split at h
   ·rename_i s hs
    split at h
    ·rename_i q
     cases h
     exact ⟨((i.toNat:Nat),cO l s),(rp hn).2 (.inr ⟨i.toNat,(aY.1 hs).1,s,hs,q.1,U⟩),by simp only; omega,by simp only; omega,U⟩
    ·cases h
   ·cases h
 ·rintro ⟨o,ho,rfl,A,rfl⟩
  rcases (rp hn).1 ho with rfl|⟨k,hk,s,hs,q,rfl⟩
  ·simp only at A ⊢
   rw [if_pos I,if_pos I]
   congr 1; omega
  ·simp only at A ⊢
   rw [if_neg I,Int.toNat_natCast,hs]
   simp only
   rw [if_pos ⟨q,I⟩]
theorem HJ (hl: ∀ n,n<l.aa.length→0≤ej l n): ∀ (k:Nat) (rs fs:List Int) (y:dy),rs.length+k=l.aa.length→fs.length=rs.length→r.Start≤gG r.Start fs→
 (y∈iG l r k rs fs↔ ∃ ss gs,kg (cb l r) rs.length (gG r.Start fs) ss gs∧ss.length≤k∧y=⟨rs++ss,fs++gs,jN l r (rs++ss)⟩∧kP (cb l r) (dv (rs++ss))=true):=by
 have D: ∀ (rs fs:List Int) (y:dy),¬ l.ck<(dv rs).eQ→(y∈hZ l r rs fs↔y=⟨rs++[],fs++[],jN l r (rs++[])⟩∧kP (cb l r) (dv (rs++[]))=true):=by
  intro rs fs y hm
  unfold hZ
  rw [List.append_nil,List.append_nil]
  have e:kP (cb l r) (dv rs)=true↔(r.ab.length:Int)-(dv rs).right≤l.dj:=by
   unfold kP
   rw [decide_eq_true_eq]
   exact ⟨fun q=>q.2,fun q=>⟨by have:(cb l r).ck=l.ck:=rfl; omega,q⟩⟩
  split
  ·rename_i q
   rw [cm]
   exact ⟨fun h=>⟨h,e.2 q⟩,fun h=>h.1⟩
  ·rename_i q
   exact ⟨fun h=>(by cases h),fun h=>absurd (e.1 h.2) q⟩
 have Ja: ∀ (rs ss:List Int),l.ck<(dv rs).eQ→ ¬ kP (cb l r) (dv (rs++ss))=true:=by
  intro rs ss h q
  unfold kP at q
  have:=(of_decide_eq_true q).1
  rw [si] at this
  have C:=tf ss
  simp only [dF] at this
  have:(cb l r).ck=l.ck:=rfl
  omega
 intro k
 induction k with
 |zero=>
  intro rs fs y hn hf hs
  by_cases hm:l.ck<(dv rs).eQ
  ·rw [nT hm]
   exact ⟨fun h=>(by cases h),fun ⟨ss,gs,_,_,_,q⟩=>absurd q (Ja rs ss hm)⟩
  ·rw [nJ hm,D _ _ _ hm]
   constructor
   ·rintro ⟨B,C⟩; exact ⟨[],[],trivial,sm,B,C⟩
   ·rintro ⟨ss,gs,B,C,E,F⟩
    have e:=ir (Nat.le_zero.1 C)
    subst e
    have e:=ir (kp _ _ _ _ B)
    subst e
    exact ⟨E,F⟩
 |succ k ih=>
  intro rs fs y hn hf hs
  by_cases hm:l.ck<(dv rs).eQ
  ·rw [nT hm]
   exact ⟨fun h=>(by cases h),fun ⟨ss,gs,_,_,_,q⟩=>absurd q (Ja rs ss hm)⟩
  ·rw [n9 hm]
   unfold DQ
   rw [g0,D _ _ _ hm,List.mem_flatMap]
   have A: ∀ (x y:Int),(rs++[x]).length+k=l.aa.length∧(fs++[y]).length=(rs++[x]).length:=fun x y=>by simp; omega
   constructor
   ·rintro (⟨B,C⟩|⟨j,hj,h⟩)
    ·exact ⟨[],[],trivial,sm,B,C⟩
    ·cases e:pC l r rs.length (gG r.Start fs+ej l rs.length) ((j:Int)-1) with
     |none=>rw [e] at h; cases h
     |some t=>
      rw [e] at h
      simp only at h
      obtain ⟨o,ho,B,C,E⟩:=(BV I (hl _ I) hs I).1 e
      have G:r.Start≤t:=by
       have:=hl rs.length I
       rw [pU I] at E
       omega
      obtain ⟨ss,gs,F,J,H,AA⟩:=(ih _ _ y (A _ t).1 (A _ t).2 (by rw [nc]; exact G)).1 h
      rw [nc,List.length_append] at F
      refine ⟨((j:Int)-1)::ss,t::gs,⟨⟨o,ho,B,C,E⟩,F⟩,by simp; omega,by simpa using H,by simpa using AA⟩
   ·rintro ⟨ss,gs,B,C,E,F⟩
    cases ss with
    |nil=>
     have e:=ir (kp _ _ _ _ B)
     subst e
     exact .inl ⟨E,F⟩
    |cons x ss=>
     cases gs with
     |nil=>exact B.elim
     |cons t gs=>
      obtain ⟨⟨o,ho,rfl,J,H⟩,AA⟩:=B
      right
      have hx: -1≤o.1∧o.1<(r.ab.length:Int):=by
       rcases (rp I).1 ho with rfl|⟨k,hk,s,hs,q,rfl⟩
       ·simp only; omega
       ·simp only; omega
      have G:r.Start≤t:=by
       have:=hl rs.length I
       rw [pU I] at H
       omega
      have K:((o.1+1).toNat:Int)-1=o.1:=by omega
      refine ⟨(o.1+1).toNat,List.mem_range.2 I,?_⟩
      rw [K,(BV I (hl _ I) hs I).2 ⟨o,ho,rfl,J,H⟩]
      simp only
      refine (ih _ _ y (A _ t).1 (A _ t).2 (by rw [nc]; exact G)).2 ⟨ss,gs,?_,?_,?_,?_⟩
      ·rw [nc,List.length_append]; exact AA
      ·simp only [List.length_cons] at C; omega
      ·simpa using E
      ·simpa using F
end
theorem yS {l:bj} {r:cD} {rs fs:List Int} (h:(r.ab.length:Int)-(dv rs).right≤l.dj):hZ l r rs fs=[⟨rs,fs,jN l r rs⟩]:=if_pos h
theorem wW {l:bj} {r:cD} {rs fs:List Int} (h: ¬ (r.ab.length:Int)-(dv rs).right≤l.dj):hZ l r rs fs=[]:=if_neg h
noncomputable def eP (l:bj) (r:cD) (i:Nat):List ag:=(r.ab.take i).map (cO l)
noncomputable def fp (l:bj) (r:cD) (i:Nat):List Bool:=(r.ab.take i).map fun s=>decide ((cO l s).Lo≤(cO l s).Hi)
section
variable {l:bj} {r:cD} {i n:Nat} {s:aG} {rs:List Int}
theorem DC (h:r.ab[i]? =some s):eP l r (i+1)=eP l r i++[cO l s]:=by unfold eP; rw [List.take_add_one,h,List.map_append]; rfl
theorem Da (h:r.ab[i]? =some s):fp l r (i+1)=fp l r i++[decide ((cO l s).Lo≤(cO l s).Hi)]:=by unfold fp; rw [List.take_add_one,h,List.map_append]; rfl
theorem rH (h:i≤r.ab.length):(eP l r i).length=i:=by unfold eP; rw [List.length_map,List.length_take]; omega
theorem uS (h:i≤r.ab.length):(fp l r i).length=i:=by unfold fp; rw [List.length_map,List.length_take]; omega
theorem HT {k:Nat} {z:ag} (hs:r.ab[k]? =some s) (hz:(eP l r r.ab.length)[k]? =some z):z=cO l s:=by
 unfold eP at hz
 rw [List.take_length,fO,hs] at hz
 exact (Option.some.inj hz).symm
theorem Iv {k:Nat} {z:ag} (hz:(eP l r r.ab.length)[k]? =some z): ∃ s,r.ab[k]? =some s∧z=cO l s:=by
 unfold eP at hz
 rw [List.take_length,fO] at hz
 cases h:r.ab[k]? with
 |none=>rw [h] at hz; cases hz
 |some s=>rw [h] at hz; exact ⟨s,rfl,(Option.some.inj hz).symm⟩
theorem AK {k:Nat} {z:Bool} (hs:r.ab[k]? =some s) (hz:(fp l r r.ab.length)[k]? =some z):z=true↔(cO l s).Lo≤(cO l s).Hi:=by
 unfold fp at hz
 rw [List.take_length,fO,hs] at hz
 rw [← Option.some.inj hz]
 exact decide_eq_true_iff
theorem xE (l:bj) (s:aG):(0≤(cO l s).Lo∧(cO l s).Lo≤86400001)∧ -1≤(cO l s).Hi∧(cO l s).Hi≤86400000:=by
 have A:=iL (p:=gJ (ql l s) s.Read) (n:=86400001)
 have B:=iL (p:=gI (ql l s) s.Read) (n:=86400001)
 unfold cO rr
 simp only
 omega
/-- the last times from a beam on -/
noncomputable def jW (l:bj) (r:cD) (rs:List Int) (j:Nat):List Int×Int:=gW (Kv l r) (ej l) r.gd j (rs.drop j)
noncomputable def j0 (l:bj) (r:cD) (rs:List Int) (j:Nat):List Int:=List.replicate j 0++(jW l r rs j).1
noncomputable def tS (l:bj) (r:cD) (rs:List Int) (j:Nat) (x:Int):Int:=if 0≤x then min (jW l r rs j).2 (Kv l r x) else (jW l r rs j).2
theorem vt:jW l r rs rs.length=([],r.gd):=by unfold jW; rw [List.drop_length]; rfl
theorem F5:j0 l r rs rs.length=List.replicate rs.length 0:=by unfold j0; rw [vt]; simp
theorem CJ:j0 l r rs 0=jN l r rs:=by unfold j0 jW jN; simp
theorem qb {j:Nat} {x:Int} (hj:0<j) (hx:rs[j-1]? =some x):jW l r rs (j-1)=(tS l r rs j x::(jW l r rs j).1,tS l r rs j x-ej l (j-1)):=by
 unfold jW tS
 have hb:=(aY.1 hx).1
 rw [List.drop_eq_getElem_cons hb,(aY.1 hx).2,show j-1+1=j by omega]
 simp only [gW]
 rw [show j-1+1=j by omega]
 rfl
theorem GA {j:Nat} (h:j≤rs.length):(j0 l r rs j).length=rs.length:=by unfold j0 jW; rw [List.length_append,List.length_replicate,rK,List.length_drop]; omega
theorem yu {j:Nat} {x:Int} (hj:0<j) (hx:rs[j-1]? =some x):(j0 l r rs j).set (j-1) (tS l r rs j x)=j0 l r rs (j-1):=by
 unfold j0
 rw [qb hj hx]
 simp only
 obtain ⟨k,rfl⟩: ∃ k,j=k+1:=⟨j-1,I⟩
 rw [Nat.add_sub_cancel,List.replicate_succ',List.append_assoc,List.set_append_right _ _ sm,List.length_replicate,Nat.sub_self]
 rfl
theorem EE (hr:0≤r.gd∧r.gd≤86400000) (hl: ∀ b,b<rs.length→0≤ej l b∧ej l b≤500000000) (hrs: ∀ x∈rs,0≤x→x<(r.ab.length:Int)): ∀ (d j:Nat),j+d=rs.length→(-1-500000000*(d:Int))≤(jW l r rs j).2∧(jW l r rs j).2≤86400000
 |0,j,h=>by
  obtain rfl:j=rs.length:=by omega
  rw [vt]; simp only; omega
 |d+1,j,h=>by
  have ih:=EE hr hl hrs d (j+1) I
  have hx:rs[j+1-1]? =some (rs[j]'I):=by rw [Nat.add_sub_cancel]; exact fQ _
  have e:=qb (l:=l) (r:=r) (j:=j+1) I hx
  rw [Nat.add_sub_cancel] at e
  rw [e]
  simp only
  have A:=hl j I
  unfold tS
  split
  ·rename_i q
   have B:=hrs _ (List.getElem_mem (by omega:j<rs.length)) q
   obtain ⟨s,hs⟩: ∃ s,r.ab[(rs[j]'I).toNat]? =some s:=⟨r.ab[(rs[j]'I).toNat]'I,fQ _⟩
   rw [CE hs]
   have C:=xE l s
   omega
  ·omega
theorem IK {t i:Int} (hi:i<0):(t≤r.gd→pC l r n t i=some t)∧(¬ t≤r.gd→pC l r n t i=none):=by
 unfold pC; rw [if_pos hi]; exact ⟨fun h=>if_pos h,fun h=>if_neg h⟩
theorem Hq {t i:Int} (hi: ¬ i<0) (hs:r.ab[i.toNat]? =some s) (hb:s.fz=(n:Int)) (hw:(cO l s).Lo≤(cO l s).Hi):(max t (cO l s).Lo≤min r.gd (cO l s).Hi→pC l r n t i=some (max t (cO l s).Lo))∧(¬ max t (cO l s).Lo≤min r.gd (cO l s).Hi→pC l r n t i=none):=by
 unfold pC; rw [if_neg hi,hs]
 exact ⟨fun h=>if_pos ⟨⟨hb,hw⟩,h⟩,fun h=>if_neg fun q=>h q.2⟩
theorem xJ {t i:Int} (hi: ¬ i<0) (hs:r.ab[i.toNat]? =some s) (hb: ¬ (s.fz=(n:Int)∧(cO l s).Lo≤(cO l s).Hi)):pC l r n t i=none:=by
 unfold pC; rw [if_neg hi,hs]
 exact if_neg fun q=>hb q.1
theorem ti {x:Int} (hx:rs[i]? =some x):(dv (rs.take (i+1))).right=(dv (rs.take i)).right+(if 0≤x then 1 else 0):=by
 rw [lZ hx,j8]
 unfold fB
 simp only [dF]
 by_cases h:x<0
 ·rw [if_pos h,if_neg I]
 ·rw [if_neg h,if_pos I]
end
theorem wF {l:bj} {r:cD} {rs fs:List Int}:(hZ l r rs fs).length≤1:=by unfold hZ; split<;>simp
theorem wT {l:bj} {r:cD} (hr:r.ab.length≤10): ∀ (k:Nat) (rs fs:List Int),(iG l r k rs fs).length≤12^(k+1)
 |0,rs,fs=>by
  unfold iG
  split
  ·simp
  ·have:=wF (l:=l) (r:=r) (rs:=rs) (fs:=fs); omega
 |k+1,rs,fs=>by
  unfold iG
  split
  ·simp
  ·rw [List.length_append]
   have B:=wF (l:=l) (r:=r) (rs:=rs) (fs:=fs)
   have A: ∀ j,(iP l r k rs fs j).length≤j*12^(k+1):=by
    intro j
    induction j with
    |zero=>simp [iP]
    |succ j ih=>
     cases e:pC l r rs.length (gG r.Start fs+ej l rs.length) ((j:Int)-1) with
     |none=>rw [qZ e,Nat.succ_mul]; exact Nat.le_trans ih (Nat.le_add_right _ _)
     |some t=>rw [nt e,List.length_append,Nat.succ_mul]; exact Nat.add_le_add ih (wT hr k (rs++[(j:Int)-1]) (fs++[t]))
   have C:=A (r.ab.length+1)
   have D:(r.ab.length+1)*12^(k+1)≤11*12^(k+1):=Nat.mul_le_mul_right _ I
   have E:0<12^(k+1):=Nat.pow_pos dc
   have F:12^(k+1+1)=12*12^(k+1):=by rw [Nat.pow_succ,Nat.mul_comm]
   show (hZ l r rs fs).length+(iP l r k rs fs (r.ab.length+1)).length≤_
   omega
theorem JG {l:bj} {r:cD} (hr:r.ab.length≤10) {k j:Nat} {rs fs:List Int} (hk:k≤5) (hj:j≤11):(iP l r k rs fs j).length≤40000000:=by
 have A: ∀ j,(iP l r k rs fs j).length≤j*12^(k+1):=by
  intro j
  induction j with
  |zero=>simp [iP]
  |succ j ih=>
   cases e:pC l r rs.length (gG r.Start fs+ej l rs.length) ((j:Int)-1) with
   |none=>rw [qZ e,Nat.succ_mul]; exact Nat.le_trans ih (Nat.le_add_right _ _)
   |some t=>rw [nt e,List.length_append,Nat.succ_mul]; exact Nat.add_le_add ih (wT hr k (rs++[(j:Int)-1]) (fs++[t]))
 have C:=A j
 have B:12^(k+1)≤12^6:=Nat.pow_le_pow_right dc I
 have D:j*12^(k+1)≤11*12^6:=Nat.mul_le_mul hj B
 omega
theorem uX {l:bj} {r:cD} (hr:r.ab.length≤10) {k:Nat} {rs fs:List Int} (hk:k≤6):(iG l r k rs fs).length≤40000000:=by
 have A:=wT hr k rs fs (l:=l)
 have B:12^(k+1)≤12^7:=Nat.pow_le_pow_right dc I
 omega
noncomputable def qB (l:bj) (r:cD):List dy:=iG l r l.aa.length [] []
section
variable {l:bj} {r:cD}
theorem mq:(cb l r).n=l.aa.length:=cT
theorem MR (hle:dI l=0) (hr:eh l r):Jw (cb l r) (Kv l r) (ej l) r.gd:=by
 obtain ⟨ht,B⟩:=dY hle
 refine ⟨fun b=>((lI ht B hr).cf b).1,fun b hb=>(pU (by rw [mq] at hb; exact hb)).symm,U,fun b o hb ho A=>?_,fun b o hb ho A=>?_⟩
 ·rw [mq] at hb
  rcases (rp hb).1 ho with rfl|⟨k,hk,s,hs,q,rfl⟩
  ·simp only at A; omega
  ·exact (CE (by simpa using hs)).symm
 ·rw [mq] at hb
  rcases (rp hb).1 ho with rfl|⟨k,hk,s,hs,q,rfl⟩
  ·rfl
  ·simp only at A; omega
theorem p6 (hle:dI l=0) (hr:eh l r) {y:dy}:y∈qB l r↔Ni (cb l r) (Kv l r) (ej l) r.gd y:=by
 obtain ⟨ht,D⟩:=dY hle
 have hl: ∀ n,n<l.aa.length→0≤ej l n:=fun n hn=>by have:=ng ht D (i:=n) hn; omega
 unfold qB
 rw [HJ hl _ _ _ _ sm rfl (Int.le_refl _)]
 constructor
 ·rintro ⟨ss,gs,B,A,rfl,C⟩
  exact ⟨B,by rw [mq]; exact A,U,C⟩
 ·rintro ⟨B,A,E,C⟩
  rw [mq] at A
  exact ⟨y.gO,y.jc,B,A,by rw [List.nil_append,List.nil_append]; unfold jN; rw [← E],C⟩
theorem Js (hle:dI l=0) (hr:eh l r) {k:Nat} (hk:k≤l.aa.length):((qB l r).any fun y=>decide (y.gO.length=k))=jK (cb l r) (fwd (cb l r) k):=by
 rw [Bool.eq_iff_iff,AI,List.any_eq_true]
 constructor
 ·rintro ⟨y,hy,e⟩
  have h:=(p6 hle hr).1 hy
  exact ⟨y.gO,y.jc,of_decide_eq_true e,h.chain,h.may⟩
 ·rintro ⟨rs,fs,e,A,B⟩
  exact ⟨⟨rs,fs,(gW (Kv l r) (ej l) r.gd 0 rs).1⟩,(p6 hle hr).2 ⟨A,by rw [mq]; simp only; omega,U,B⟩,c8 e⟩
theorem fR (hle:dI l=0) (hr:eh l r):qB l r=[]↔ic (cb l r)=[]:=by
 constructor
 ·intro h
  apply List.eq_nil_iff_forall_not_mem.2
  intro x hx
  obtain ⟨k,rfl,hk,hm⟩:=ph.1 hx
  rw [mq] at hk
  rw [← Js hle hr hk,h] at hm
  cases hm
 ·intro h
  apply List.eq_nil_iff_forall_not_mem.2
  intro y hy
  have hw:=(p6 hle hr).1 hy
  have:(y.gO.length:Int)∈ic (cb l r):=ph.2 ⟨y.gO.length,rfl,hw.len,AI.2 ⟨_,_,rfl,hw.chain,hw.may⟩⟩
  rw [h] at this; cases this
/-- the times at a beam, by all ways -/
def jq (b:Nat) (ws:List dy):List (Int×ag):=ws.filterMap fun y=>match y.gO[b]?,y.jc[b]?,y.l3[b]? with
 |some s,some f,some e=>some (s,⟨f,e⟩)
 |_,_,_=>none
theorem nV {b:Nat} {ws:List dy} {q:Int×ag}:q∈jq b ws↔ ∃ y∈ws,y.gO[b]? =some q.1∧y.jc[b]? =some q.2.Lo∧y.l3[b]? =some q.2.Hi:=by
 unfold jq
 rw [List.mem_filterMap]
 constructor
 ·rintro ⟨y,hy,h⟩
  cases e1:y.gO[b]? with
  |none=>rw [e1] at h; cases h
  |some s=>
   cases e2:y.jc[b]? with
   |none=>rw [e1,e2] at h; cases h
   |some f=>
    cases e3:y.l3[b]? with
    |none=>rw [e1,e2,e3] at h; cases h
    |some e=>
     rw [e1,e2,e3] at h; cases h
     exact ⟨y,hy,e1,e2,e3⟩
 ·rintro ⟨y,hy,A,B,C⟩
  exact ⟨y,hy,by rw [A,B,C]⟩
theorem yb {b:Nat} {ws:List dy} {y:dy} (h:y.gO.length≤b):jq b (ws++[y])=jq b ws:=by
 unfold jq; rw [List.filterMap_append]; simp [List.getElem?_eq_none h]
theorem qv {b:Nat} {ws:List dy} {y:dy} {s f e:Int} (h1:y.gO[b]? =some s) (h2:y.jc[b]? =some f) (h3:y.l3[b]? =some e):jq b (ws++[y])=jq b ws++[(s,⟨f,e⟩)]:=by
 unfold jq; rw [List.filterMap_append]; simp [h1,h2,h3]
theorem IU (hle:dI l=0) (hr:eh l r) {y:dy} (hy:y∈qB l r):y.jc.length=y.gO.length∧y.l3.length=y.gO.length∧y.gO.length≤l.aa.length:=by
 have h:=(p6 hle hr).1 hy
 exact ⟨kp _ _ _ _ h.chain,by rw [h.last,rK],by have:=h.len; rwa [mq] at this⟩
theorem um (hle:dI l=0) (hr:eh l r) {b:Nat} (hb:b<l.aa.length) {s t:Int}:(∃ q∈mz (cb l r) b,q.1=s∧q.2.Lo≤t∧t≤q.2.Hi)↔ ∃ q∈jq b (qB l r),q.1=s∧q.2.Lo≤t∧t≤q.2.Hi:=by
 have hh:=MR hle hr
 rw [wv hh.low (by rw [mq]; exact hb),Jf hh hr.time.2.1 (by rw [mq]; exact hb)]
 constructor
 ·rintro ⟨y,hy,f,e,A,B,C,D,E⟩
  exact ⟨(s,⟨f,e⟩),nV.2 ⟨y,(p6 hle hr).2 hy,A,B,C⟩,U,D,E⟩
 ·rintro ⟨q,hq,rfl,D,E⟩
  obtain ⟨y,hy,A,B,C⟩:=nV.1 hq
  exact ⟨y,(p6 hle hr).1 hy,_,_,A,B,C,D,E⟩
/-- a way's span is none that is empty -/
theorem xY (hle:dI l=0) (hr:eh l r) {b:Nat} {q:Int×ag} (hq:q∈jq b (qB l r)):q.2.Lo≤q.2.Hi:=by
 have hh:=MR hle hr
 obtain ⟨y,hy,C,D,H⟩:=nV.1 hq
 obtain ⟨hc,hn,B,hm⟩:=(p6 hle hr).1 hy
 obtain ⟨R,F,La⟩:=y
 simp only at C D H hc hn B
 have G:=(aY.1 C).1
 have E:=(aY.1 D).1
 have L:=kp _ _ _ _ hc
 have eR:R=R.take b++q.1::R.drop (b+1):=by rw [← (aY.1 C).2]; exact (List.take_append_drop b R).symm.trans (by rw [List.drop_eq_getElem_cons G])
 have eF:F=F.take b++q.2.Lo::F.drop (b+1):=by rw [← (aY.1 D).2]; exact (List.take_append_drop b F).symm.trans (by rw [List.drop_eq_getElem_cons E])
 rw [eR,eF,rL _ _ _ _ _ _ (by simp only [List.length_take]; omega)] at hc
 have AA:(R.take b).length=b:=by rw [List.length_take]; omega
 rw [AA,Nat.zero_add] at hc
 obtain ⟨M,⟨o,ho,K,N,O⟩,J⟩:=hc
 have A:=tn (hi:=Kv l r) (least:=ej l) (now:=r.gd) 0 (R.take b) q.1 (R.drop (b+1))
 rw [← eR,AA,Nat.zero_add,← B,H] at A
 have A:=Option.some.inj A
 have he:=r8 hh (b+1) q.2.Lo (R.drop (b+1)) (F.drop (b+1)) (by rw [List.length_drop]; omega) I J
 rw [← K] at A
 split at A
 ·rename_i z
  have:=hh.hi b o I ho z
  omega
 ·omega
theorem BA {a b:List (Int×ag)} {h k:ag} (ha:kJ a h) (hb:kJ b k) (hab: ∀ x∈b,(∃ y∈a,y.2.Lo≤x.2.Lo)∧ ∃ y∈a,x.2.Hi≤y.2.Hi) (hba: ∀ x∈a,(∃ y∈b,y.2.Lo≤x.2.Lo)∧ ∃ y∈b,x.2.Hi≤y.2.Hi):h=k:=by
 rcases ha with ⟨rfl,rfl⟩|ha
 ·rcases hb with ⟨rfl,rfl⟩|hb
  ·rfl
  ·obtain ⟨x,hx,_⟩:=hb.lo
   obtain ⟨⟨y,hy,_⟩,_⟩:=hab x hx
   cases hy
 ·rcases hb with ⟨rfl,rfl⟩|hb
  ·obtain ⟨x,hx,_⟩:=ha.lo
   obtain ⟨⟨y,hy,_⟩,_⟩:=hba x hx
   cases hy
  ·obtain ⟨M,E,AA⟩:=ha.lo
   obtain ⟨N,F,V⟩:=ha.hi
   obtain ⟨O,G,W⟩:=hb.lo
   obtain ⟨P,H,X⟩:=hb.hi
   obtain ⟨⟨AB,A,Y⟩,_⟩:=hba M E
   obtain ⟨_,J,B,Z⟩:=hba N F
   obtain ⟨⟨K,C,c⟩,_⟩:=hab O G
   obtain ⟨_,L,D,d⟩:=hab P H
   have Q:=hb.all AB A
   have R:=hb.all J B
   have S:=ha.all K C
   have T:=ha.all L D
   apply ag.ext
   ·omega
   ·omega
theorem Hl (hle:dI l=0) (hr:eh l r) {b:Nat} (hb:b<l.aa.length) {h:ag} (hh:kJ (jq b (qB l r)) h):h=mB l r b:=by
 have hk:=vr (l:=mz (cb l r) b) (fun q hq=>m8 hq)
 refine BA hh hk (fun x hx=>?_) (fun x hx=>?_)
 ·have hle':=m8 hx
  obtain ⟨y,hy,_,A,C⟩:=(um hle hr hb (s:=x.1) (t:=x.2.Lo)).1 ⟨x,hx,rfl,Int.le_refl _,hle'⟩
  obtain ⟨z,hz,_,D,B⟩:=(um hle hr hb (s:=x.1) (t:=x.2.Hi)).1 ⟨x,hx,rfl,hle',Int.le_refl _⟩
  exact ⟨⟨y,hy,A⟩,z,hz,B⟩
 ·have hle':=xY hle hr hx
  obtain ⟨y,hy,_,A,C⟩:=(um hle hr hb (s:=x.1) (t:=x.2.Lo)).2 ⟨x,hx,rfl,Int.le_refl _,hle'⟩
  obtain ⟨z,hz,_,D,B⟩:=(um hle hr hb (s:=x.1) (t:=x.2.Hi)).2 ⟨x,hx,rfl,hle',Int.le_refl _⟩
  exact ⟨⟨y,hy,A⟩,z,hz,B⟩
end
def pN (ws:List dy) (b:Nat):Int:=if vx (jq b ws)=mC then 6 else 0
def qi (ws:List dy) (b:Nat):ag:=if vx (jq b ws)=mC then ⟨0,0⟩ else vx (jq b ws)
theorem L4 {l:List (Int×ag)} {h:ag} (hh:kJ l h) (hl: ∀ q∈l,q.2.Lo≤q.2.Hi):vx l=h:=
 BA (vr hl) hh (fun x hx=>⟨⟨x,hx,Int.le_refl _⟩,x,hx,Int.le_refl _⟩) (fun x hx=>⟨⟨x,hx,Int.le_refl _⟩,x,hx,Int.le_refl _⟩)
theorem DR {ws:List dy} {b:Nat} (h:jq b ws=[]):pN ws b=6∧qi ws b=⟨0,0⟩:=by
 unfold pN qi; rw [h]; exact ⟨if_pos rfl,if_pos rfl⟩
theorem Dl {ws:List dy} {b:Nat} {o:ag} (hl: ∀ q∈jq b ws,q.2.Lo≤q.2.Hi) (h:oO (jq b ws) o):pN ws b=0∧qi ws b=o:=by
 have e:=L4 (.inr h) hl
 unfold pN qi; rw [e]; exact ⟨if_neg h.ne,if_neg h.ne⟩
/-- what was found until now -/
def n7 (b:Nat) (ws:List dy) (fd:Bool) (o:ag):Prop:=(fd=false∧jq b ws=[])∨(fd=true∧oO (jq b ws) o)
theorem G0 {b:Nat} {o:ag}:n7 b [] false o:= .inl ⟨rfl,rfl⟩
theorem Ay {q:Int×ag} (hq:q.2.Lo≤q.2.Hi):oO [q] q.2:=⟨hq,⟨q,sm,rfl⟩,⟨q,sm,rfl⟩,fun x hx=>by simp at hx; subst hx; exact ⟨Int.le_refl _,Int.le_refl _⟩⟩
theorem Ag {l:List (Int×ag)} {h:ag} {q:Int×ag} (hh:oO l h) (hq:q.2.Lo≤q.2.Hi):oO (l++[q]) ⟨min q.2.Lo h.Lo,max q.2.Hi h.Hi⟩:=by
 have:=uQ (.inr hh) hq
 unfold mM at this
 rw [if_neg hh.ne] at this
 rcases this with ⟨e,_⟩|this
 ·simp at e
 ·exact this
theorem CX {b:Nat} {ws:List dy} {fd:Bool} {o:ag} {y:dy} (h:n7 b ws fd o) (hy:y.gO.length≤b):n7 b (ws++[y]) fd o:=by
 unfold n7; rw [yb hy]; exact h
theorem AS {b:Nat} {ws:List dy} {fd:Bool} {o:ag} {y:dy} {s f e:Int} (h:n7 b ws fd o) (hf:fd=false) (h1:y.gO[b]? =some s) (h2:y.jc[b]? =some f) (h3:y.l3[b]? =some e) (hle:f≤e):n7 b (ws++[y]) true ⟨f,e⟩:=by
 rcases h with ⟨_,q⟩|⟨q,_⟩
 ·right
  rw [qv h1 h2 h3,q]
  exact ⟨U,Ay hle⟩
 ·rw [q] at hf; cases hf
theorem DK {b:Nat} {ws:List dy} {fd:Bool} {o:ag} {y:dy} {s f e:Int} (h:n7 b ws fd o) (hf:fd=true) (h1:y.gO[b]? =some s) (h2:y.jc[b]? =some f) (h3:y.l3[b]? =some e) (hle:f≤e):n7 b (ws++[y]) true ⟨min f o.Lo,max e o.Hi⟩:=by
 rcases h with ⟨q,_⟩|⟨_,q⟩
 ·rw [q] at hf; cases hf
 ·right
  rw [qv h1 h2 h3]
  exact ⟨U,Ag q hle⟩
theorem yB {b:Nat} {ws:List dy} {fd:Bool} {o:ag} (h:n7 b ws fd o) (hl: ∀ q∈jq b ws,q.2.Lo≤q.2.Hi):(fd=false→pN ws b=6∧qi ws b=⟨0,0⟩)∧(fd=true→pN ws b=0∧qi ws b=o):=by
 rcases h with ⟨q,h⟩|⟨q,h⟩
 ·exact ⟨fun _=>DR h,fun e=>(by rw [q] at e; cases e)⟩
 ·exact ⟨fun e=>(by rw [q] at e; cases e),fun _=>Dl hl h⟩
section
variable {l:bj} {r:cD}
theorem Jl (he:dN l r 0=0) {b:Nat} (hb:b<l.aa.length):pN (qB l r) b=dT l r b∧qi (qB l r) b=dK l r b:=by
 obtain ⟨A,hr,_,_⟩:=iN he
 have h:=Hl A hr hb (vr fun q hq=>xY A hr hq)
 have ho:dN l r (jI l b)=0:=by rw [F1 hb]; exact he
 unfold pN qi
 rw [h]
 by_cases e:mB l r b=mC
 ·rw [if_pos e,if_pos e,(qP ho e).1,(qP ho e).2]; exact ⟨rfl,rfl⟩
 ·rw [if_neg e,if_neg e,(oy ho e).1,(oy ho e).2]; exact ⟨rfl,rfl⟩
theorem OC (hle:dI l=0) (hr:eh l r) {y:dy} (hy:y∈qB l r) {b:Nat} {f e:Int} (hb:b<y.gO.length) (h2:y.jc[b]? =some f) (h3:y.l3[b]? =some e):f≤e:=
 xY hle hr (q:=(y.gO[b],⟨f,e⟩)) (nV.2 ⟨y,hy,fQ _,h2,h3⟩)
theorem Bt:dN l r (jI l l.bK)=dN l r 0:=by
 by_cases h:dI l=0
 ·obtain ⟨_,A⟩:=dY h
  have hh:=A.head
  unfold eV at hh
  rw [tI I]
 ·rw [gD h,gD h]
theorem vK (h: ¬ dN l r 0=0):dT l r l.bK=dN l r 0:=by
 have:=(ml (b:=l.bK) (by rw [Bt]; exact h)).1
 rw [this,Bt]
/-- rows of times that are those of ways -/
structure Ml (ws:List dy):Prop where
 lens: ∀ y∈ws,y.jc.length=y.gO.length∧y.l3.length=y.gO.length∧y.gO.length≤6
 le: ∀ y∈ws,∀ (b:Nat) f e,b<y.gO.length→y.jc[b]? =some f→y.l3[b]? =some e→f≤e
 num:ws.length≤40000000
theorem Ml.EP {ws:List dy} (h:Ml ws) {b:Nat}: ∀ q∈jq b ws,q.2.Lo≤q.2.Hi:=fun q hq=>by
 obtain ⟨y,hy,A,B,C⟩:=nV.1 hq
 exact h.le y hy b _ _ (aY.1 A).1 B C
theorem O5 (hle:dI l=0) (hr:eh l r):Ml (qB l r):=by
 obtain ⟨ht,B⟩:=dY hle
 have hh:=B.head
 unfold eV at hh
 refine ⟨fun y hy=>?_,fun y hy b f e hb A C=>OC hle hr hy hb A C,uX hr.len I⟩
 obtain ⟨D,A,C⟩:=IU hle hr hy
 exact ⟨D,A,I⟩
end
end
section
open Go.RowKit
/-- a row is taken that was made before; an operation -/
inductive fV where
 |take (i:Nat)
 |op (j:Nat)
def fV.ix:fV→Nat
 | .take i=>i
 | .op j=>j
def Av (dO:Nat→Nat):List fV→List Nat
 |[]=>[]
 | .take i::s=>dO i::Av dO s
 | .op _::s=>Av dO s
theorem tN {dO:Nat→Nat} {i:Nat}: ∀ {s:List fV},fV.take i∈s→dO i∈Av dO s
 | .take k::s,h=>by
  rcases bR.1 h with e|h
  ·cases e; exact cJ ..
  ·exact dW _ (tN h)
 | .op k::s,h=>by
  rcases bR.1 h with e|h
  ·cases e
  ·exact tN (s:=s) h
def rB (m:Array Nat) (dO:Nat→Nat) (x y:fV):Bool:=x.ix != y.ix&&(match y with | .op j=>iY m x.ix j| .take i=>match x with | .take k=>dO k != dO i| .op _=>true)
def Si (m:Array Nat) (dO:Nat→Nat):List fV→Bool
 |[]=>true
 |x::s=>s.all (rB m dO x)&&Si m dO s
theorem EW {m:Array Nat} {dO:Nat→Nat}: ∀ {s:List fV},Si m dO s=true→s.Pairwise fun x y=>rB m dO x y=true
 |[],_=>List.Pairwise.nil
 |x::s,h=>by
  simp only [Si,dg] at h
  exact List.Pairwise.cons (fun y hy=>de.1 h.1 y hy) (EW h.2)
/-- what is known of the slots B is known in L -/
def B8 (B L:dA):Prop:= ∀ t v,B.lookup t=some v→L.lookup t=some v
theorem z5 {B L:dA} (h:B.map (fun p=>L.lookup p.1)=B.map (fun p=>some p.2)):B8 B L:=by
 induction B with
 |nil=>intro t v h; simp at h
 |cons p B ih=>
  obtain ⟨k,u⟩:=p
  simp only [List.map_cons,List.cons.injEq] at h
  intro t v hl
  by_cases e:t=k
  ·subst e
   simp only [List.lookup,beq_self_eq_true,Option.some.injEq] at hl
   rw [h.1,hl]
  ·have:(t==k)=false:=by simpa using e
   simp only [List.lookup,this] at hl
   exact ih h.2 t v hl
theorem n_ {L Y:dA} {t:Nat}:(L++Y).lookup t=match L.lookup t with |some v=>some v|none=>Y.lookup t:=by
 induction L with
 |nil=>rfl
 |cons p L ih=>
  obtain ⟨k,u⟩:=p
  by_cases e:t==k
  ·simp [List.lookup,e]
  ·have:(t==k)=false:=by simpa using e
   simp only [List.cons_append,List.lookup,this,ih]
theorem B8.app {B L Y:dA} (h:B8 B L):B8 B (L++Y):=fun t v ht=>by rw [n_,h t v ht]
theorem Pf {B L:dA} (h:B8 B L) {x:Operand} {v:Value} (hv:ev B x=some v):ev L x=some v:=by
 cases x<;>simp only [ev] at hv ⊢ <;>first|exact h _ _ hv|exact hv
theorem EY {B L:dA} (h:B8 B L): ∀ {xs:List Operand} {vs:List Value},evs B xs=some vs→evs L xs=some vs
 |[],vs,hv=>hv
 |x::xs,vs,hv=>by
  simp only [evs] at hv ⊢
  cases e1:ev B x with
  |none=>rw [e1] at hv; simp at hv
  |some v=>
   cases e2:evs B xs with
   |none=>rw [e1,e2] at hv; simp at hv
   |some us=>
    rw [e1,e2] at hv
    rw [Pf h e1,EY h e2]; exact hv
section
variable (E:e9) (ops:Array Oper) (D:List Deferred) (C':List aw) (K0:Act→World→Prop) (B:List (Nat×Value)) (dO:Nat→Nat) (VO:Nat→Nat→Value) (AO:Nat→Nat→aw)
def CH:List fV→dA→List aw→Prop
 |[],L,C=>KJ E K0 D L C
 | .take i::s,L,C=> ∀ b,CH s ((dO i,VO i b)::L) (AO i b::C)
 | .op j::s,L,C=> ∀ o,ops[j]? =some o→ ∀ (Y:dA) (X:List aw) (K:Act→World→Prop),(∀ L' C'',(∀ w,St E.S E.w0 C'' w→St E.S E.w0 C' w)→((Av dO s).all fun d=>(L'.lookup d).isNone)=true→B.map (fun p=>L'.lookup p.1)=B.map (fun p=>some p.2)→CH s L' C''→KJ E K D (L'++Y) (C''++X))→RJ E ops (NQ K) [o] D (L++Y) (C++X)
/-- a row that is made at any time -/
def QM (i:Nat):Prop:= ∀ o,ops[i]? =some o→ ∀ (L:dA) (C:List aw) (K:Act→World→Prop),B8 B L→(∀ b,KJ E K D ((dO i,VO i b)::L) (AO i b::C))→RJ E ops (NQ K) [o] D L C
end
section
variable {E:e9} {ops:Array Oper} {D:List Deferred} {C' C1:List aw} {K0:Act→World→Prop} {B:List (Nat×Value)} {dO:Nat→Nat} {VO:Nat→Nat→Value} {AO:Nat→Nat→aw}
theorem Lv {Q:dq} {rest:List Oper} {L L2:dA} {C C2:List aw} (hL: ∀ a,Fr E.n D L a→Fr E.n D L2 a) (hC: ∀ w,St E.S E.w0 C w→St E.S E.w0 C2 w) (h:RJ E ops Q rest D L2 C2):RJ E ops Q rest D L C:=fun a w hf hs=>h a w (hL a hf) (hC w hs)
theorem Ec {K:Act→World→Prop} {L L2:dA} {C C2:List aw} (hL: ∀ a,Fr E.n D L a→Fr E.n D L2 a) (hC: ∀ w,St E.S E.w0 C w→St E.S E.w0 C2 w) (h:KJ E K D L2 C2):KJ E K D L C:=fun a w hf hs=>h a w (hL a hf) (hC w hs)
theorem EO {n:Nat} {L L2:dA} (h: ∀ t v,L2.lookup t=some v→L.lookup t=some v) (a:Act) (hf:Fr n D L a):Fr n D L2 a:=⟨hf.defers,hf.size,fun t v ht=>hf.at_ t v (h t v ht)⟩
theorem D0: ∀ (T0 s':List fV) (dn:List (Nat×Nat)) (L Y:dA) (C:List aw),(∀ x∈T0,∃ i b,x= .take i∧(i,b)∈dn)→(T0++s').Pairwise (fun x y=>rB (qz ops) dO x y=true)→(dn.map (·.1)).Nodup→(∀ p∈dn,fV.take p.1∈T0++s')→(∀ p∈dn,Y.lookup (dO p.1)=some (VO p.1 p.2))→(∀ i,fV.take i∈T0++s'→L.lookup (dO i)=none)→
 CH E ops D C' K0 B dO VO AO (T0++s') L C→ ∃ (dn':List (Nat×Nat)) (L':dA) (C2:List aw),CH E ops D C' K0 B dO VO AO s' L' C2∧(dn'.map (·.1)).Nodup∧(∀ p,p∈dn'↔p∈dn∧fV.take p.1∈s')∧(∀ t v,(L'++Y).lookup t=some v→(L++Y).lookup t=some v)∧(∀ i,fV.take i∈s'→L'.lookup (dO i)=none)∧(∀ w,St E.S E.w0 (C++dn.map fun p=>AO p.1 p.2) w→St E.S E.w0 (C2++dn'.map fun p=>AO p.1 p.2) w)
 |[],s',dn,L,Y,C,_,_,hn,hm,_,hl,h=>⟨dn,L,C,h,hn,fun p=>⟨fun q=>⟨q,hm p q⟩,fun q=>q.1⟩,fun t v q=>q,hl,fun w q=>q⟩
 |x::T0,s',dn,L,Y,C,ht,hp,hn,hm,hy,hl,h=>by
  obtain ⟨i,b,rfl,hb⟩:=ht x (cJ ..)
  obtain ⟨J,P⟩:=List.pairwise_cons.1 hp
  have AB: ∀ y∈T0++s',i≠y.ix:=fun y hy e=>by
   have:=J y hy
   simp only [rB,dg,bne_iff_ne,fV.ix] at this
   exact this.1 e
  have N: ∀ k,fV.take k∈T0++s'→dO k≠dO i:=fun k hk e=>by
   have:=J _ hk
   simp only [rB,dg,bne_iff_ne] at this
   exact this.2 e.symm
  have K:dn.Perm ((i,b)::dn.erase (i,b)):=List.perm_cons_erase hb
  have H:((dn.erase (i,b)).map (·.1)).Nodup∧i ∉ (dn.erase (i,b)).map (·.1):=by
   have:=(K.map (·.1)).nodup_iff.1 hn
   exact ⟨(List.nodup_cons.1 this).2,(List.nodup_cons.1 this).1⟩
  have A: ∀ p∈dn.erase (i,b),p∈dn∧p.1≠i:=fun p hp=>⟨List.mem_of_mem_erase hp,fun e=>by have q:=List.mem_map_of_mem (f:=fun p:Nat×Nat=>p.1) hp; simp only [e] at q; exact H.2 q⟩
  have O:L.lookup (dO i)=none:=hl i (cJ ..)
  obtain ⟨dn',L',C2,R,T,AA,V,W,X⟩:=D0 T0 s' (dn.erase (i,b)) ((dO i,VO i b)::L) Y (AO i b::C) (fun x hx=>by
   obtain ⟨k,c,rfl,hk⟩:=ht x (dW _ hx)
   refine ⟨k,c,U,?_⟩
   have F:k≠i:=fun e=>AB _ (List.mem_append_left _ hx) e.symm
   exact (List.mem_erase_of_ne (fun e=>F (congrArg Prod.fst e))).2 hk) P H.1 (fun p hp=>by
   obtain ⟨M,G⟩:=A p hp
   rcases bR.1 (hm p M) with e|e
   ·injection e with e; exact absurd e G
   ·exact e) (fun p hp=>hy p (A p hp).1) (fun k hk=>by
   have:(dO k==dO i)=false:=by simpa using N k hk
   simp only [List.lookup,this]
   exact hl k (dW _ hk)) (h b)
  refine ⟨dn',L',C2,R,T,fun p=>?_,fun t v hv=>?_,W,fun w hw=>X w ?_⟩
  ·rw [AA]
   constructor
   ·rintro ⟨M,G⟩; exact ⟨(A p M).1,G⟩
   ·rintro ⟨M,G⟩
    have F:p.1≠i:=fun e=>AB _ (List.mem_append_right _ G) e.symm
    exact ⟨(List.mem_erase_of_ne (fun e=>F (congrArg Prod.fst e))).2 M,G⟩
  ·have:=V t v hv
   rw [n_] at this ⊢
   by_cases e:t=dO i
   ·subst e
    simp only [List.lookup,beq_self_eq_true] at this
    rw [O]; simp only
    rw [hy _ hb]; exact this
   ·have Q:(t==dO i)=false:=by simpa using e
    simp only [List.lookup,Q] at this
    exact this
  ·refine hw.perm ?_
   show (C++dn.map fun p=>AO p.1 p.2).Perm (AO i b::(C++(dn.erase (i,b)).map fun p=>AO p.1 p.2))
   refine ((K.map fun p:Nat×Nat=>AO p.1 p.2).append_left C).trans ?_
   exact List.perm_middle
theorem AD: ∀ (s:List fV) (j:Nat),fV.op j∈s→ ∃ T0 k s',s=T0++fV.op k::s'∧ ∀ x∈T0,∃ i,x=fV.take i
 | .take i::s,j,h=>by
  rcases bR.1 h with e|h
  ·cases e
  ·obtain ⟨T0,k,s',rfl,A⟩:=AD s j h
   exact ⟨.take i::T0,k,s',U,fun x hx=>by
    rcases bR.1 hx with rfl|hx
    ·exact ⟨i,U⟩
    ·exact A x hx⟩
 | .op k::s,j,_=>⟨[],k,s,rfl,fun x hx=>by cases hx⟩
def kM (s:List fV) (dn:List (Nat×Nat)):List Nat:=(s.map fV.ix).filter fun i=> !(dn.map (·.1)).contains i
theorem se {s:List fV} {dn:List (Nat×Nat)} {i:Nat}:i∈kM s dn↔(∃ x∈s,x.ix=i)∧ ∀ p∈dn,p.1≠i:=by
 unfold kM
 rw [List.mem_filter,cy]
 refine and_congr Iff.rfl ?_
 rw [Bool.not_eq_true',← Bool.not_eq_true,List.contains_iff_mem,cy]
 constructor
 ·intro h p hp e; exact h ⟨p,hp,e⟩
 ·rintro h ⟨p,hp,e⟩; exact h p hp e
theorem qT (hal: ∀ i,QM E ops D B dO VO AO i∨True): ∀ (n:Nat) (s:List fV) (dn:List (Nat×Nat)) (L Y:dA) (C:List aw),(∀ i,fV.take i∈s→QM E ops D B dO VO AO i)→s.Pairwise (fun x y=>rB (qz ops) dO x y=true)→(kM s dn).length=n→(dn.map (·.1)).Nodup→(∀ p∈dn,fV.take p.1∈s)→(∀ p∈dn,Y.lookup (dO p.1)=some (VO p.1 p.2))→(∀ i,fV.take i∈s→L.lookup (dO i)=none)→B8 B L→
 (∀ w,St E.S E.w0 C w→St E.S E.w0 C' w)→CH E ops D C' K0 B dO VO AO s L C→TN E ops D C' C1 (fun L C=>KJ E K0 D L C) [] n (kM s dn) (L++Y) (C++dn.map fun p=>AO p.1 p.2)
 |0,s,dn,L,Y,C,_,hp,hlen,hn,hm,hy,hl,hB,hC,h=>by
  have hr:kM s dn=[]:=ir hlen
  have Q: ∀ x∈s,∃ i b,x=fV.take i∧(i,b)∈dn:=fun x hx=>by
   have hx':x.ix ∉ kM s dn:=by rw [hr]; exact List.not_mem_nil
   rw [se] at hx'
   have: ∃ p∈dn,p.1=x.ix:=by
    apply Classical.byContradiction
    intro q
    exact hx' ⟨⟨x,hx,U⟩,fun p hp e=>q ⟨p,hp,e⟩⟩
   obtain ⟨p,T,AA⟩:=this
   have ht:=hm p T
   rcases List.mem_iff_getElem.1 hx with ⟨a,ha,ea⟩
   rcases List.mem_iff_getElem.1 ht with ⟨c,hc,ec⟩
   have d:a=c:=by
    rcases Nat.lt_trichotomy a c with q|q|q
    ·have:=eO.1 hp a c ha hc q
     simp only [rB,dg,bne_iff_ne,ea,ec] at this
     exact absurd AA.symm this.1
    ·exact q
    ·have:=eO.1 hp c a hc ha q
     simp only [rB,dg,bne_iff_ne,ea,ec] at this
     exact absurd AA this.1
   subst d
   exact ⟨p.1,p.2,by rw [← ea,ec],T⟩
  obtain ⟨dn',L',C2,V,J,O,W,h5,X⟩:=D0 s [] dn L Y C Q (by simpa using hp) hn (by simpa using hm) hy (by simpa using hl) (by simpa using h)
  show KJ E K0 D _ _
  have hd:dn'=[]:=List.eq_nil_iff_forall_not_mem.2 fun p hp=>by have:=((O p).1 hp).2; cases this
  subst hd
  refine Ec (L2:=L') (C2:=C2) (fun a hf=>EO (fun t v ht=>W t v (by rw [n_,ht])) a hf) (fun w hw=>by have:=X w hw; simpa using this) V
 |n+1,s,dn,L,Y,C,hal',hp,hlen,hn,hm,hy,hl,hB,hC,h=>by
  intro i hi o ho K hK
  obtain ⟨G,m⟩:=List.mem_filter.1 hi
  obtain ⟨⟨x,hx,rfl⟩,H⟩:=se.1 G
  have A: ∀ k∈kM s dn,iY (qz ops) k x.ix=false:=fun k hk=>by
   have:=de.1 m k hk
   simpa using this
  cases x with
  |take i=>
   simp only [fV.ix] at H A ho hK G ⊢
   refine hal' i hx o ho _ _ K hB.app fun b=>?_
   have l:=hl i hx
   have AB:(kM s dn).filter (· != i)=kM s ((i,b)::dn):=by
    unfold kM
    rw [List.filter_filter]
    apply List.filter_congr
    intro k _
    simp only [List.map_cons,List.contains_cons,Bool.not_or]
    rfl
   have N:(kM s dn).Nodup:=by
    unfold kM
    refine List.Nodup.sublist List.filter_sublist<|List.pairwise_map.2 (hp.imp fun {a c} q=>?_)
    simp only [rB,dg,bne_iff_ne] at q
    exact q.1
   have M: ∀ k,fV.take k∈s→k≠i→dO k≠dO i:=fun k hk AC e=>by
    rcases List.mem_iff_getElem.1 hx with ⟨a,ha,ea⟩
    rcases List.mem_iff_getElem.1 hk with ⟨c,hc,ec⟩
    rcases Nat.lt_trichotomy a c with q|q|q
    ·have:=eO.1 hp a c ha hc q
     simp only [rB,dg,bne_iff_ne,ea,ec] at this
     exact this.2 e.symm
    ·subst q; rw [ea] at ec; cases ec; exact AC rfl
    ·have:=eO.1 hp c a hc ha q
     simp only [rB,dg,bne_iff_ne,ea,ec] at this
     exact this.2 e
   refine Ec (L2:=L++((dO i,VO i b)::Y)) (C2:=C++((i,b)::dn).map fun p=>AO p.1 p.2) (fun a hf=>EO (fun t v ht=>?_) a hf) (fun w hw=>hw.perm (List.perm_middle).symm) (hK _ _ (fun w hw=>hC w (hw.take (List.sublist_append_left _ _))) (fun q=>by cases q) ?_)
   ·rw [n_] at ht
    by_cases e:t=dO i
    ·subst e
     rw [l] at ht
     simp only [List.lookup,beq_self_eq_true] at ht ⊢
     exact ht
    ·have e2:(t==dO i)=false:=by simpa using e
     simp only [List.lookup,e2] at ht ⊢
     rw [n_]; exact ht
   ·rw [AB]
    refine qT hal n s ((i,b)::dn) L ((dO i,VO i b)::Y) C hal' hp ?_ (List.nodup_cons.2 ⟨fun q=>?_,hn⟩) (fun p hp'=>?_) (fun p hp'=>?_) hl hB hC h
    ·rw [← AB,← List.Nodup.erase_eq_filter N,List.length_erase_of_mem G,hlen]; rfl
    ·obtain ⟨p,hp',e⟩:=cy.1 q
     exact H p hp' e
    ·rcases bR.1 hp' with rfl|hp'
     ·exact hx
     ·exact hm p hp'
    ·rcases bR.1 hp' with rfl|hp'
     ·simp [List.lookup]
     ·have:(dO p.1==dO i)=false:=by simpa using M p.1 (hm p hp') (H p hp')
      simp only [List.lookup,this]
      exact hy p hp'
  |op j=>
   simp only [fV.ix] at H A ho hK G ⊢
   obtain ⟨T0,k,s',rfl,hT⟩:=AD s j hx
   obtain ⟨q1,q2,q3⟩:=List.pairwise_append.1 hp
   obtain ⟨q4,q5⟩:=List.pairwise_cons.1 q2
   have R: ∀ k',fV.op k'∈T0++fV.op k::s'→k'∈kM (T0++fV.op k::s') dn:=fun k' hk'=>by
    refine se.2 ⟨⟨_,hk',U⟩,fun p hp' e=>?_⟩
    have ht:=hm p hp'
    rcases List.mem_iff_getElem.1 hk' with ⟨a,ha,ea⟩
    rcases List.mem_iff_getElem.1 ht with ⟨c,hc,ec⟩
    rcases Nat.lt_trichotomy a c with q|q|q
    ·have:=eO.1 hp a c ha hc q
     simp only [rB,dg,bne_iff_ne,ea,ec,fV.ix] at this
     exact this.1 e.symm
    ·subst q; rw [ea] at ec; cases ec
    ·have:=eO.1 hp c a hc ha q
     simp only [rB,dg,bne_iff_ne,ea,ec,fV.ix] at this
     exact this.1 e
   have Ak:k=j:=by
    apply Classical.byContradiction
    intro A0
    have hj':fV.op j∈s':=by
     rcases g0.1 hx with q|q
     ·obtain ⟨i,e⟩:=hT _ q; cases e
     ·rcases bR.1 q with e|q
      ·injection e with e; exact absurd e.symm A0
      ·exact q
    have:=q4 _ hj'
    simp only [rB,dg,fV.ix] at this
    have J:=A k (R k sm)
    rw [this.2] at J; cases J
   subst Ak
   have F: ∀ x∈T0,∃ i b,x=fV.take i∧(i,b)∈dn:=fun x hx'=>by
    obtain ⟨i,rfl⟩:=hT x hx'
    apply Classical.byContradiction
    intro q
    have r:i∈kM (T0++fV.op k::s') dn:=se.2 ⟨⟨_,List.mem_append_left _ hx',rfl⟩,fun p hp' e=>q ⟨i,p.2,rfl,by rw [← e]; exact hp'⟩⟩
    have:=q3 _ hx' _ (cJ ..)
    simp only [rB,dg,fV.ix] at this
    have J:=A i r
    rw [this.2] at J; cases J
   obtain ⟨dn',L',C2,V,J,O,W,h5,X⟩:=D0 T0 (fV.op k::s') dn L Y C F hp hn hm hy hl h
   refine Lv (fun a hf=>EO W a hf) X (V o ho Y (dn'.map fun p=>AO p.1 p.2) K fun L3 C3 P A1 Z g=>?_)
   have AB:(kM (T0++fV.op k::s') dn).filter (· != k)=kM s' dn':=by
    unfold kM
    rw [List.map_append,List.filter_append,List.map_cons,List.filter_append]
    have e1:(List.map fV.ix T0).filter (fun i=> !(dn.map (·.1)).contains i)=[]:=by
     apply List.filter_eq_nil_iff.2
     intro z hz
     obtain ⟨x,hx',rfl⟩:=cy.1 hz
     obtain ⟨i,b,rfl,hb⟩:=F x hx'
     simp only [fV.ix,Bool.not_eq_true',Bool.not_eq_false,List.contains_iff_mem]
     exact List.mem_map_of_mem (f:=(·.1)) hb
    rw [e1]
    simp only [List.filter_nil,List.nil_append]
    have u:k ∉ dn.map (·.1):=fun q=>by
     obtain ⟨p,hp',e⟩:=cy.1 q
     exact H p hp' e
    rw [List.filter_cons_of_pos (by simpa [fV.ix] using u),List.filter_cons_of_neg (by simp [fV.ix]),List.filter_filter]
    apply List.filter_congr
    intro z hz
    obtain ⟨y,hy',rfl⟩:=cy.1 hz
    have A2:y.ix≠k:=fun e=>by
     have:=q4 y hy'
     simp only [rB,dg,bne_iff_ne,fV.ix] at this
     exact this.1 e.symm
    rw [Bool.eq_iff_iff]
    simp only [dg,bne_iff_ne,Bool.not_eq_true',← Bool.not_eq_true,List.contains_iff_mem]
    constructor
    ·rintro ⟨_,hq⟩ hc
     obtain ⟨p,hp',e⟩:=cy.1 hc
     exact hq (by rw [← e]; exact List.mem_map_of_mem (f:=(·.1)) ((O p).1 hp').1)
    ·intro hq
     refine ⟨A2,fun hc=>?_⟩
     obtain ⟨p,hp',e⟩:=cy.1 hc
     apply hq
     rw [← e]
     refine List.mem_map_of_mem (f:=(·.1)) ((O p).2 ⟨hp',?_⟩)
     have ht:=hm p hp'
     rcases g0.1 ht with ht|ht
     ·exfalso
      have:=q3 _ ht _ (dW _ hy')
      simp only [rB,dg,bne_iff_ne,fV.ix] at this
      exact this.1 e
     ·exact ht
   have N:(kM (T0++fV.op k::s') dn).Nodup:=by
    unfold kM
    refine List.Nodup.sublist List.filter_sublist<|List.pairwise_map.2 (hp.imp fun {a c} q=>?_)
    simp only [rB,dg,bne_iff_ne] at q
    exact q.1
   refine hK _ _ (fun w hw=>P w (hw.take (List.sublist_append_left _ _))) (fun q=>by cases q) ?_
   rw [AB]
   have hdn': ∀ p∈dn',fV.take p.1∈s':=fun p hp'=>by
    rcases bR.1 ((O p).1 hp').2 with e|e
    ·cases e
    ·exact e
   refine qT hal n s' dn' L3 Y C3 (fun i hi=>hal' i (by simp [hi])) q5 ?_ J hdn' (fun p hp'=>hy p ((O p).1 hp').1) (fun i hi=>?_) (z5 Z) P g
   ·rw [← AB,← List.Nodup.erase_eq_filter N,List.length_erase_of_mem G,hlen]; rfl
   ·have:=de.1 A1 _ (tN hi)
    simpa using this
/-- the rows, at any time; the others, one after the other -/
theorem D_ {tb rem:List Nat} {L:dA} {C:List aw} (s:List fV) (B:dA) (dO:Nat→Nat) (VO:Nat→Nat→Value) (AO:Nat→Nat→aw) {n:Nat} (htb:tb=[]) (hr:s.map fV.ix=rem) (hn:rem.length=n) (hp:Si (qz ops) dO s=true) (hl:((Av dO s).all fun d=>(L.lookup d).isNone)=true) (hB:B.map (fun p=>L.lookup p.1)=B.map (fun p=>some p.2)) (hC: ∀ w,St E.S E.w0 C w→St E.S E.w0 C' w)
 (hal: ∀ i,fV.take i∈s→QM E ops D B dO VO AO i) (h:CH E ops D C' K0 B dO VO AO s L C):TN E ops D C' C1 (fun L C=>KJ E K0 D L C) tb n rem L C:=by
 subst htb hr
 have e:kM s []=s.map fV.ix:=by unfold kM; simp
 have:=qT (C1:=C1) (fun i=> .inr trivial) n s [] L [] C hal (EW hp) (by rw [e]; exact hn) List.nodup_nil (fun p hp=>by cases hp) (fun p hp=>by cases hp) (fun i hi=>by
  have:=de.1 hl _ (tN hi)
  simpa using this) (z5 hB) hC h
 simpa [e] using this
theorem Hy {p:Nat→Prop}: ∀ i,fV.take i∈([]:List fV)→p i:=fun i h=>by cases h
theorem rD {p:Nat→Prop} {j:Nat} {s:List fV} (h: ∀ i,fV.take i∈s→p i): ∀ i,fV.take i∈fV.op j::s→p i:=fun i hi=>by
 rcases bR.1 hi with e|hi
 ·cases e
 ·exact h i hi
theorem mu {p:Nat→Prop} {j:Nat} {s:List fV} (hj:p j) (h: ∀ i,fV.take i∈s→p i): ∀ i,fV.take i∈fV.take j::s→p i:=fun i hi=>by
 rcases bR.1 hi with e|hi
 ·cases e; exact hj
 ·exact h i hi
end
section
variable {E:e9} {ops:Array Oper} {D:List Deferred} {B:List (Nat×Value)} {dO:Nat→Nat} {VO:Nat→Nat→Value} {AO:Nat→Nat→aw}
variable {d:Nat} {ty:TypeId} {ps:String} {af:Array Edge}
theorem Ir {i t e sz:Nat} (ho:ops[i]? =some ⟨some d,.buildSlice t 0 #[],ty,ps,af,none⟩) (ht:tE E.P t=some (e,sz)) (hd:Nat.blt d E.n=true) (h1:dO i=d) (h2: ∀ b,VO i b= .slice (some ⟨b,0,none⟩) 0 0) (h3: ∀ b,AO i b=cw b e []):QM E ops D B dO VO AO i:=fun o ho' L C K hB hk=>by
 rw [ho] at ho'; cases ho'
 exact QT U ht hd fun b=>aH (by have:=hk b; rw [h1,h2,h3] at this; exact this)
theorem vH {i t e sz n:Nat} {xs:List Operand} {vs:List Value} {cs zs:List Value} (ho:ops[i]? =some ⟨some d,.buildSlice t n ((xs.zipIdx.map fun p=>(p.2,p.1)).toArray),ty,ps,af,none⟩) (ht:tE E.P t=some (e,sz)) (hz:tZ E.P e=some zs) (hx:evs B xs=some vs) (hn:xs.length=n) (hp:Nat.blt 0 (n*sz)=true) (hb:Nat.ble (n*sz) 16777216=true) (hv: ∀ v∈vs,v.cells.size=sz)
 (hc:(vs.map (·.cells.toList)).flatten=cs) (hd:Nat.blt d E.n=true) (h1:dO i=d) (h2: ∀ b,VO i b= .slice (some ⟨b,0,none⟩) n n) (h3: ∀ b,AO i b=cw b e cs):QM E ops D B dO VO AO i:=fun o ho' L C K hB hk=>by
 rw [ho] at ho'; cases ho'
 exact ew U ht hz (EY hB hx) hn hp hb hv hc hd fun b=>aH (by have:=hk b; rw [h1,h2,h3] at this; exact this)
end
section
variable {E:e9} {ops:Array Oper} {D:List Deferred} {C':List aw} {K0:Act→World→Prop} {B:List (Nat×Value)} {dO:Nat→Nat} {VO:Nat→Nat→Value} {AO:Nat→Nat→aw}
theorem q_ {j:Nat} {s:List fV} {L:dA} {C:List aw} {o:Oper} (ho:ops[j]? =some o)
 (h: ∀ (Y:dA) (X:List aw) (K:Act→World→Prop),(∀ L' C'',(∀ w,St E.S E.w0 C'' w→St E.S E.w0 C' w)→((Av dO s).all fun d=>(L'.lookup d).isNone)=true→B.map (fun p=>L'.lookup p.1)=B.map (fun p=>some p.2)→CH E ops D C' K0 B dO VO AO s L' C''→KJ E K D (L'++Y) (C''++X))→RJ E ops (NQ K) [o] D (L++Y) (C++X)):CH E ops D C' K0 B dO VO AO (.op j::s) L C:=fun o' ho'=>by
 rw [ho] at ho'; cases ho'
 exact h
theorem nz {s:List fV} {L Y:dA} {C X:List aw} {K:Act→World→Prop} (hT: ∀ L' C'',(∀ w,St E.S E.w0 C'' w→St E.S E.w0 C' w)→((Av dO s).all fun d=>(L'.lookup d).isNone)=true→B.map (fun p=>L'.lookup p.1)=B.map (fun p=>some p.2)→CH E ops D C' K0 B dO VO AO s L' C''→KJ E K D (L'++Y) (C''++X)) (nL nC:Nat)
 (hL:L.take nL++Y=L) (hC:C.take nC++X=C) (h1: ∀ w,St E.S E.w0 (C.take nC) w→St E.S E.w0 C' w) (h2:((Av dO s).all fun d=>((L.take nL).lookup d).isNone)=true) (h3:B.map (fun p=>(L.take nL).lookup p.1)=B.map (fun p=>some p.2)) (h:CH E ops D C' K0 B dO VO AO s (L.take nL) (C.take nC)):RJ E ops (NQ K) [] D L C:=by
 have:=hT _ _ h1 h2 h3 h
 rw [hL,hC] at this
 exact aH this
theorem Nf {c:Code} {Q:dq} {L L':dA} {C:List aw} (h:L'.map (fun p=>L.lookup p.1)=L'.map (fun p=>some p.2)) (k:WJ E c Q D L' C):WJ E c Q D L C:=fun a w hf hs=>k a w (EO (z5 h) a hf) hs
theorem xN: ∀ {C:List aw} {i:Nat} {A:aw},C[i]? =some A→C.Perm (A::C.eraseIdx i)
 |[],i,A,h=>by simp at h
 |x::C,0,A,h=>by
  simp at h; subst h
  exact List.Perm.refl _
 |x::C,i+1,A,h=>((xN (C:=C) (i:=i) (by simpa using h)).cons x).trans (List.Perm.swap _ _ _)
theorem St.front {S:BS} {w0 w:World} {C:List aw} {A:aw} (i:Nat) (hi:C[i]? =some A) (h:St S w0 C w):St S w0 (A::C.eraseIdx i) w:=h.perm (xN hi)
theorem E_ {K:Act→World→Prop} {L:dA} {C:List aw} {A:aw} (i:Nat) (hi:C[i]? =some A) (h:KJ E K D L (A::C.eraseIdx i)):KJ E K D L C:=fun a w hf hs=>h a w hf (hs.front i hi)
theorem rG {Q:dq} {rest:List Oper} {L:dA} {C:List aw} {A:aw} (i:Nat) (hi:C[i]? =some A) (h:RJ E ops Q rest D L (A::C.eraseIdx i)):RJ E ops Q rest D L C:=fun a w hf hs=>h a w hf (hs.front i hi)
end
end
section
open Go.RowKit
theorem BH (l:List dy) (az:List kO): ∀ v∈(List.zipWith dy.cells l az).flatten,v.oneCell'=true:=by
 induction l generalizing az with
 |nil=>intro v hv; simp at hv
 |cons x l ih=>
  cases az with
  |nil=>intro v hv; simp at hv
  |cons a az=>
   intro v hv
   simp only [List.zipWith_cons_cons,List.flatten_cons,g0] at hv
   rcases hv with hv|hv
   ·simp only [dy.cells,wE.cells,bR,List.not_mem_nil,or_false] at hv
    rcases hv with rfl|rfl|rfl<;>rfl
   ·exact ih az v hv
theorem KI: ∀ (m:dy) (a:kO) (w:World),(∀ X∈dy.owns m a,X.holds w)→ ∀ X∈dy.gL m a,X.holds w:=fun m a w h X hX=>by
 simp only [dy.gL,bR,List.not_mem_nil,or_false] at hX
 have A:=nM (h (own a.1.1 a.1.2 l4 1 (m.gO.map iC)) (by simp [dy.owns]))
 have B:=nM (h (own a.2.1.1 a.2.1.2 l4 1 (m.jc.map iC)) (by simp [dy.owns]))
 have C:=nM (h (own a.2.2.1 a.2.2.2 l4 1 (m.l3.map iC)) (by simp [dy.owns]))
 rcases hX with rfl|rfl|rfl
 ·simpa using A
 ·simpa using B
 ·simpa using C
theorem pR: ∀ (l:List dy) (az:List kO),(bw dy.owns l az).all (·.wr)=true
 |[],_=>rfl
 |_::_,[]=>rfl
 |x::l,a::az=>by
  simp only [bw,List.all_append,dg]
  exact ⟨U,pR l az⟩
theorem IL (l:List dy) (az:List kO):(cd (bw dy.owns l az)).wr=true:=pR l az
theorem I0 {l m:List dy} {az bz:List kO} (h:az.length=l.length):List.zipWith dy.cells (l++m) (az++bz)=List.zipWith dy.cells l az++List.zipWith dy.cells m bz:=List.zipWith_append h.symm
theorem uw {l:List dy} {az:List kO} (h:az.length=l.length):(List.zipWith dy.cells l az).length=l.length:=by rw [List.length_zipWith]; omega
/-- what is read of a thing that is tied, and frozen -/
theorem qa {C L:List aw} {a:OA} {c e sz n:Nat} {es:List (List Value)} (i:Nat) (hC:C[i]? =some (cd L).ro) (hm:own a c e sz es∈L) (hn:es.length=n):js C (rd a n sz es).holds:=fun w hw=>by
 subst hn
 exact nM ((show (cd L).holds w from (hw _ (aP hC):(cd L).ro.holds w)).1 _ hm)
section
variable {E:e9} {ops:Array Oper} {Q:dq} {rest:List Oper} {D:List Deferred} {L:List (Nat×Value)} {C C1:List aw}
theorem St.NZ {S:BS} {w0 w:World} {X C:List aw} {A:aw} (h:St S w0 (cd (X++[A])::C) w):St S w0 (A::cd X::C) w:=by
 have B:=h.jB
 have D:St S w0 (X++(A::C)) w:=by simpa using B
 exact D.tied.perm (List.Perm.swap _ _ _)
theorem St.merge {S:BS} {w0 w:World} {X Y C:List aw} (h:St S w0 (cd X::cd Y::C) w):St S w0 (cd (X++Y)::C) w:=by
 have A:St S w0 (cd Y::(X++C)) w:=(h.jB).perm (List.perm_middle (a:=cd Y) (l₁:=X) (l₂:=C))
 have B:St S w0 (Y++(X++C)) w:=A.jB
 have D:St S w0 ((X++Y)++C) w:=B.perm (by rw [← List.append_assoc]; exact List.perm_append_comm.append_right _)
 exact D.tied
end
section
variable {E:e9} {ops:Array Oper} {Q:dq} {rest:List Oper} {D:List Deferred} {L:List (Nat×Value)} {C:List aw}
theorem zr {A:aw} {X X':List aw} (e:X++[A]=X') (h:RJ E ops Q rest D L (cd X'::C)):RJ E ops Q rest D L (A::cd X::C):=fun a w hf hs=>h a w hf (hs.tie e)
theorem yz {X:List aw} {A:aw} (h:RJ E ops Q rest D L (A::cd X::C)):RJ E ops Q rest D L (cd (X++[A])::C):=fun a w hf hs=>h a w hf hs.NZ
theorem Ho {K:Act→World→Prop} {ms ns:List dy} {az bz:List kO} (hl:az.length=ms.length) (h:KJ E K D L (cd (bw dy.owns (ms++ns) (az++bz))::C)):KJ E K D L (cd (bw dy.owns ms az)::cd (bw dy.owns ns bz)::C):=fun a w hf hs=>h a w hf (by rw [lq hl.symm]; exact hs.merge)
end
/-- the head of the ways: the way that ends here, if it may -/
def wY (l:bj) (r:cD) (rs fs:List Int) (ra fa:RA) (hz:List kO) (LA:List aw):Prop:=
 ((r.ab.length:Int)-(dv rs).right≤l.dj∧ ∃ la:RA,hz=[(ra,fa,la)]∧LA=[own la.1 la.2 l4 1 ((jN l r rs).map iC)])∨(¬ (r.ab.length:Int)-(dv rs).right≤l.dj∧hz=[]∧LA=[])
theorem wY.len {l:bj} {r:cD} {rs fs:List Int} {ra fa:RA} {hz:List kO} {LA:List aw} (h:wY l r rs fs ra fa hz LA):hz.length=(hZ l r rs fs).length:=by
 unfold hZ
 rcases h with ⟨q,la,rfl,rfl⟩|⟨q,rfl,rfl⟩
 ·rw [if_pos q]; rfl
 ·rw [if_neg q]; rfl
theorem wY.wr {l:bj} {r:cD} {rs fs:List Int} {ra fa:RA} {hz:List kO} {LA:List aw} (h:wY l r rs fs ra fa hz LA):LA.all (·.wr)=true:=by
 rcases h with ⟨q,la,rfl,rfl⟩|⟨q,rfl,rfl⟩<;>rfl
theorem Ic {S:BS} {w0 w:World} {l:bj} {r:cD} {rs fs:List Int} {ra fa:RA} {hz az:List kO} {LA:List aw} {R:List dy} {A:aw} (hh:wY l r rs fs ra fa hz LA)
 (h:St S w0 [cd [own ra.1 ra.2 l4 1 (rs.map iC),own fa.1 fa.2 l4 1 (fs.map iC)],A,cd LA,cd (bw dy.owns R az)] w):St S w0 [cd (bw dy.owns (hZ l r rs fs++R) (hz++az)++[A])] w:=by
 rw [lq hh.len.symm]
 have D:St S w0 [own ra.1 ra.2 l4 1 (rs.map iC),own fa.1 fa.2 l4 1 (fs.map iC),A,cd LA,cd (bw dy.owns R az)] w:=h.jB
 rcases hh with ⟨q,la,rfl,rfl⟩|⟨q,rfl,rfl⟩
 ·unfold hZ
  rw [if_pos q]
  have B:=(St.kG [3,0,1,2,4] rfl rfl D).jB
  have E:=(St.kG [4,1,2,0,3] rfl rfl B).jB
  have C:St S w0 (((bw dy.owns [(⟨rs,fs,jN l r rs⟩:dy)] [(ra,fa,la)]++bw dy.owns R az)++[A])++[]) w:=by
   rw [List.append_nil]
   refine E.perm ?_
   show (bw dy.owns R az++(bw dy.owns [(⟨rs,fs,jN l r rs⟩:dy)] [(ra,fa,la)]++[A])).Perm _
   rw [← List.append_assoc]
   exact List.perm_append_comm.append_right _
  exact C.tied
 ·unfold hZ
  rw [if_neg q]
  have B:=(St.kG [4,2] rfl rfl D).jB
  have C:St S w0 (((bw dy.owns [] []++bw dy.owns R az)++[A])++[]) w:=by
   rw [List.append_nil]; exact B
  exact C.tied
theorem HC {E:e9} {K:Act→World→Prop} {D:ig} {L:dA} {l:bj} {r:cD} {rs fs:List Int} {ra fa:RA} {hz az z:List kO} {LA:List aw} {R W:List dy} {A A':aw} (hh:wY l r rs fs ra fa hz LA) (hW:hZ l r rs fs++R=W) (hz':hz++az=z) (hA:A=A')
 (h:KJ E K D L [cd (bw dy.owns W z++[A'])]):KJ E K D L [cd [own ra.1 ra.2 l4 1 (rs.map iC),own fa.1 fa.2 l4 1 (fs.map iC)],A,cd LA,cd (bw dy.owns R az)]:=fun a w hf hs=>h a w hf (by subst hW hz' hA; exact Ic hh hs)
theorem OY {E:e9} {K:Act→World→Prop} {D:ig} {L:dA} {X A:aw} {W:List dy} (h:KJ E K D L [cd (bw dy.owns W []++[A])]):KJ E K D L [X,A]:=fun a w hf hs=>h a w hf (by
 have B:St E.S E.w0 [A] w:=St.kG [1] rfl rfl hs
 have C:St E.S E.w0 (([]++[A])++[]) w:=B
 have e:bw dy.owns W []=[]:=by cases W<;>rfl
 rw [e]
 exact C.tied)
theorem FY {E:e9} {K:Act→World→Prop} {D:ig} {L:dA} {C:List aw} (e sz:Nat) (k:KJ E K D L (own none 0 e sz []::C)):KJ E K D L C:=fun a w hf hs=>k a w hf (hs.tj e sz)
end
section
open Go.RowKit
theorem Lf (l:bj) (kA:OA) (kC:Nat) (az:List RA) (cA:OA) (cC:Nat) (bA:OA) (bC:Nat) (r:cD) (sgA:OA) (sgC:Nat) (hin:eH l az) (hsl:r.ab.length≤1000000):
 dH Tryz.prog 162 [(vA (bT.cells (ki l kA kC cA cC bA bC))),(vA (cU.cells (jE r sgA sgC)))] [(rd kA l.aL.length 9 (l.aL.map au.cells)),(rd cA l.ak.length 2 (List.zipWith ax.cells l.ak az)),(d_ (bw ax.gL l.ak az)),(rd bA l.aa.length 4 (l.aa.map bM.cells)),(rd sgA r.ab.length 2 (r.ab.map aG.cells))] (vB (decide (eh l r))):=by
 have Ak:=hin.te
 have AO:=hin.s_
 have w:=hin.oY
 have AC:=hin.s7
 refine bH kr Tryz.func162 U U fun w0 Q hQ hN=>?_
 try dsimp only
 refine WS fun _ h=>eK U fun b2=>eK U fun b3=>bI 1 U<|RK h<|ao fun _ j=>WS fun _ H=>e7 2 [] (mc 0 U mn) U<|rS (CL (je r.Start 0 86400000) (aK) U)<|rP 2 [] mn ?_
 refine cg (t:=11) U (bu fun X=>?_) (br fun X=>?_)
 ·refine bI 13 U<|RK H<|aS U<|WS fun _ k=>rP 1 [] mn ?_
  refine RK k<|ar<|Q1 hQ U U U ?_
  exact cB (bx fun q=>by have C:=q.time; have u:=q.len; omega).symm
 refine e7 4 [] (mc 0 U mn) U<|rS (CL (je r.gd r.Start 86400000) (aK) U)<|rP 3 [] mn ?_
 refine cg (t:=19) U (bu fun Z=>?_) (br fun Z=>?_)
 ·refine bI 5 U<|RK H<|aS U<|WS fun _ m=>rP 1 [] mn ?_
  refine RK m<|ar<|Q1 hQ U U U ?_
  exact cB (bx fun q=>by have C:=q.time; have u:=q.len; omega).symm
 refine rP 5 [] (mc 0 U mn) ?_
 refine RK H<|cH U (aV fun a=>?_) (aW fun a=>?_)
 ·refine WS fun _ n=>rP 1 [] mn ?_
  refine RK n<|ar<|Q1 hQ U U U ?_
  exact cB (bx fun q=>by have C:=q.time; have u:=q.len; omega).symm
 refine WK j<|ao fun _ o=>WS fun _ J=>rP 1 [] mn ?_
 refine RK J<|aF ?_
 have F:(0≤r.ab.length)∧(oV l r.ab 0):=by exact ⟨Nat.zero_le _,uY⟩
 refine bZ (ι:={z:Nat // (z≤r.ab.length)∧(oV l r.ab z)}) [2,3] [0,1,2,3,4,5,6] U U (fun z=>[(5,(vI (z.1:Int)))]) (fun z=>[]) (fun _=>rfl) (fun _=>rfl) (fun z=>r.ab.length-z.1) ⟨0,F⟩ (bE U) (aU [0,1,2,3,4,5,6]) ?_
 clear F
 rintro ⟨i,⟨p,A⟩⟩ J11 D
 try dsimp only
 refine ao fun _ K=>WS fun _ L=>rP 5 [] (mc 0 U mn) ?_
 refine RK L<|bV U (aW fun Y=>?_) (aV fun Y=>?_)
 ·refine bQ<|ai<|ai<|aI<|KK o<|WS fun _ T=>rP 1 [] mn ?_
  refine RK T<|ar<|Q1 hQ U U U ?_
  exact cB (c8 (xu I I A I)).symm
 refine WK K<|ao fun _ E=>aF<|WS fun _ M=>rP 3 [] (mc 0 U mn) ?_
 obtain ⟨x,hx⟩:=aM r.ab i I
 have s:=bP aG.cells hx
 refine rS (IA i U (aA 6 U) zK dc I I)<|rS (lQ i 0 (aG.cells x) U cq (aA 6 U) s U dc U U)<|AL U Gw fun v=>fK U vb U<|RK M<|ao fun _ N=>WS fun _ G=>e7 6 [0,1] (mc 0 U (mc 2 U mn)) U<|rS (CL (je x.fz 0 ((l.aa.length:Int)-1)) (aK) U)<|rP 2 [] mn ?_
 refine cg (t:=45) U (bu fun b=>?_) (br fun b=>?_)
 ·refine bI 5 U<|RK G<|aS U<|WS fun _ O=>rP 1 [] mn ?_
  refine RK O<|ar<|Q1 hQ U U U ?_
  exact cB (bx fun q=>by have C:=q.sig i x hx; unfold hO iF at C; omega).symm
 refine e7 2 [] (mc 0 U mn) U<|rS (CL (je x.Read 0 86400000) (aK) U)<|rP 2 [] mn ?_
 refine RK G<|cH U (bu fun c=>?_) (br fun c=>?_)
 ·refine WS fun _ P=>rP 1 [] mn ?_
  refine RK P<|ar<|Q1 hQ U U U ?_
  exact cB (bx fun q=>by have C:=q.sig i x hx; unfold hO iF at C; omega).symm
 refine WK N<|ao fun _ B=>dw cx 38 kr<|dP 3 [] mn ?_
 refine jM (t:=53) U (aW fun d=>?_) (aV fun d=>?_)
 ·refine k7 35 U<|cK<|RK B<|cp U<|ct<|aN<|KK E<|av<|rP 3 [] mn ?_
  refine aH ?_
  have W:(vI (((i+1):Nat):Int))=(vI ((i:Int)+1)):=by exact cI I
  refine bp (D ⟨(i+1),⟨I,jv A hx (by unfold hO iF; (rw [GV I]; simp only; omega))⟩⟩ _ _ _ U os (dG.cons U<|dG.cons U<|bk U W<|dG.nil _) (aU [1,2,3,4,5,6,7]))
 refine dP 6 [0,1] (mc 0 U (mc 1 U mn)) ?_
 obtain ⟨y,hy⟩:=aM r.ab (i-1) I
 have AB:=bP aG.cells hy
 refine dS (IA (i-1) U (aA 7 U) zK dc I I)<|dS (qA ((i-1)*2) U (aA 7 U) (Nat.mul_pos I dc) fT U)<|dS (iK (i-1) 0 (vI y.fz) U cq (aA 7 U) AB U dc U)<|dP 2 [] mn ?_
 refine ia (t:=64) U (aV fun e=>?_) (aW fun e=>?_)
 ·refine k7 24 U<|cK<|RK B<|aS U<|WS fun _ R=>rP 1 [] mn ?_
  refine RK R<|ar<|Q1 hQ U U U ?_
  exact cB (bx fun q=>by have C:=q.sig i x hx; unfold hO iF at C; (rw [sf I hy] at C; omega)).symm
 refine lU 6 [0,1] (mc 0 U (mc 1 U mn)) U<|dS (IA (i-1) U (aA 7 U) zK dc I I)<|dS (qA ((i-1)*2) U (aA 7 U) (Nat.mul_pos I dc) fT U)<|dS (iK (i-1) 0 (vI y.fz) U cq (aA 7 U) AB U dc U)<|dP 2 [] mn ?_
 refine jM (t:=75) U (aW fun f=>?_) (aV fun f=>?_)
 ·refine k7 13 U<|cK<|RK B<|cp U<|ct<|aN<|KK E<|av<|rP 3 [] mn ?_
  refine aH ?_
  have V:(vI (((i+1):Nat):Int))=(vI ((i:Int)+1)):=by exact cI I
  refine bp (D ⟨(i+1),⟨I,jv A hx (by unfold hO iF; (rw [sf I hy]; omega))⟩⟩ _ _ _ U os (dG.cons U<|dG.cons U<|bk U V<|dG.nil _) (aU [1,2,3,4,5,6,7]))
 refine lU 6 [0,1] (mc 0 U (mc 1 U mn)) U<|dS (IA (i-1) U (aA 7 U) zK dc I I)<|dS (qA (((i-1)*2)+1) U (aA 7 U) (Nat.mul_pos I dc) fT U)<|dS (iK (i-1) 1 (vI y.Read) U cq (aA 7 U) AB U dc U)<|dP 4 [] mn ?_
 refine cK<|RK B<|cH U (aV fun g=>?_) (aW fun g=>?_)
 ·refine WS fun _ S=>rP 1 [] mn ?_
  refine RK S<|ar<|Q1 hQ U U U ?_
  exact cB (bx fun q=>by have C:=q.sig i x hx; unfold hO iF at C; (rw [sf I hy] at C; omega)).symm
 refine ct<|aN<|KK E<|av<|rP 3 [] mn ?_
 refine aH ?_
 have AA:(vI (((i+1):Nat):Int))=(vI ((i:Int)+1)):=by exact cI I
 refine bp (D ⟨(i+1),⟨I,jv A hx (by unfold hO iF; (rw [sf I hy]; omega))⟩⟩ _ _ _ U os (dG.cons U<|dG.cons U<|bk U AA<|dG.nil _) (aU [1,2,3,4,5,6,7]))
end
section
open Go.RowKit
theorem K_ (l:bj) (kA:OA) (kC:Nat) (az:List RA) (cA:OA) (cC:Nat) (bA:OA) (bC:Nat) (r:cD) (sgA:OA) (sgC:Nat) (hin:eH l az) (hle:dI l=0) (hr:eh l r):
 rU Tryz.prog 164 [(vA (bT.cells (ki l kA kC cA cC bA bC))),(vA (cU.cells (jE r sgA sgC)))] [(rd kA l.aL.length 9 (l.aL.map au.cells)),(rd cA l.ak.length 2 (List.zipWith ax.cells l.ak az)),(d_ (bw ax.gL l.ak az)),(rd bA l.aa.length 4 (l.aa.map bM.cells)),(rd sgA r.ab.length 2 (r.ab.map aG.cells))] (fun (x:(OA)×Nat×(OA)×Nat×(OA)×Nat)=>(vA (iU.cells (iU.mk (aR.mk x.1 ((cj l l.aa.length).length) x.2.1) (aR.mk x.2.2.1 ((eP l r r.ab.length).length) x.2.2.2.1) (aR.mk x.2.2.2.2.1 ((fp l r r.ab.length).length) x.2.2.2.2.2))))) (fun (x:(OA)×Nat×(OA)×Nat×(OA)×Nat)=>True) (fun (x:(OA)×Nat×(OA)×Nat×(OA)×Nat)=>[(own x.1 x.2.1 3 1 ((cj l l.aa.length).map iC)),(own x.2.2.1 x.2.2.2.1 53 2 ((eP l r r.ab.length).map ag.cells)),(own x.2.2.2.2.1 x.2.2.2.2.2 4 1 ((fp l r r.ab.length).map qp))]):=by
 have A6:=hin.te
 have A2:=hin.s_
 have A0:=hin.oY
 have A1:=hin.s7
 obtain ⟨w,g⟩:=dY hle
 have t:=g.head
 unfold eV at t
 have A4:=hr.len
 have A5:=hr.time
 refine gp kr Tryz.func164 U U fun w0 Q hQ hN=>?_
 try dsimp only
 refine WS fun _ n=>eK U fun b2=>eK U fun b3=>AL U MP fun b4=>RK n<|WS fun _ o=>AL U MP fun h=>RK o<|ao fun _ p=>WS fun _ q=>rP 1 [] mn ?_
 refine RK q<|aF<|eL 3 1 ?_
 have A:(0≤l.aa.length):=by exact Nat.zero_le _
 refine bZ (ι:={z:Nat×(OA)×Nat // (z.1≤l.aa.length)}) [2,3,4,5] [2,3,4,5,6,7,8,9] U U (fun z=>[(6,(vI (z.1.1:Int)))]) (fun z=>[(own z.1.2.1 z.1.2.2 3 1 ((cj l z.1.1).map iC)),(cw h 252 (iU.cells (iU.mk (aR.mk z.1.2.1 ((cj l z.1.1).length) z.1.2.2) (aR.mk none 0 0) (aR.mk none 0 0))))]) (fun _=>rfl) (fun _=>rfl) (fun z=>l.aa.length-z.1.1) ⟨(0,none,0),A⟩ (bE U) (aU [2,3,4,5,6,7,8,9,0,1]) ?_
 clear A
 rintro ⟨⟨b,a,c⟩,F⟩ J9 m
 try dsimp only at F
 try dsimp only
 refine ao fun _ K=>WS fun _ L=>rP 5 [] (mc 2 U mn) ?_
 refine RK L<|cH U (aV fun j=>?_) (aW fun j=>?_)
 ·refine WK K<|ao fun _ M=>aF<|dV cx [5,6,8] [1] [0] [0,1,2,3,4,5,6,7] [0,1,2,3,4,5,6,7,8,9] U U U U U<|eS U (FA 0 U fT U)<|fS U (L1 (vS a ((cj l b).length) c) 9 U cq U U)<|eS U (LW 2 U cq U U)<|eS U (MV U) ?_
  have A3:=ng w g (i:=b) I
  refine eS U (CL (Ki l kA kC az cA cC bA bC (b:Int) hin asm asm I) (bq [3,4,5,6]) U)<|eS U (FA 0 U fT U)<|eJ U<|mw U fun T14 W=>ew (xs:=[.tmp 21]) (cs:=[(vI (ej l (b:Int).toNat))]) U dD kl U U U U (by simp [Value.cells]) U U fun y=>aH (W _ _ (aU [1,2,3,4,5,6,7,8]) (aU [1,2,3,4,5,6,7,8,9,10]) ?_)
  refine cv U fun T16 X=>?_
  refine fF (es2:=(List.map iC (cj l (b+1)))) (m':=(cj l (b+1)).length) 9 U U U tx U U sm (bo (es:=List.map iC [(ej l (b:Int).toNat)]) 0 U U (by simp [bO]) U) (lW _) (by simp only [cT]; omega) (by simp only [maxLen,cT]; omega) (by rw [qI]; simp) sm U fun H AB=>?_
  try dsimp only
  refine aH (X _ _ (aU [1,2,3,4,5,6,7,8]) ?_)
  refine cv U fun T19 Y=>Ts (iU.cells (iU.mk (aR.mk H ((cj l (b+1)).length) AB) (aR.mk none 0 0) (aR.mk none 0 0))) U Mj U U<|aH (Y _ _ (aU [1,2,3,4,5,6,7,8]) ?_)
  refine fY U<|aN<|KK M<|av<|rP 3 [] mn ?_
  refine aH ?_
  have e:(vI (((b+1):Nat):Int))=(vI ((b:Int)+1)):=by exact cI I
  refine bp (m ⟨((b+1),H,AB),(by first|omega|(simp only []; omega))⟩ _ _ _ U os (cY 4<|bk U e<|dG.nil _) (aU [1,2,3,4,5,6,7,8,9,10]))
 refine bQ<|ai<|ai<|aI<|KK p<|ao fun _ N=>WS fun _ O=>?_
 rw [show cj l b=(cj l l.aa.length) from by rw [show b=l.aa.length by omega]]
 refine rP 1 [] mn ?_
 refine RK O<|aF<|eL 53 2<|eL 4 1 ?_
 have A:(0≤r.ab.length):=by exact Nat.zero_le _
 refine bZ (ι:={z:Nat×(OA)×Nat×(OA)×Nat // (z.1≤r.ab.length)}) [2,3,4,5] [2,3,4,5,6,7,8,9,10] U U (fun z=>[(7,(vI (z.1.1:Int)))]) (fun z=>[(own z.1.2.2.2.1 z.1.2.2.2.2 4 1 ((fp l r z.1.1).map qp)),(own z.1.2.1 z.1.2.2.1 53 2 ((eP l r z.1.1).map ag.cells)),(cw h 252 (iU.cells (iU.mk (aR.mk a ((cj l l.aa.length).length) c) (aR.mk z.1.2.1 ((eP l r z.1.1).length) z.1.2.2.1) (aR.mk z.1.2.2.2.1 ((fp l r z.1.1).length) z.1.2.2.2.2))))]) (fun _=>rfl) (fun _=>rfl) (fun z=>r.ab.length-z.1.1) ⟨(0,none,0,none,0),A⟩ (bE U) (aU [2,3,4,5,6,7,8,9,10,0,1,11]) ?_
 clear A
 rintro ⟨⟨i,ta,tc,sa,sc⟩,G⟩ J23 J
 try dsimp only at G
 try dsimp only
 refine ao fun _ P=>WS fun _ R=>rP 5 [] (mc 1 U mn) ?_
 refine RK R<|bV U (aW fun k=>?_) (aV fun k=>?_)
 ·refine bQ<|ai<|ai<|aI<|KK N<|WS fun _ V=>?_
  rw [show eP l r i=(eP l r r.ab.length) from by rw [show i=r.ab.length by omega]]
  rw [show fp l r i=(fp l r r.ab.length) from by rw [show i=r.ab.length by omega]]
  refine rP 1 [] (mc 11 U mn) ?_
  refine fK U RO U<|RK V<|ar<|LX hQ (a,c,ta,tc,sa,sc) [8,10,9] [0] (mc 0 U mn) U U U U ?_
  trivial
 refine WK P<|ao fun _ S=>aF<|ao fun _ T=>dV cx [10,11] [] [] [0,1,2,3,4,5,6,7,8,9,10,11] [] U U U U U<|eS U (LW 2 U cq U U)<|eS U (FA 2 U fT U)<|eS U (L1 (vS sgA r.ab.length sgC) 1 U cq U U)<|eS U (MV U) ?_
 obtain ⟨s,hs⟩:=aM r.ab i I
 have v:=bP aG.cells hs
 refine eS U (IA i U (aA 7 U) zK dc I I)<|eS U (lQ i 0 (aG.cells s) U cq (aA 7 U) v U dc U U) ?_
 have u:=(hr.sig i s hs).1
 refine eS U (CL (Mx l kA kC az cA cC bA bC s hin asm (by exact u)) (bq [3,4,5,6]) U)<|eS U (MV U)<|eS U (EX U)<|eS U (EX U)<|eS U (AG U)<|eJ U<|cv U fun T29 Z=>AL U ed fun AC=>aH (Z _ _ (aU [1,2,3,4,5,6,7,8,9,10,11,12]) ?_)
 refine cv U fun T31 d=>fK U c_ U<|aH (d _ _ (aU [1,2,3,4,5,6,7,8,9,10,11,12]) ?_)
 refine fY U<|KK T<|WS fun _ AA=>rP 3 [0,1] (mc 12 U (mc 0 U mn)) ?_
 refine ew (xs:=[.tmp 44]) (cs:=(ag.cells (cO l s))) U lk ed U U U U (by simp [Value.cells,ag.aZ]) U U fun AO=>?_
 refine fF (es2:=(List.map ag.cells (eP l r (i+1)))) (m':=(eP l r (i+1)).length) 12 U U U EK U U sm (bo (es:=List.map ag.cells [(cO l s)]) 0 U U (by simp [ag.aZ]) U) (kU _) (by rw [rH I]; omega) (by rw [rH I]; simp only [maxLen]; omega) (by rw [DC hs]; simp) sm U fun B C=>?_
 try dsimp only
 refine bI 1 U<|iD (vs:=[(vS B ((eP l r (i+1)).length) C)]) (cs':=(iU.cells (iU.mk (aR.mk a ((cj l l.aa.length).length) c) (aR.mk B ((eP l r (i+1)).length) C) (aR.mk sa ((fp l r i).length) sc)))) (C':=[_,_,_,_,_,_,_,_,_,_,_,_,_,(cw h 252 (iU.cells (iU.mk (aR.mk a ((cj l l.aa.length).length) c) (aR.mk B ((eP l r (i+1)).length) C) (aR.mk sa ((fp l r i).length) sc))))]) 13 U U U PE U U U U U U U<|RK AA<|av<|rP 3 [] (mc 13 U mn) ?_
 refine ew (xs:=[.tmp 50]) (cs:=[(vB (decide ((cO l s).Lo≤(cO l s).Hi)))]) U MI Uq U U U U (by simp [Value.cells]) U U fun Ak=>?_
 refine fF (es2:=(List.map qp (fp l r (i+1)))) (m':=(fp l r (i+1)).length) 12 U U U QC U U sm (bo (es:=List.map qp [(decide ((cO l s).Lo≤(cO l s).Hi))]) 0 U U (by simp [z7]) U) (FQ _) (by rw [uS I]; omega) (by rw [uS I]; simp only [maxLen]; omega) (by rw [Da hs]; simp) sm U fun D E=>?_
 try dsimp only
 refine bI 1 U<|iD (vs:=[(vS D ((fp l r (i+1)).length) E)]) (cs':=(iU.cells (iU.mk (aR.mk a ((cj l l.aa.length).length) c) (aR.mk B ((eP l r (i+1)).length) C) (aR.mk D ((fp l r (i+1)).length) E)))) (C':=[_,_,_,_,_,_,_,_,_,_,_,_,_,_,(cw h 252 (iU.cells (iU.mk (aR.mk a ((cj l l.aa.length).length) c) (aR.mk B ((eP l r (i+1)).length) C) (aR.mk D ((fp l r (i+1)).length) E))))]) 14 U U U PO U U U U U U U<|aH<|aN<|KK S<|av<|bI 2 U<|rP 1 [] mn ?_
 refine aH ?_
 have f:(vI (((i+1):Nat):Int))=(vI ((i:Int)+1)):=by exact cI I
 refine bp (J ⟨((i+1),B,C,D,E),(by first|omega|(simp only []; omega))⟩ _ _ _ U os (cY 4<|bk U f<|dG.nil _) (aU [3,4,5,6,7,8,9,10,11,12,13,14]))
theorem J1 (r:cD) (sgA:OA) (sgC:Nat) (l:bj) (wA:OA) (wC:Nat) (tA:OA) (tC:Nat) (bA:OA) (bC:Nat) (rs:List Int) (rsA:OA) (rsC:Nat) (hle:dI l=0) (hr:eh l r) (hn:rs.length≤l.aa.length) (hrs: ∀ x∈rs,0≤x→x<(r.ab.length:Int)):
 rU Tryz.prog 176 [(vA (cU.cells (jE r sgA sgC))),(vA (iU.cells (iU.mk (aR.mk wA ((cj l l.aa.length).length) wC) (aR.mk tA ((eP l r r.ab.length).length) tC) (aR.mk bA ((fp l r r.ab.length).length) bC)))),(vS rsA rs.length rsC)] [(rd sgA r.ab.length 2 (r.ab.map aG.cells)),(rd wA ((cj l l.aa.length).length) 1 ((cj l l.aa.length).map iC)),(rd tA ((eP l r r.ab.length).length) 2 ((eP l r r.ab.length).map ag.cells)),(rd bA ((fp l r r.ab.length).length) 1 ((fp l r r.ab.length).map qp)),(rd rsA rs.length 1 (rs.map iC))] (fun (x:(OA)×Nat)=>(vS x.1 ((jN l r rs).length) x.2)) (fun (x:(OA)×Nat)=>True) (fun (x:(OA)×Nat)=>[(own x.1 x.2 3 1 ((jN l r rs).map iC))]):=by
 obtain ⟨J,D⟩:=dY hle
 have v:=D.head
 unfold eV at v
 have A3:=hr.len
 have A4:=hr.time
 have w:=EE (l:=l) (rs:=rs) ⟨I,I⟩ (fun b hb=>by have:=ng J D (i:=b) I; omega) hrs
 have A1:=cT (l:=l) (n:=l.aa.length)
 have A5:=rH (l:=l) (Nat.le_refl r.ab.length)
 refine gp kr Tryz.func176 U U fun w0 Q hQ hN=>?_
 try dsimp only
 refine WS fun _ h=>eK U fun b2=>eK U fun b3=>bI 1 U<|RK h<|WS fun _ m=>rP 2 [] mn ?_
 refine vW (n:=rs.length) (es:=(List.map iC (List.replicate rs.length 0))) U U U tx I I (by simp only [maxLen]; omega) (by rw [List.map_replicate]; rfl) U fun E=>?_
 try dsimp only
 refine bI 1 U<|RK m<|WS fun _ p=>e7 3 [] (mc 2 U mn) U<|RK p<|ao fun _ q=>WS fun _ t=>rP 4 [] mn ?_
 refine RK t<|aF ?_
 rw [show (own (some ⟨E,0,none⟩) rs.length 3 1 (List.map iC (List.replicate rs.length 0)))=(own (some ⟨E,0,none⟩) rs.length 3 1 ((j0 l r rs rs.length).map iC)) from by rw [F5]]
 have B:(rs.length≤rs.length):=by exact Nat.le_refl _
 have u:(vI ((jW l r rs rs.length).2))=(vI r.gd):=by rw [vt]
 refine bZ (ι:={z:Nat // (z≤rs.length)}) [2,3,4,7] [1,2,3,4,5,6,7] U U (fun z=>[(8,(vI ((jW l r rs z.1).2))),(9,(vI ((z.1:Int)-1)))]) (fun z=>[(own (some ⟨E,0,none⟩) rs.length 3 1 ((j0 l r rs z.1).map iC))]) (fun _=>rfl) (fun _=>rfl) (fun z=>z.1) ⟨rs.length,B⟩ (bk U u<|bE U) (aU [1,2,3,4,5,6,7,0]) ?_
 clear B
 rintro ⟨j,AC⟩ J10 F
 try dsimp only
 have A2:=GA (l:=l) (r:=r) (rs:=rs) (j:=j) I
 refine ao fun _ L=>WS fun _ M=>rP 2 [] mn ?_
 refine RK M<|bV U (aW fun g=>?_) (aV fun g=>?_)
 ·refine bQ<|ai<|ai<|aI<|KK q<|WS fun _ R=>rP 1 [] mn ?_
  rw [show (Value.slice (some ⟨E,0,none⟩) rs.length rs.length)=(Value.slice (some ⟨E,0,none⟩) ((jN l r rs).length) rs.length) from by rw [show (jN l r rs).length=rs.length from rK _ _]]
  rw [show j0 l r rs j=jN l r rs from by rw [show j=0 by omega]; exact CJ]
  refine rP 1 [] mn ?_
  refine RK R<|ar<|LX hQ ((some ⟨E,0,none⟩),rs.length) [7] [] mn U U U U ?_
  trivial
 refine WK L<|ao fun _ G=>aF<|ao fun _ H=>WS fun _ N=>rP 2 [] mn ?_
 have A0:=w (rs.length-j) j I
 obtain ⟨x,hx⟩:=aM rs (j-1) I
 have d:=bP iC hx
 refine rS (IA (j-1) U (aA 6 U) dD dc I I)<|rS (iK (j-1) 0 (vI x) U cq (aA 6 U) d U dc U)<|rP 1 [] mn ?_
 refine RK N<|bV U (aW fun A=>?_) (aV fun A=>?_)
 ·refine WK H<|WS fun _ P=>rP 3 [] mn ?_
  obtain ⟨A8,c⟩:=aM (j0 l r rs j) (j-1) I
  have hx25m:=bP iC c
  refine rS (IA (j-1) U (aQ (n:=rs.length) 7 U sq) dD dc I I) ?_
  have V:((j0 l r rs j).set (j-1) ((jW l r rs j).2))=(j0 l r rs (j-1)):=by (rw [← yu I hx]; congr 1; unfold tS; (rw [if_neg A]; done))
  refine jg (k:=(j-1)) (o:=0) (vs:=[(vI ((jW l r rs j).2))]) (es':=(List.map iC (j0 l r rs (j-1)))) (C':=[_,_,_,_,_,_,_,(own (some ⟨E,0,none⟩) rs.length 3 1 (List.map iC (j0 l r rs (j-1))))]) 7 U U U Eg U U U U hx25m U dc (by exact (List.map_set (f:=iC) (l:=(j0 l r rs j)) (i:=(j-1)) (a:=(jW l r rs j).2)).symm.trans (congrArg _ V)) U<|RK P<|av<|rP 4 [] (mc 0 U mn) ?_
  obtain ⟨y,hy⟩:=aM (cj l l.aa.length) (j-1) I
  have K:=bP iC hy
  refine rS (IA (j-1) U (aA 3 U) dD dc I I)<|rS (iK (j-1) 0 (vI y) U cq (aA 3 U) K U dc U) ?_
  have C:=uW hy
  have AB:=ng J D (i:=j-1) I
  rw [← C] at AB
  refine bI 2 U<|aH<|aN<|KK G<|av<|rP 3 [] mn ?_
  refine aH ?_
  have W:(vI ((jW l r rs (j-1)).2))=(vI (((jW l r rs j).2)-y)):=by exact cI (by rw [qb I hx]; simp only; unfold tS; rw [C]; (rw [if_neg A]; done))
  have X:(vI ((((j-1):Nat):Int)-1))=(vI (((j:Int)-1)-1)):=by exact cI I
  refine bp (F ⟨(j-1),(by first|omega|(simp only []; omega))⟩ _ _ _ U os (cY 4<|bk U W<|bk U X<|dG.nil _) (aU [0,1,2,3,4,5,6,7]))
 refine dw cx 12 kr<|dP 5 [] (mc 0 U mn) ?_
 refine dS (IA (j-1) U (aA 6 U) dD dc I I)<|dS (iK (j-1) 0 (vI x) U cq (aA 6 U) d U dc U) ?_
 have A6:=hrs x (aP hx) A
 obtain ⟨z,hz⟩:=aM (eP l r r.ab.length) ((x).toNat) I
 have Ak:=bP ag.cells hz
 refine dS (IA ((x).toNat) U (aA 4 U) lk dc I I)<|dS (qA ((((x).toNat)*2)+1) U (aA 4 U) (Nat.mul_pos I dc) fT U) ?_
 obtain ⟨s,hs,e⟩:=Iv hz
 have AO:=xE l s
 rw [← e] at AO
 have Y:Kv l r x=z.Hi:=by rw [CE hs,e]
 refine dS (iK ((x).toNat) 1 (vI z.Hi) U cq (aA 4 U) Ak U dc U)<|dS (MN U)<|k7 1 U<|cK<|RK H<|WS fun _ O=>rP 3 [] mn ?_
 obtain ⟨A7,Z⟩:=aM (j0 l r rs j) (j-1) I
 have hx19m:=bP iC Z
 refine rS (IA (j-1) U (aQ (n:=rs.length) 7 U sq) dD dc I I) ?_
 have S:((j0 l r rs j).set (j-1) (min ((jW l r rs j).2) z.Hi))=(j0 l r rs (j-1)):=by (rw [← yu I hx]; congr 1; unfold tS; (rw [if_pos A,Y]; done))
 refine jg (k:=(j-1)) (o:=0) (vs:=[(vI (min ((jW l r rs j).2) z.Hi))]) (es':=(List.map iC (j0 l r rs (j-1)))) (C':=[_,_,_,_,_,_,_,(own (some ⟨E,0,none⟩) rs.length 3 1 (List.map iC (j0 l r rs (j-1))))]) 7 U U U Eg U U U U hx19m U dc (by exact (List.map_set (f:=iC) (l:=(j0 l r rs j)) (i:=(j-1)) (a:=(min ((jW l r rs j).2) z.Hi))).symm.trans (congrArg _ S)) U<|RK O<|av<|rP 4 [] (mc 0 U mn) ?_
 obtain ⟨y,hy⟩:=aM (cj l l.aa.length) (j-1) I
 have K:=bP iC hy
 refine rS (IA (j-1) U (aA 3 U) dD dc I I)<|rS (iK (j-1) 0 (vI y) U cq (aA 3 U) K U dc U) ?_
 have C:=uW hy
 have AB:=ng J D (i:=j-1) I
 rw [← C] at AB
 refine bI 2 U<|aH<|aN<|KK G<|av<|rP 3 [] mn ?_
 refine aH ?_
 have T:(vI ((jW l r rs (j-1)).2))=(vI ((min ((jW l r rs j).2) z.Hi)-y)):=by exact cI (by rw [qb I hx]; simp only; unfold tS; rw [C]; (rw [if_pos A,Y]; done))
 have AA:(vI ((((j-1):Nat):Int)-1))=(vI (((j:Int)-1)-1)):=by exact cI I
 refine bp (F ⟨(j-1),(by first|omega|(simp only []; omega))⟩ _ _ _ U os (cY 4<|bk U T<|bk U AA<|dG.nil _) (aU [0,1,2,3,4,5,6,7]))
end
end Go.Proofs.YtijpnoadncadoaaGreatDoor
