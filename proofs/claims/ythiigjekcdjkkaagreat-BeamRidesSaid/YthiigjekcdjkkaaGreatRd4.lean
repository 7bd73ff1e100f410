/-
 The statement beamRides_said, part 4 of 6: B8, B10, B11, V1, V3, B4, B5, B6, V2, V5.
 Conditions: none.
-/
import Derived.Test.YthiigjekcdjkkaaGreatRd1
import Derived.Test.YthiigjekcdjkkaaGreatRd2
import Derived.Test.YthiigjekcdjkkaaGreatRd3
namespace Go.Proofs.YthiigjekcdjkkaaGreat
section
open Go.RowKit
set_option linter.unusedVariables false
set_option maxRecDepth 100000 in
set_option maxHeartbeats 400000 in
theorem Bf (l:aU) (kA:Option Addr) (kC:Nat) (az:List RA) (cA:Option Addr) (cC:Nat) (bA:Option Addr) (bC:Nat) (hraw:pw l az):
 eH Tryz.prog 7 [(Value.agg (aF.cells (aF.mk (au.mk (av.mk kA l.al.length kC)) l.bw (av.mk cA l.ag.length cC) (av.mk bA l.aa.length bC) l.aD l.aV l.aJ)).toArray)] [(rd kA l.al.length 9 (l.al.map ah.cells)),(rd cA l.ag.length 2 (List.zipWith aj.cells l.ag az)),(cZ (aL aj.dX l.ag az)),(rd bA l.aa.length 4 (l.aa.map aY.cells))] (Value.bool (decide (lj l))):=by
 have htk:=hraw.nm
 have hck:=hraw.nv
 have has:=hraw.m_
 have hbm:=hraw.nd
 refine bL JC Tryz.func7 rfl rfl fun w0 Q hQ hN=>?_
 try dsimp only
 refine WS fun _ hK1=>fy rfl fun b2=>rS (AG rfl)<|RK hK1<|aq fun _ hK3=>WS fun _ hK4=>rS (FA 0 rfl j4 rfl)<|rS (LP (au.cells (au.mk (av.mk kA l.al.length kC))) 0 rfl jn rfl rfl rfl)<|rS (CL (CD l.al kA kC) (ax 1 rfl rfl<|ay) rfl)<|rS (MV rfl) ?_
 refine bH (t:=7) rfl (fun h7=>?_) (fun h7=>?_)
 ·replace h7:=DT h7
  refine rS (OX rfl)<|rS (OX rfl)<|rS (OX rfl)<|rS (OX rfl)<|rS (PK rfl)<|rS (MV rfl)<|rS (OX rfl)<|rS (OX rfl)<|rS (OX rfl)<|rS (OX rfl) ?_
  refine rS (PK rfl)<|RK hK4<|aX rfl<|WS fun _ hK5=>rS (AG rfl)<|RK hK5<|aE<|Q1 hQ rfl rfl rfl ?_
  first|exact congrArg Value.bool (decide_eq_true (.inl (by omega))).symm|exact congrArg Value.bool (decide_eq_true (nF hx h33)).symm|exact congrArg Value.bool (decide_eq_false (nP (by omega) (by omega) hl0_1)).symm
 replace h7:=DF h7
 refine rS (FA 2 rfl gu rfl)<|rS (L1 (Value.slice cA l.ag.length cC) 0 rfl lE rfl rfl)<|rS (LN rfl qy)<|rS (BI rfl fY)<|rS (PK rfl)<|rS (MV rfl) ?_
 refine bH (t:=13) rfl (fun h13=>?_) (fun h13=>?_)
 ·replace h13:=DT h13
  refine rS (OX rfl)<|rS (OX rfl)<|rS (OX rfl)<|rS (OX rfl)<|rS (PK rfl)<|RK hK4<|aX rfl<|WS fun _ hK6=>rS (AG rfl)<|RK hK6 ?_
  refine aE<|Q1 hQ rfl rfl rfl ?_
  first|exact congrArg Value.bool (decide_eq_true (.inl (by omega))).symm|exact congrArg Value.bool (decide_eq_true (nF hx h33)).symm|exact congrArg Value.bool (decide_eq_false (nP (by omega) (by omega) hl0_1)).symm
 replace h13:=DF h13
 refine rS (FA 3 rfl dy rfl)<|rS (L1 (Value.slice bA l.aa.length bC) 0 rfl g3 rfl rfl)<|rS (LN rfl jL)<|rS (BI rfl fY)<|rS (PK rfl)<|RK hK4 ?_
 refine bj rfl (fun h18=>?_) (fun h18=>?_)
 ·replace h18:=DT h18
  refine WS fun _ hK7=>rS (AG rfl)<|RK hK7<|aE<|Q1 hQ rfl rfl rfl ?_
  first|exact congrArg Value.bool (decide_eq_true (.inl (by omega))).symm|exact congrArg Value.bool (decide_eq_true (nF hx h33)).symm|exact congrArg Value.bool (decide_eq_false (nP (by omega) (by omega) hl0_1)).symm
 replace h18:=DF h18
 refine WK hK3<|aq fun _ hK8=>WS fun _ hK9=>rS (AG rfl)<|RK hK9<|aG ?_
 have hinit:(0≤l.ag.length)∧(uY l 0):=by exact ⟨Nat.zero_le _,fun j c hj=>absurd hj (Nat.not_lt_zero _)⟩
 refine cq (ι:={z:Nat // (z≤l.ag.length)∧(uY l z)}) (fun z=>[(1,(Value.pointer (some ⟨b2,0,none⟩))),(3,(Value.int .i64 ((z.1:Nat):Int)))]) (fun z=>[(aT b2 28 (aF.cells (aF.mk (au.mk (av.mk kA l.al.length kC)) l.bw (av.mk cA l.ag.length cC) (av.mk bA l.aa.length bC) l.aD l.aV l.aJ))),(rd kA l.al.length 9 (l.al.map ah.cells)).ro,(rd cA l.ag.length 2 (List.zipWith aj.cells l.ag az)).ro,(cZ (aL aj.dX l.ag az)).ro,(rd bA l.aa.length 4 (l.aa.map aY.cells)).ro]) (fun z=>l.ag.length-z.1) ⟨0,hinit⟩ (an.cons rfl<|an.cons rfl<|an.nil _) (fun w hs=>St.br [0,1,2,3,4] rfl rfl hs) ?_
 clear hinit
 rintro ⟨i,⟨hl0_0,hl0_1⟩⟩ J10 hJ10
 try dsimp only
 refine aq fun _ hK11=>WS fun _ hK12=>rS (MV rfl)<|rS (FA 2 rfl gu rfl)<|rS (L1 (Value.slice cA l.ag.length cC) 0 rfl lE rfl rfl)<|rS (LN rfl qy)<|rS (BI rfl cv)<|RK hK12 ?_
 refine bj rfl (fun h13=>?_) (fun h13=>?_)
 rotate_left 1
 ·replace h13:=DF h13
  refine bE<|ai<|ai<|aH<|KK hK8<|WS fun _ hK18=>rS (AG rfl)<|RK hK18<|aE<|Q1 hQ rfl rfl rfl ?_
  first|exact congrArg Value.bool (decide_eq_true (.inl (by omega))).symm|exact congrArg Value.bool (decide_eq_true (nF hx h33)).symm|exact congrArg Value.bool (decide_eq_false (nP (by omega) (by omega) hl0_1)).symm
 replace h13:=DT h13
 refine WK hK11<|aq fun _ hK14=>aG<|WS fun _ hK15=>rS (FA 2 rfl gu rfl)<|rS (L1 (Value.slice cA l.ag.length cC) 0 rfl lE rfl rfl)<|rS (MV rfl) ?_
 obtain ⟨x,hx⟩: ∃ y_,l.ag[i]? =some y_:=⟨l.ag[i]'(by omega),List.getElem?_eq_getElem _⟩
 obtain ⟨xa,hxa⟩: ∃ y_,az[i]? =some y_:=⟨az[i]'(by omega),List.getElem?_eq_getElem _⟩
 have hxm:(List.zipWith aj.cells l.ag az)[i]? =some (aj.cells x xa):=gM hx hxa
 refine rS (IA i rfl (aI 2 rfl) tI (by decide) (by omega) (by omega))<|rS (ou ((i*2)+1) rfl (aI 2 rfl) (Nat.mul_pos (by omega) (by decide)) ff rfl)<|rS (iX i 1 (Value.slice xa.1 x.aB.length xa.2) rfl kq (aI 2 rfl) hxm rfl (by decide) rfl)<|rS (LN rfl oM)<|rS (BI rfl fY)<|RK hK15 ?_
 refine bj rfl (fun h33=>?_) (fun h33=>?_)
 ·replace h33:=DT h33
  refine WS fun _ hK16=>rS (AG rfl)<|RK hK16<|aE<|Q1 hQ rfl rfl rfl ?_
  first|exact congrArg Value.bool (decide_eq_true (.inl (by omega))).symm|exact congrArg Value.bool (decide_eq_true (nF hx h33)).symm|exact congrArg Value.bool (decide_eq_false (nP (by omega) (by omega) hl0_1)).symm
 replace h33:=DF h33
 refine cM<|aK<|KK hK14<|ar<|rS (MV rfl)<|rS (BI rfl (aZ ⟨by omega,by omega⟩))<|rS (AG rfl)<|aP ?_
 have hb17:(Value.int .i64 (((i+1):Nat):Int))=(Value.int .i64 (((i:Nat):Int)+1)):=by exact congrArg (Value.int .i64) (by omega)
 refine aO (hJ10 ⟨(i+1),⟨by omega,jw hl0_1 hx (by omega)⟩⟩ _ _ _ rfl (by first|omega|(simp; omega)) (an.cons rfl<|aQ rfl hb17<|an.nil _) (fun w hs=>St.br [0,1,2,3,4] rfl rfl hs))
set_option maxRecDepth 100000 in
set_option maxHeartbeats 400000 in
theorem tf (d:Int) (m:Int) (hd:0≤d∧d≤1000) (hm:0≤m∧m≤90000000):
 eH Tryz.prog 121 [(Value.int .i64 d),(Value.int .i64 m)] [] (Value.int .i64 (kW (d*m) 1000000)):=by
 have hdm:=EM (a:=d) (b:=m) (A:=1000) (B:=90000000) hd.1 hd.2 hm.1 hm.2
 refine bL G0 Tryz.func121 rfl rfl fun w0 Q hQ hN=>?_
 try dsimp only
 refine WS fun _ hK1=>rS (AG rfl)<|RK hK1<|WS fun _ hK2=>rS (MV rfl)<|rS (MV rfl)<|rS (BI rfl (vV ⟨by omega,by omega⟩))<|rS (AG rfl)<|RK hK2<|aq fun _ hK3=>?_
 refine WS fun _ hK4=>rS (MV rfl)<|rS (BI rfl (FO (by omega) (by omega)))<|rS (BI rfl fY)<|RK hK4 ?_
 refine bj rfl (fun h5=>?_) (fun h5=>?_)
 rotate_left 1
 ·replace h5:=DF h5
  refine WK hK3<|WS fun _ hK7=>rS (MV rfl)<|rS (BI rfl (sP (by omega) (by omega) (by omega)))<|rS (AG rfl)<|RK hK7<|aE<|Q1 hQ rfl rfl rfl ?_
  exact congrArg (Value.int .i64) (by unfold kW; omega)
 replace h5:=DT h5
 refine WS fun _ hK6=>rS (MV rfl)<|rS (BI rfl (sP (by omega) (by omega) (by omega)))<|rS (BI rfl (aZ ⟨by omega,by omega⟩))<|rS (AG rfl)<|RK hK6<|aE<|Q1 hQ rfl rfl rfl ?_
 exact congrArg (Value.int .i64) (by unfold kW; omega)
set_option maxRecDepth 100000 in
set_option maxHeartbeats 400000 in
theorem AB (c:aj) (sA:Option Addr) (sC:Nat) (hlen:c.aB.length≤1000000):
 eH Tryz.prog 90 [(Value.agg (bO.cells (bO.mk c.bJ (av.mk sA c.aB.length sC))).toArray)] [(rd sA c.aB.length 3 (c.aB.map bD.cells))] (Value.bool (decide (dP c))):=by
 refine bL HE Tryz.func90 rfl rfl fun w0 Q hQ hN=>?_
 try dsimp only
 refine WS fun _ hK1=>fy rfl fun b2=>rS (AG rfl)<|RK hK1<|aq fun _ hK3=>WS fun _ hK4=>rS (FA 0 rfl lk rfl)<|rS (L1 (Value.int .i64 c.bJ) 0 rfl bu rfl rfl)<|rS (CL (gh c.bJ 0 1000) (ay) rfl)<|rS (NT rfl) ?_
 refine rS (MV rfl) ?_
 refine bH (t:=14) rfl (fun h14=>?_) (fun h14=>?_)
 ·replace h14:=XT h14
  refine rS (OX rfl)<|rS (OX rfl)<|rS (OX rfl)<|rS (OX rfl)<|rS (OX rfl)<|rS (PK rfl)<|RK hK4<|aX rfl<|WS fun _ hK5=>rS (AG rfl) ?_
  refine RK hK5<|aE<|Q1 hQ rfl rfl rfl ?_
  first|exact congrArg Value.bool (decide_eq_false fun h=>by have q1:=h.g9; have q2:=h.len; omega).symm|exact congrArg Value.bool (decide_eq_false fun h=>by have q:=h.sync i x hx; unfold dx at q; first|(rw [db (by omega)] at q; omega)|(rw [dZ (by omega) hy] at q; omega)|omega).symm|exact congrArg Value.bool (decide_eq_false fun h=>by have q:=h.pair m k y x hy (by omega) hx; unfold gJ at q; omega).symm|exact congrArg Value.bool (decide_eq_true (fZ (by omega) (by omega) (fg (by omega) hl4_1) (by omega) hl10_1)).symm
 replace h14:=XF h14
 refine rS (FA 1 rfl ff rfl)<|rS (L1 (Value.slice sA c.aB.length sC) 0 rfl kq rfl rfl)<|rS (LN rfl oM)<|rS (CL (gh ((c.aB.length:Nat):Int) 1 5) (ay) rfl)<|rS (NT rfl)<|rS (PK rfl)<|RK hK4 ?_
 refine bj rfl (fun h20=>?_) (fun h20=>?_)
 ·replace h20:=XT h20
  refine WS fun _ hK6=>rS (AG rfl)<|RK hK6<|aE<|Q1 hQ rfl rfl rfl ?_
  first|exact congrArg Value.bool (decide_eq_false fun h=>by have q1:=h.g9; have q2:=h.len; omega).symm|exact congrArg Value.bool (decide_eq_false fun h=>by have q:=h.sync i x hx; unfold dx at q; first|(rw [db (by omega)] at q; omega)|(rw [dZ (by omega) hy] at q; omega)|omega).symm|exact congrArg Value.bool (decide_eq_false fun h=>by have q:=h.pair m k y x hy (by omega) hx; unfold gJ at q; omega).symm|exact congrArg Value.bool (decide_eq_true (fZ (by omega) (by omega) (fg (by omega) hl4_1) (by omega) hl10_1)).symm
 replace h20:=XF h20
 refine WK hK3<|aq fun _ hK7=>WS fun _ hK8=>rS (AG rfl)<|RK hK8<|aG ?_
 have hinit:(0≤c.aB.length)∧(∀ (j:Nat) y,j<0→c.aB[j]? =some y→dx c j y):=by exact ⟨Nat.zero_le _,fun j y hj=>absurd hj (Nat.not_lt_zero _)⟩
 refine cq (ι:={z:Nat // (z≤c.aB.length)∧(∀ (j:Nat) y,j<z→c.aB[j]? =some y→dx c j y)}) (fun z=>[(1,(Value.pointer (some ⟨b2,0,none⟩))),(3,(Value.int .i64 ((z.1:Nat):Int)))]) (fun z=>[(aT b2 63 (bO.cells (bO.mk c.bJ (av.mk sA c.aB.length sC)))),(rd sA c.aB.length 3 (c.aB.map bD.cells)).ro]) (fun z=>c.aB.length-z.1) ⟨0,hinit⟩ (an.cons rfl<|an.cons rfl<|an.nil _) (fun w hs=>St.br [0,1] rfl rfl hs) ?_
 clear hinit
 rintro ⟨i,⟨hl4_0,hl4_1⟩⟩ J9 hJ9
 try dsimp only
 have hpv:=zY hl4_0 hl4_1
 refine aq fun _ hK10=>WS fun _ hK11=>rS (MV rfl)<|rS (FA 1 rfl ff rfl)<|rS (L1 (Value.slice sA c.aB.length sC) 0 rfl kq rfl rfl)<|rS (LN rfl oM)<|rS (BI rfl cv)<|RK hK11 ?_
 refine bj rfl (fun h25=>?_) (fun h25=>?_)
 ·replace h25:=DT h25
  refine WK hK10<|aq fun _ hK12=>aG<|WS fun _ hK13=>rS (FA 1 rfl ff rfl)<|rS (L1 (Value.slice sA c.aB.length sC) 0 rfl kq rfl rfl)<|rS (MV rfl) ?_
  obtain ⟨x,hx⟩: ∃ y_,c.aB[i]? =some y_:=⟨c.aB[i]'(by omega),List.getElem?_eq_getElem _⟩
  have hxm:(c.aB.map bD.cells)[i]? =some (bD.cells x):=by rw [List.getElem?_map,hx]; rfl
  refine rS (IA i rfl (aI 1 rfl) pR (by decide) (by omega) (by omega))<|rS (lF i 0 (bD.cells x) rfl rr (aI 1 rfl) hxm rfl (by decide) rfl rfl)<|AL rfl u0 fun b14=>fO rfl uR rfl<|RK hK13<|aq fun _ hK15=>dm cG 41 (by kernel_rfl)<|dS (FA 0 rfl js rfl)<|dS (L1 (Value.int .i64 x.At) 0 rfl bu rfl rfl)<|dS (CL (gh x.At 0 86400000) (ay) rfl) ?_
  refine dS (NT rfl)<|dS (MV rfl) ?_
  refine e9 (t:=37) rfl (fun h37=>?_) (fun h37=>?_)
  ·replace h37:=XT h37
   refine dS (OX rfl)<|dS (OX rfl)<|dS (OX rfl)<|dS (OX rfl)<|dS (OX rfl)<|dS (OX rfl)<|dS (OX rfl)<|dS (OX rfl)<|dS (OX rfl)<|dS (OX rfl) ?_
   refine dS (OX rfl)<|dS (OX rfl)<|dS (OX rfl)<|dS (OX rfl)<|dS (PK rfl)<|dS (MV rfl)<|dS (OX rfl)<|dS (OX rfl)<|dS (OX rfl)<|dS (OX rfl) ?_
   refine dS (PK rfl)<|dS (MV rfl)<|dS (OX rfl)<|dS (OX rfl)<|dS (OX rfl)<|dS (OX rfl)<|dS (OX rfl)<|dS (OX rfl)<|dS (OX rfl)<|dS (PK rfl) ?_
   refine dS (MV rfl)<|dS (OX rfl)<|dS (OX rfl)<|dS (OX rfl)<|dS (OX rfl)<|dS (PK rfl)<|cP<|RK hK15<|aX rfl<|WS fun _ hK16=>?_
   refine rS (AG rfl)<|RK hK16<|aE<|Q1 hQ rfl rfl rfl ?_
   first|exact congrArg Value.bool (decide_eq_false fun h=>by have q1:=h.g9; have q2:=h.len; omega).symm|exact congrArg Value.bool (decide_eq_false fun h=>by have q:=h.sync i x hx; unfold dx at q; first|(rw [db (by omega)] at q; omega)|(rw [dZ (by omega) hy] at q; omega)|omega).symm|exact congrArg Value.bool (decide_eq_false fun h=>by have q:=h.pair m k y x hy (by omega) hx; unfold gJ at q; omega).symm|exact congrArg Value.bool (decide_eq_true (fZ (by omega) (by omega) (fg (by omega) hl4_1) (by omega) hl10_1)).symm
  replace h37:=XF h37
  refine dS (MV rfl)<|dS (BI rfl fY)<|dS (MV rfl) ?_
  refine e9 (t:=40) rfl (fun h40=>?_) (fun h40=>?_)
  rotate_left 1
  ·replace h40:=DF h40
   refine dS (OX rfl)<|dS (OX rfl)<|dS (OX rfl)<|dS (OX rfl)<|dS (OX rfl)<|dS (OX rfl)<|dS (OX rfl)<|dS (OX rfl)<|dS (OX rfl)<|dS (OX rfl) ?_
   refine dS (PK rfl)<|dS (PK rfl)<|dS (MV rfl)<|dS (FA 1 rfl eU rfl)<|dS (FA 1 rfl bU rfl)<|dS (L1 (Value.int .i64 x.bQ.Lo) 0 rfl bu rfl rfl)<|dS (BI rfl cv)<|dS (PK rfl)<|dS (MV rfl) ?_
   refine e9 (t:=59) rfl (fun h59=>?_) (fun h59=>?_)
   ·replace h59:=DT h59
    refine dS (OX rfl)<|dS (OX rfl)<|dS (OX rfl)<|dS (OX rfl)<|dS (OX rfl)<|dS (OX rfl)<|dS (OX rfl)<|dS (PK rfl)<|dS (MV rfl)<|dS (OX rfl) ?_
    refine dS (OX rfl)<|dS (OX rfl)<|dS (OX rfl)<|dS (PK rfl)<|cP<|RK hK15<|aX rfl<|WS fun _ hK22=>rS (AG rfl)<|RK hK22 ?_
    refine aE<|Q1 hQ rfl rfl rfl ?_
    first|exact congrArg Value.bool (decide_eq_false fun h=>by have q1:=h.g9; have q2:=h.len; omega).symm|exact congrArg Value.bool (decide_eq_false fun h=>by have q:=h.sync i x hx; unfold dx at q; first|(rw [db (by omega)] at q; omega)|(rw [dZ (by omega) hy] at q; omega)|omega).symm|exact congrArg Value.bool (decide_eq_false fun h=>by have q:=h.pair m k y x hy (by omega) hx; unfold gJ at q; omega).symm|exact congrArg Value.bool (decide_eq_true (fZ (by omega) (by omega) (fg (by omega) hl4_1) (by omega) hl10_1)).symm
   replace h59:=DF h59
   refine dS (FA 1 rfl eU rfl)<|dS (FA 1 rfl bU rfl)<|dS (L1 (Value.int .i64 x.bQ.Lo) 0 rfl bu rfl rfl)<|dS (FA 1 rfl eU rfl)<|dS (FA 2 rfl cd rfl)<|dS (L1 (Value.int .i64 x.bQ.Hi) 0 rfl bu rfl rfl)<|dS (BI rfl fY)<|dS (PK rfl)<|dS (MV rfl) ?_
   refine e9 (t:=68) rfl (fun h68=>?_) (fun h68=>?_)
   ·replace h68:=DT h68
    refine dS (OX rfl)<|dS (OX rfl)<|dS (OX rfl)<|dS (OX rfl)<|dS (PK rfl)<|cP<|RK hK15<|aX rfl<|WS fun _ hK23=>rS (AG rfl) ?_
    refine RK hK23<|aE<|Q1 hQ rfl rfl rfl ?_
    first|exact congrArg Value.bool (decide_eq_false fun h=>by have q1:=h.g9; have q2:=h.len; omega).symm|exact congrArg Value.bool (decide_eq_false fun h=>by have q:=h.sync i x hx; unfold dx at q; first|(rw [db (by omega)] at q; omega)|(rw [dZ (by omega) hy] at q; omega)|omega).symm|exact congrArg Value.bool (decide_eq_false fun h=>by have q:=h.pair m k y x hy (by omega) hx; unfold gJ at q; omega).symm|exact congrArg Value.bool (decide_eq_true (fZ (by omega) (by omega) (fg (by omega) hl4_1) (by omega) hl10_1)).symm
   replace h68:=DF h68
   refine dS (FA 1 rfl eU rfl)<|dS (FA 2 rfl cd rfl)<|dS (L1 (Value.int .i64 x.bQ.Hi) 0 rfl bu rfl rfl)<|dS (BI rfl fY)<|dS (PK rfl)<|cP<|RK hK15 ?_
   refine bj rfl (fun h73=>?_) (fun h73=>?_)
   rotate_left 1
   ·replace h73:=DF h73
    refine cM<|aK<|KK hK12<|ar<|rS (MV rfl)<|rS (BI rfl (aZ ⟨by omega,by omega⟩))<|rS (AG rfl)<|aP ?_
    have hb25:(Value.int .i64 (((i+1):Nat):Int))=(Value.int .i64 (((i:Nat):Int)+1)):=by exact congrArg (Value.int .i64) (by omega)
    refine aO (hJ9 ⟨(i+1),⟨by omega,jw hl4_1 hx (by unfold dx; first|(rw [db (by omega)]; omega)|(rw [dZ (by omega) hy]; omega))⟩⟩ _ _ _ rfl (by first|omega|(simp; omega)) (an.cons rfl<|aQ rfl hb25<|an.nil _) (fun w hs=>St.br [1,2] rfl rfl hs))
   replace h73:=DT h73
   refine WS fun _ hK24=>rS (AG rfl)<|RK hK24<|aE<|Q1 hQ rfl rfl rfl ?_
   first|exact congrArg Value.bool (decide_eq_false fun h=>by have q1:=h.g9; have q2:=h.len; omega).symm|exact congrArg Value.bool (decide_eq_false fun h=>by have q:=h.sync i x hx; unfold dx at q; first|(rw [db (by omega)] at q; omega)|(rw [dZ (by omega) hy] at q; omega)|omega).symm|exact congrArg Value.bool (decide_eq_false fun h=>by have q:=h.pair m k y x hy (by omega) hx; unfold gJ at q; omega).symm|exact congrArg Value.bool (decide_eq_true (fZ (by omega) (by omega) (fg (by omega) hl4_1) (by omega) hl10_1)).symm
  replace h40:=DT h40
  refine dS (FA 0 rfl js rfl)<|dS (L1 (Value.int .i64 x.At) 0 rfl bu rfl rfl)<|dS (FA 1 rfl ff rfl)<|dS (L1 (Value.slice sA c.aB.length sC) 1 rfl kq rfl rfl)<|dS (MV rfl)<|dS (BI rfl (da ⟨by omega,by omega⟩)) ?_
  obtain ⟨y,hy⟩: ∃ y_,c.aB[(i-1)]? =some y_:=⟨c.aB[(i-1)]'(by omega),List.getElem?_eq_getElem _⟩
  have hym:(c.aB.map bD.cells)[(i-1)]? =some (bD.cells y):=by rw [List.getElem?_map,hy]; rfl
  refine dS (IA (i-1) rfl (aI 2 rfl) pR (by decide) (by omega) (by omega))<|dS (ou ((i-1)*3) rfl (aI 2 rfl) (Nat.mul_pos (by omega) (by decide)) js rfl)<|dS (iX (i-1) 0 (Value.int .i64 y.At) rfl bu (aI 2 rfl) hym rfl (by decide) rfl)<|dS (BI rfl gl)<|dS (PK rfl)<|dS (PK rfl)<|dS (MV rfl) ?_
  refine e9 (t:=53) rfl (fun h53=>?_) (fun h53=>?_)
  ·replace h53:=DT h53
   refine dS (OX rfl)<|dS (OX rfl)<|dS (OX rfl)<|dS (OX rfl)<|dS (PK rfl)<|dS (MV rfl)<|dS (OX rfl)<|dS (OX rfl)<|dS (OX rfl)<|dS (OX rfl) ?_
   refine dS (OX rfl)<|dS (OX rfl)<|dS (OX rfl)<|dS (PK rfl)<|dS (MV rfl)<|dS (OX rfl)<|dS (OX rfl)<|dS (OX rfl)<|dS (OX rfl)<|dS (PK rfl) ?_
   refine cP<|RK hK15<|aX rfl<|WS fun _ hK17=>rS (AG rfl)<|RK hK17<|aE<|Q1 hQ rfl rfl rfl ?_
   first|exact congrArg Value.bool (decide_eq_false fun h=>by have q1:=h.g9; have q2:=h.len; omega).symm|exact congrArg Value.bool (decide_eq_false fun h=>by have q:=h.sync i x hx; unfold dx at q; first|(rw [db (by omega)] at q; omega)|(rw [dZ (by omega) hy] at q; omega)|omega).symm|exact congrArg Value.bool (decide_eq_false fun h=>by have q:=h.pair m k y x hy (by omega) hx; unfold gJ at q; omega).symm|exact congrArg Value.bool (decide_eq_true (fZ (by omega) (by omega) (fg (by omega) hl4_1) (by omega) hl10_1)).symm
  replace h53:=DF h53
  refine dS (FA 1 rfl eU rfl)<|dS (FA 1 rfl bU rfl)<|dS (L1 (Value.int .i64 x.bQ.Lo) 0 rfl bu rfl rfl)<|dS (BI rfl cv)<|dS (PK rfl)<|dS (MV rfl) ?_
  refine e9 (t:=59) rfl (fun h59=>?_) (fun h59=>?_)
  ·replace h59:=DT h59
   refine dS (OX rfl)<|dS (OX rfl)<|dS (OX rfl)<|dS (OX rfl)<|dS (OX rfl)<|dS (OX rfl)<|dS (OX rfl)<|dS (PK rfl)<|dS (MV rfl)<|dS (OX rfl) ?_
   refine dS (OX rfl)<|dS (OX rfl)<|dS (OX rfl)<|dS (PK rfl)<|cP<|RK hK15<|aX rfl<|WS fun _ hK18=>rS (AG rfl)<|RK hK18 ?_
   refine aE<|Q1 hQ rfl rfl rfl ?_
   first|exact congrArg Value.bool (decide_eq_false fun h=>by have q1:=h.g9; have q2:=h.len; omega).symm|exact congrArg Value.bool (decide_eq_false fun h=>by have q:=h.sync i x hx; unfold dx at q; first|(rw [db (by omega)] at q; omega)|(rw [dZ (by omega) hy] at q; omega)|omega).symm|exact congrArg Value.bool (decide_eq_false fun h=>by have q:=h.pair m k y x hy (by omega) hx; unfold gJ at q; omega).symm|exact congrArg Value.bool (decide_eq_true (fZ (by omega) (by omega) (fg (by omega) hl4_1) (by omega) hl10_1)).symm
  replace h59:=DF h59
  refine dS (FA 1 rfl eU rfl)<|dS (FA 1 rfl bU rfl)<|dS (L1 (Value.int .i64 x.bQ.Lo) 0 rfl bu rfl rfl)<|dS (FA 1 rfl eU rfl)<|dS (FA 2 rfl cd rfl)<|dS (L1 (Value.int .i64 x.bQ.Hi) 0 rfl bu rfl rfl)<|dS (BI rfl fY)<|dS (PK rfl)<|dS (MV rfl) ?_
  refine e9 (t:=68) rfl (fun h68=>?_) (fun h68=>?_)
  ·replace h68:=DT h68
   refine dS (OX rfl)<|dS (OX rfl)<|dS (OX rfl)<|dS (OX rfl)<|dS (PK rfl)<|cP<|RK hK15<|aX rfl<|WS fun _ hK19=>rS (AG rfl) ?_
   refine RK hK19<|aE<|Q1 hQ rfl rfl rfl ?_
   first|exact congrArg Value.bool (decide_eq_false fun h=>by have q1:=h.g9; have q2:=h.len; omega).symm|exact congrArg Value.bool (decide_eq_false fun h=>by have q:=h.sync i x hx; unfold dx at q; first|(rw [db (by omega)] at q; omega)|(rw [dZ (by omega) hy] at q; omega)|omega).symm|exact congrArg Value.bool (decide_eq_false fun h=>by have q:=h.pair m k y x hy (by omega) hx; unfold gJ at q; omega).symm|exact congrArg Value.bool (decide_eq_true (fZ (by omega) (by omega) (fg (by omega) hl4_1) (by omega) hl10_1)).symm
  replace h68:=DF h68
  refine dS (FA 1 rfl eU rfl)<|dS (FA 2 rfl cd rfl)<|dS (L1 (Value.int .i64 x.bQ.Hi) 0 rfl bu rfl rfl)<|dS (BI rfl fY)<|dS (PK rfl)<|cP<|RK hK15 ?_
  refine bj rfl (fun h73=>?_) (fun h73=>?_)
  rotate_left 1
  ·replace h73:=DF h73
   refine cM<|aK<|KK hK12<|ar<|rS (MV rfl)<|rS (BI rfl (aZ ⟨by omega,by omega⟩))<|rS (AG rfl)<|aP ?_
   have hb21:(Value.int .i64 (((i+1):Nat):Int))=(Value.int .i64 (((i:Nat):Int)+1)):=by exact congrArg (Value.int .i64) (by omega)
   refine aO (hJ9 ⟨(i+1),⟨by omega,jw hl4_1 hx (by unfold dx; first|(rw [db (by omega)]; omega)|(rw [dZ (by omega) hy]; omega))⟩⟩ _ _ _ rfl (by first|omega|(simp; omega)) (an.cons rfl<|aQ rfl hb21<|an.nil _) (fun w hs=>St.br [1,2] rfl rfl hs))
  replace h73:=DT h73
  refine WS fun _ hK20=>rS (AG rfl)<|RK hK20<|aE<|Q1 hQ rfl rfl rfl ?_
  first|exact congrArg Value.bool (decide_eq_false fun h=>by have q1:=h.g9; have q2:=h.len; omega).symm|exact congrArg Value.bool (decide_eq_false fun h=>by have q:=h.sync i x hx; unfold dx at q; first|(rw [db (by omega)] at q; omega)|(rw [dZ (by omega) hy] at q; omega)|omega).symm|exact congrArg Value.bool (decide_eq_false fun h=>by have q:=h.pair m k y x hy (by omega) hx; unfold gJ at q; omega).symm|exact congrArg Value.bool (decide_eq_true (fZ (by omega) (by omega) (fg (by omega) hl4_1) (by omega) hl10_1)).symm
 replace h25:=DF h25
 refine bE<|ai<|ai<|aH<|KK hK7<|aq fun _ hK26=>WS fun _ hK27=>rS (AG rfl)<|RK hK27<|aG ?_
 have hinit:(0≤c.aB.length)∧(p7 c 0):=by exact ⟨Nat.zero_le _,fun j y hj=>absurd hj (Nat.not_lt_zero _)⟩
 refine cq (ι:={z:Nat // (z≤c.aB.length)∧(p7 c z)}) (fun z=>[(1,(Value.pointer (some ⟨b2,0,none⟩))),(5,(Value.int .i64 ((z.1:Nat):Int)))]) (fun z=>[(aT b2 63 (bO.cells (bO.mk c.bJ (av.mk sA c.aB.length sC)))),(rd sA c.aB.length 3 (c.aB.map bD.cells)).ro]) (fun z=>c.aB.length-z.1) ⟨0,hinit⟩ (an.cons rfl<|an.cons rfl<|an.nil _) (fun w hs=>St.br [0,1] rfl rfl hs) ?_
 clear hinit
 rintro ⟨m,⟨hl10_0,hl10_1⟩⟩ J28 hJ28
 try dsimp only
 have hall:=fg (P:=dx c) (by omega) hl4_1
 refine aq fun _ hK29=>WS fun _ hK30=>rS (MV rfl)<|rS (FA 1 rfl ff rfl)<|rS (L1 (Value.slice sA c.aB.length sC) 0 rfl kq rfl rfl)<|rS (LN rfl oM)<|rS (BI rfl cv)<|RK hK30 ?_
 refine bj rfl (fun h78=>?_) (fun h78=>?_)
 rotate_left 1
 ·replace h78:=DF h78
  refine bE<|ai<|ai<|aH<|KK hK26<|WS fun _ hK50=>rS (AG rfl)<|RK hK50<|aE<|Q1 hQ rfl rfl rfl ?_
  first|exact congrArg Value.bool (decide_eq_false fun h=>by have q1:=h.g9; have q2:=h.len; omega).symm|exact congrArg Value.bool (decide_eq_false fun h=>by have q:=h.sync i x hx; unfold dx at q; first|(rw [db (by omega)] at q; omega)|(rw [dZ (by omega) hy] at q; omega)|omega).symm|exact congrArg Value.bool (decide_eq_false fun h=>by have q:=h.pair m k y x hy (by omega) hx; unfold gJ at q; omega).symm|exact congrArg Value.bool (decide_eq_true (fZ (by omega) (by omega) (fg (by omega) hl4_1) (by omega) hl10_1)).symm
 replace h78:=DT h78
 refine WK hK29<|aq fun _ hK31=>aG<|WS fun _ hK32=>rS (AG rfl)<|RK hK32<|aG ?_
 have hinit:(0≤m)∧(∀ y,c.aB[m]? =some y→xZ c y 0):=by exact ⟨Nat.zero_le _,fun y _ j o hj=>absurd hj (Nat.not_lt_zero _)⟩
 refine cq (ι:={z:Nat // (z≤m)∧(∀ y,c.aB[m]? =some y→xZ c y z)}) (fun z=>[(1,(Value.pointer (some ⟨b2,0,none⟩))),(5,(Value.int .i64 ((m:Nat):Int))),(6,(Value.int .i64 ((z.1:Nat):Int)))]) (fun z=>[(aT b2 63 (bO.cells (bO.mk c.bJ (av.mk sA c.aB.length sC)))),(rd sA c.aB.length 3 (c.aB.map bD.cells)).ro]) (fun z=>m-z.1) ⟨0,hinit⟩ (an.cons rfl<|an.cons rfl<|an.cons rfl<|an.nil _) (fun w hs=>St.br [0,1] rfl rfl hs) ?_
 clear hinit
 rintro ⟨k,⟨hl13_0,hl13_1⟩⟩ J33 hJ33
 try dsimp only
 refine aq fun _ hK34=>WS fun _ hK35=>rS (MV rfl)<|rS (MV rfl)<|rS (BI rfl cv)<|RK hK35 ?_
 refine bj rfl (fun h83=>?_) (fun h83=>?_)
 rotate_left 1
 ·replace h83:=DF h83
  refine bE<|ai<|ai<|aH<|aK<|KK hK31<|ar<|rS (MV rfl)<|rS (BI rfl (aZ ⟨by omega,by omega⟩))<|rS (AG rfl) ?_
  refine aP ?_
  have hb49:(Value.int .i64 (((m+1):Nat):Int))=(Value.int .i64 (((m:Nat):Int)+1)):=by exact congrArg (Value.int .i64) (by omega)
  refine aO (hJ28 ⟨(m+1),⟨by omega,wW hl10_1 hl13_1 (by omega)⟩⟩ _ _ _ rfl (by first|omega|(simp; omega)) (an.cons rfl<|aQ rfl hb49<|an.nil _) (fun w hs=>St.br [0,1] rfl rfl hs))
 replace h83:=DT h83
 refine WK hK34<|aq fun _ hK36=>aG<|aq fun _ hK37=>lJ cG [0,1,2,3,4,5,6,7,8,9] [10,11,12,13] [false,false,false,false,false,false,false,false,false,false] [] [(aT b2 63 (bO.cells (bO.mk c.bJ (av.mk sA c.aB.length sC)))),(rd sA c.aB.length 3 (c.aB.map bD.cells)).ro] [] (by kernel_rfl) (fun w hs=>St.br [0,1] rfl rfl hs) (fun w hs=>St.br [] rfl rfl hs)<|eS rfl (FA 1 rfl ff rfl)<|eS rfl (L1 (Value.slice sA c.aB.length sC) 0 rfl kq rfl rfl)<|eS rfl (MV rfl) ?_
 obtain ⟨x,hx⟩: ∃ y_,c.aB[k]? =some y_:=⟨c.aB[k]'(by omega),List.getElem?_eq_getElem _⟩
 have hxm:(c.aB.map bD.cells)[k]? =some (bD.cells x):=by rw [List.getElem?_map,hx]; rfl
 refine eS rfl (IA k rfl (aI 1 rfl) pR (by decide) (by omega) (by omega))<|eS rfl (lF k 0 (bD.cells x) rfl rr (aI 1 rfl) hxm rfl (by decide) rfl rfl)<|eS rfl (FA 1 rfl ff rfl)<|eS rfl (L1 (Value.slice sA c.aB.length sC) 0 rfl kq rfl rfl)<|eS rfl (MV rfl) ?_
 obtain ⟨y,hy⟩: ∃ y_,c.aB[m]? =some y_:=⟨c.aB[m]'(by omega),List.getElem?_eq_getElem _⟩
 have hym:(c.aB.map bD.cells)[m]? =some (bD.cells y):=by rw [List.getElem?_map,hy]; rfl
 refine eS rfl (IA m rfl (aI 1 rfl) pR (by decide) (by omega) (by omega))<|eS rfl (lF m 0 (bD.cells y) rfl rr (aI 1 rfl) hym rfl (by decide) rfl rfl)<|fw rfl ?_
 refine hO [10,11] (by kernel_rfl) (dI ?_<|dI ?_<|jM)
 rotate_left 1
 ·refine NO rfl rfl [10,12,13] fun T38 hT38=>?_
  refine AL rfl u0 fun b39=>RD hT38 1 rfl<|N1 10<|NO rfl rfl [12,13] fun T40 hT40=>AL rfl u0 fun b41=>RD hT40 2 rfl<|N1 12<|NO rfl rfl [13] fun T42 hT42=>fO rfl uR rfl<|RD hT42 2 rfl ?_
  refine N1 13<|NO rfl rfl [] fun T43 hT43=>nk rfl uR rfl<|RD hT43 2 rfl<|g8<|KK hK37<|WS fun _ hK44=>rS (FA 0 rfl lk rfl)<|rS (L1 (Value.int .i64 c.bJ) 2 rfl bu rfl rfl)<|rS (FA 0 rfl js rfl) ?_
  refine rS (L1 (Value.int .i64 y.At) 1 rfl bu rfl rfl)<|rS (FA 0 rfl js rfl)<|rS (L1 (Value.int .i64 x.At) 0 rfl bu rfl rfl) ?_
  obtain ⟨hq1,hq2,hq3⟩:=qI (fun j z _ hz=>hall j z hz) hy (hall _ _ hy) (show k<m by omega) hx
  refine rS (BI rfl (da ⟨by omega,by omega⟩))<|rS (CL (tf c.bJ (y.At-x.At) (by omega) (by first|assumption|omega|(simp; done)|(simp; omega))) (ay) rfl)<|rS (AG rfl)<|RK hK44<|WS fun _ hK45=>rS (FA 1 rfl eU rfl)<|rS (FA 1 rfl bU rfl)<|rS (L1 (Value.int .i64 x.bQ.Lo) 0 rfl bu rfl rfl)<|rS (FA 1 rfl eU rfl)<|rS (FA 2 rfl cd rfl) ?_
  refine rS (L1 (Value.int .i64 y.bQ.Hi) 1 rfl bu rfl rfl)<|rS (BI rfl (da ⟨by omega,by omega⟩))<|rS (MV rfl)<|rS (BI rfl fY)<|rS (MV rfl) ?_
  refine bH (t:=113) rfl (fun h113=>?_) (fun h113=>?_)
  ·replace h113:=DT h113
   refine rS (OX rfl)<|rS (OX rfl)<|rS (OX rfl)<|rS (OX rfl)<|rS (OX rfl)<|rS (OX rfl)<|rS (OX rfl)<|rS (OX rfl)<|rS (OX rfl)<|rS (PK rfl) ?_
   refine RK hK45<|aX rfl<|WS fun _ hK46=>rS (AG rfl)<|RK hK46<|aE<|Q1 hQ rfl rfl rfl ?_
   first|exact congrArg Value.bool (decide_eq_false fun h=>by have q1:=h.g9; have q2:=h.len; omega).symm|exact congrArg Value.bool (decide_eq_false fun h=>by have q:=h.sync i x hx; unfold dx at q; first|(rw [db (by omega)] at q; omega)|(rw [dZ (by omega) hy] at q; omega)|omega).symm|exact congrArg Value.bool (decide_eq_false fun h=>by have q:=h.pair m k y x hy (by omega) hx; unfold gJ at q; omega).symm|exact congrArg Value.bool (decide_eq_true (fZ (by omega) (by omega) (fg (by omega) hl4_1) (by omega) hl10_1)).symm
  replace h113:=DF h113
  refine rS (FA 1 rfl eU rfl)<|rS (FA 1 rfl bU rfl)<|rS (L1 (Value.int .i64 y.bQ.Lo) 1 rfl bu rfl rfl)<|rS (FA 1 rfl eU rfl)<|rS (FA 2 rfl cd rfl)<|rS (L1 (Value.int .i64 x.bQ.Hi) 0 rfl bu rfl rfl)<|rS (BI rfl (da ⟨by omega,by omega⟩))<|rS (MV rfl)<|rS (BI rfl fY)<|rS (PK rfl) ?_
  refine RK hK45 ?_
  refine bj rfl (fun h123=>?_) (fun h123=>?_)
  rotate_left 1
  ·replace h123:=DF h123
   refine cM<|aK<|KK hK36<|ar<|rS (MV rfl)<|rS (BI rfl (aZ ⟨by omega,by omega⟩))<|rS (AG rfl)<|aP ?_
   have hb48:(Value.int .i64 (((k+1):Nat):Int))=(Value.int .i64 (((k:Nat):Int)+1)):=by exact congrArg (Value.int .i64) (by omega)
   refine aO (hJ33 ⟨(k+1),⟨by omega,fun z hz=>by rw [hy] at hz; cases hz; exact jw (hl13_1 _ hy) hx (by unfold gJ; omega)⟩⟩ _ _ _ rfl (by first|omega|(simp; omega)) (an.cons rfl<|an.cons rfl<|aQ rfl hb48<|an.nil _) (fun w hs=>St.br [2,3] rfl rfl hs))
  replace h123:=DT h123
  refine WS fun _ hK47=>rS (AG rfl)<|RK hK47<|aE<|Q1 hQ rfl rfl rfl ?_
  first|exact congrArg Value.bool (decide_eq_false fun h=>by have q1:=h.g9; have q2:=h.len; omega).symm|exact congrArg Value.bool (decide_eq_false fun h=>by have q:=h.sync i x hx; unfold dx at q; first|(rw [db (by omega)] at q; omega)|(rw [dZ (by omega) hy] at q; omega)|omega).symm|exact congrArg Value.bool (decide_eq_false fun h=>by have q:=h.pair m k y x hy (by omega) hx; unfold gJ at q; omega).symm|exact congrArg Value.bool (decide_eq_true (fZ (by omega) (by omega) (fg (by omega) hl4_1) (by omega) hl10_1)).symm
 refine NO rfl rfl [11,12,13] fun T38 hT38=>AL rfl u0 fun b39=>RD hT38 1 rfl<|N1 11<|NO rfl rfl [12,13] fun T40 hT40=>AL rfl u0 fun b41=>RD hT40 2 rfl<|N1 12<|NO rfl rfl [13] fun T42 hT42=>nk rfl uR rfl ?_
 refine RD hT42 2 rfl<|N1 13<|NO rfl rfl [] fun T43 hT43=>fO rfl uR rfl<|RD hT43 2 rfl<|g8<|KK hK37<|WS fun _ hK44=>rS (FA 0 rfl lk rfl)<|rS (L1 (Value.int .i64 c.bJ) 2 rfl bu rfl rfl) ?_
 refine rS (FA 0 rfl js rfl)<|rS (L1 (Value.int .i64 y.At) 0 rfl bu rfl rfl)<|rS (FA 0 rfl js rfl)<|rS (L1 (Value.int .i64 x.At) 1 rfl bu rfl rfl) ?_
 obtain ⟨hq1,hq2,hq3⟩:=qI (fun j z _ hz=>hall j z hz) hy (hall _ _ hy) (show k<m by omega) hx
 refine rS (BI rfl (da ⟨by omega,by omega⟩))<|rS (CL (tf c.bJ (y.At-x.At) (by omega) (by first|assumption|omega|(simp; done)|(simp; omega))) (ay) rfl)<|rS (AG rfl)<|RK hK44<|WS fun _ hK45=>rS (FA 1 rfl eU rfl)<|rS (FA 1 rfl bU rfl)<|rS (L1 (Value.int .i64 x.bQ.Lo) 1 rfl bu rfl rfl)<|rS (FA 1 rfl eU rfl)<|rS (FA 2 rfl cd rfl) ?_
 refine rS (L1 (Value.int .i64 y.bQ.Hi) 0 rfl bu rfl rfl)<|rS (BI rfl (da ⟨by omega,by omega⟩))<|rS (MV rfl)<|rS (BI rfl fY)<|rS (MV rfl) ?_
 refine bH (t:=113) rfl (fun h113=>?_) (fun h113=>?_)
 ·replace h113:=DT h113
  refine rS (OX rfl)<|rS (OX rfl)<|rS (OX rfl)<|rS (OX rfl)<|rS (OX rfl)<|rS (OX rfl)<|rS (OX rfl)<|rS (OX rfl)<|rS (OX rfl)<|rS (PK rfl) ?_
  refine RK hK45<|aX rfl<|WS fun _ hK46=>rS (AG rfl)<|RK hK46<|aE<|Q1 hQ rfl rfl rfl ?_
  first|exact congrArg Value.bool (decide_eq_false fun h=>by have q1:=h.g9; have q2:=h.len; omega).symm|exact congrArg Value.bool (decide_eq_false fun h=>by have q:=h.sync i x hx; unfold dx at q; first|(rw [db (by omega)] at q; omega)|(rw [dZ (by omega) hy] at q; omega)|omega).symm|exact congrArg Value.bool (decide_eq_false fun h=>by have q:=h.pair m k y x hy (by omega) hx; unfold gJ at q; omega).symm|exact congrArg Value.bool (decide_eq_true (fZ (by omega) (by omega) (fg (by omega) hl4_1) (by omega) hl10_1)).symm
 replace h113:=DF h113
 refine rS (FA 1 rfl eU rfl)<|rS (FA 1 rfl bU rfl)<|rS (L1 (Value.int .i64 y.bQ.Lo) 0 rfl bu rfl rfl)<|rS (FA 1 rfl eU rfl)<|rS (FA 2 rfl cd rfl)<|rS (L1 (Value.int .i64 x.bQ.Hi) 1 rfl bu rfl rfl)<|rS (BI rfl (da ⟨by omega,by omega⟩))<|rS (MV rfl)<|rS (BI rfl fY)<|rS (PK rfl) ?_
 refine RK hK45 ?_
 refine bj rfl (fun h123=>?_) (fun h123=>?_)
 rotate_left 1
 ·replace h123:=DF h123
  refine cM<|aK<|KK hK36<|ar<|rS (MV rfl)<|rS (BI rfl (aZ ⟨by omega,by omega⟩))<|rS (AG rfl)<|aP ?_
  have hb48:(Value.int .i64 (((k+1):Nat):Int))=(Value.int .i64 (((k:Nat):Int)+1)):=by exact congrArg (Value.int .i64) (by omega)
  refine aO (hJ33 ⟨(k+1),⟨by omega,fun z hz=>by rw [hy] at hz; cases hz; exact jw (hl13_1 _ hy) hx (by unfold gJ; omega)⟩⟩ _ _ _ rfl (by first|omega|(simp; omega)) (an.cons rfl<|an.cons rfl<|aQ rfl hb48<|an.nil _) (fun w hs=>St.br [2,3] rfl rfl hs))
 replace h123:=DT h123
 refine WS fun _ hK47=>rS (AG rfl)<|RK hK47<|aE<|Q1 hQ rfl rfl rfl ?_
 first|exact congrArg Value.bool (decide_eq_false fun h=>by have q1:=h.g9; have q2:=h.len; omega).symm|exact congrArg Value.bool (decide_eq_false fun h=>by have q:=h.sync i x hx; unfold dx at q; first|(rw [db (by omega)] at q; omega)|(rw [dZ (by omega) hy] at q; omega)|omega).symm|exact congrArg Value.bool (decide_eq_false fun h=>by have q:=h.pair m k y x hy (by omega) hx; unfold gJ at q; omega).symm|exact congrArg Value.bool (decide_eq_true (fZ (by omega) (by omega) (fg (by omega) hl4_1) (by omega) hl10_1)).symm
set_option maxRecDepth 100000 in
set_option maxHeartbeats 400000 in
theorem v_ (c:aj) (sA:Option Addr) (sC:Nat) (at_:Int) (hc:dP c) (ha:0≤at_∧at_≤90000000):
 eH Tryz.prog 120 [(Value.agg (bO.cells (bO.mk c.bJ (av.mk sA c.aB.length sC))).toArray),(Value.int .i64 at_)] [(rd sA c.aB.length 3 (c.aB.map bD.cells))] (Value.agg (ae.cells (fx c at_)).toArray):=by
 have hcl:=hc.len
 have hcd:=hc.g9
 refine bL Fe Tryz.func120 rfl rfl fun w0 Q hQ hN=>?_
 try dsimp only
 refine WS fun _ hK1=>fy rfl fun b2=>AL rfl dF fun b3=>RK hK1<|WS fun _ hK4=>AL rfl dF fun b5=>RK hK4<|aq fun _ hK6=>WS fun _ hK7=>rS (AG rfl) ?_
 refine RK hK7<|aG ?_
 have hinit:(0≤c.aB.length):=by exact Nat.zero_le _
 refine cq (ι:={z:Nat // (z≤c.aB.length)}) (fun z=>[(1,(Value.int .i64 at_)),(2,(Value.pointer (some ⟨b2,0,none⟩))),(4,(Value.pointer (some ⟨b3,0,none⟩))),(5,(Value.pointer (some ⟨b5,0,none⟩))),(6,(Value.int .i64 ((z.1:Nat):Int)))]) (fun z=>[(aT b5 47 (ae.cells (g4 c at_ z.1))),(aT b3 47 (ae.cells (ae.mk 0 0))),(aT b2 63 (bO.cells (bO.mk c.bJ (av.mk sA c.aB.length sC)))),(rd sA c.aB.length 3 (c.aB.map bD.cells)).ro]) (fun z=>c.aB.length-z.1) ⟨0,hinit⟩ (an.cons rfl<|an.cons rfl<|an.cons rfl<|an.cons rfl<|an.cons rfl<|an.nil _) (fun w hs=>St.br [0,1,2,3] rfl rfl hs) ?_
 clear hinit
 rintro ⟨i,hl0_0⟩ J8 hJ8
 try dsimp only
 refine aq fun _ hK9=>WS fun _ hK10=>rS (MV rfl)<|rS (FA 1 rfl ff rfl)<|rS (L1 (Value.slice sA c.aB.length sC) 2 rfl kq rfl rfl)<|rS (LN rfl oM)<|rS (BI rfl cv)<|RK hK10 ?_
 refine bj rfl (fun h11=>?_) (fun h11=>?_)
 rotate_left 1
 ·replace h11:=DF h11
  refine bE<|ai<|ai<|aH<|KK hK6<|WS fun _ hK24=>rS (LW 0 rfl cp rfl rfl)<|nk rfl cK rfl<|RK hK24<|aE ?_
  refine hQ _ _ _ (bB (vs:=[(Value.agg (ae.cells (g4 c at_ i)).toArray)]) ⟨⟨_,rfl,.inl ⟨_,_,cp,cy (vs:=(ae.cells (g4 c at_ i))) 1 rfl rfl,rfl,rfl⟩⟩,trivial⟩ fun w hs=>fq ?_ hs)
  show (Value.agg (ae.cells (g4 c at_ i)).toArray)=(Value.agg (ae.cells (fx c at_)).toArray)
  clear hs w hQ hN hK24 hK10 hK9 hK7 hK6 hK4 hK1
  rw [wU hc (show c.aB.length≤i by omega)]
 replace h11:=DT h11
 refine WK hK9<|aq fun _ hK12=>aG<|WS fun _ hK13=>rS (FA 1 rfl ff rfl)<|rS (L1 (Value.slice sA c.aB.length sC) 2 rfl kq rfl rfl)<|rS (MV rfl) ?_
 obtain ⟨x,hx⟩: ∃ y_,c.aB[i]? =some y_:=⟨c.aB[i]'(by omega),List.getElem?_eq_getElem _⟩
 have hxm:(c.aB.map bD.cells)[i]? =some (bD.cells x):=by rw [List.getElem?_map,hx]; rfl
 refine rS (IA i rfl (aI 3 rfl) pR (by decide) (by omega) (by omega))<|rS (lF i 0 (bD.cells x) rfl rr (aI 3 rfl) hxm rfl (by decide) rfl rfl)<|AL rfl u0 fun b14=>fO rfl uR rfl<|RK hK13<|WS fun _ hK15=>rS (FA 0 rfl lk rfl)<|rS (L1 (Value.int .i64 c.bJ) 3 rfl bu rfl rfl) ?_
 have hsb:=hc.qj hx
 have hob:0≤kW (c.bJ*max (at_-x.At) (x.At-at_)) 1000000∧kW (c.bJ*max (at_-x.At) (x.At-at_)) 1000000≤90001:=qp hcd ha hsb.1
 refine rS (MV rfl)<|rS (FA 0 rfl js rfl)<|rS (L1 (Value.int .i64 x.At) 0 rfl bu rfl rfl)<|rS (BI rfl (da ⟨by omega,by omega⟩))<|rS (FA 0 rfl js rfl)<|rS (L1 (Value.int .i64 x.At) 0 rfl bu rfl rfl)<|rS (MV rfl)<|rS (BI rfl (da ⟨by omega,by omega⟩))<|rS (MX rfl)<|rS (CL (tf c.bJ (max (at_-x.At) (x.At-at_)) (by omega) (by first|assumption|omega|(simp; done)|(simp; omega))) (ay) rfl) ?_
 refine rS (AG rfl)<|RK hK15<|WS fun _ hK16=>rS (FA 1 rfl eU rfl)<|rS (FA 1 rfl bU rfl)<|rS (L1 (Value.int .i64 x.bQ.Lo) 0 rfl bu rfl rfl)<|rS (MV rfl)<|rS (BI rfl (da ⟨by omega,by omega⟩))<|rS (FA 1 rfl eU rfl)<|rS (FA 2 rfl cd rfl) ?_
 refine rS (L1 (Value.int .i64 x.bQ.Hi) 0 rfl bu rfl rfl)<|rS (MV rfl)<|rS (BI rfl (aZ ⟨by omega,by omega⟩))<|rS (SX (bp (xs:=[(0,.tmp 38),(1,.tmp 43)]) (cs:=(ae.cells (ae.mk (x.bQ.Lo-(kW (c.bJ*(max (at_-x.At) (x.At-at_))) 1000000)) (x.bQ.Hi+(kW (c.bJ*(max (at_-x.At) (x.At-at_))) 1000000))))) rfl rfl (bq fI rfl)) rfl rfl)<|AL rfl dF fun b17=>fO rfl cK rfl<|RK hK16<|aq fun _ hK18=>WS fun _ hK19=>rS (MV rfl) ?_
 refine rS (BI rfl g0)<|RK hK19 ?_
 refine bj rfl (fun h46=>?_) (fun h46=>?_)
 rotate_left 1
 ·replace h46:=DF h46
  refine WK hK18<|ar<|rS (FA 0 rfl bU rfl)<|rS (L1 (Value.int .i64 ((g4 c at_ i).Lo)) 2 rfl bu rfl rfl)<|rS (FA 0 rfl bU rfl)<|rS (L1 (Value.int .i64 (x.bQ.Lo-(kW (c.bJ*(max (at_-x.At) (x.At-at_))) 1000000))) 0 rfl bu rfl rfl)<|rS (MX rfl)<|rS (FA 1 rfl cd rfl)<|rS (L1 (Value.int .i64 ((g4 c at_ i).Hi)) 2 rfl bu rfl rfl)<|rS (FA 1 rfl cd rfl) ?_
  refine rS (L1 (Value.int .i64 (x.bQ.Hi+(kW (c.bJ*(max (at_-x.At) (x.At-at_))) 1000000))) 0 rfl bu rfl rfl)<|rS (MN rfl)<|rS (SX (bp (xs:=[(0,.tmp 52),(1,.tmp 57)]) (cs:=(ae.cells (ae.mk (max ((g4 c at_ i).Lo) (x.bQ.Lo-(kW (c.bJ*(max (at_-x.At) (x.At-at_))) 1000000))) (min ((g4 c at_ i).Hi) (x.bQ.Hi+(kW (c.bJ*(max (at_-x.At) (x.At-at_))) 1000000)))))) rfl rfl (bq fI rfl)) rfl rfl)<|rM rfl cK rfl<|aP<|aK<|KK hK12 ?_
  have hb22:(ae.cells (ae.mk (max ((g4 c at_ i).Lo) (x.bQ.Lo-(kW (c.bJ*(max (at_-x.At) (x.At-at_))) 1000000))) (min ((g4 c at_ i).Hi) (x.bQ.Hi+(kW (c.bJ*(max (at_-x.At) (x.At-at_))) 1000000)))))=(ae.cells (g4 c at_ (i+1))):=by first|exact congrArg ae.cells (pO hc ha hx (by omega)).symm|exact congrArg ae.cells (q7 hx (by omega)).symm
  rw [hb22]
  refine ar<|rS (MV rfl)<|rS (BI rfl (aZ ⟨by omega,by omega⟩))<|rS (AG rfl)<|aP ?_
  have hb23:(Value.int .i64 (((i+1):Nat):Int))=(Value.int .i64 (((i:Nat):Int)+1)):=by exact congrArg (Value.int .i64) (by omega)
  refine aO (hJ8 ⟨(i+1),(by first|omega|(simp only []; omega))⟩ _ _ _ rfl (by first|omega|(simp; omega)) (an.cons rfl<|an.cons rfl<|an.cons rfl<|an.cons rfl<|aQ rfl hb23<|an.nil _) (fun w hs=>St.br [2,3,4,5] rfl rfl hs))
 replace h46:=DT h46
 refine ar<|rS (LW 0 rfl cp rfl rfl)<|rM rfl cK rfl<|RK hK18<|ar<|rS (FA 0 rfl bU rfl)<|rS (L1 (Value.int .i64 (x.bQ.Lo-(kW (c.bJ*(max (at_-x.At) (x.At-at_))) 1000000))) 2 rfl bu rfl rfl)<|rS (FA 0 rfl bU rfl)<|rS (L1 (Value.int .i64 (x.bQ.Lo-(kW (c.bJ*(max (at_-x.At) (x.At-at_))) 1000000))) 0 rfl bu rfl rfl)<|rS (MX rfl) ?_
 refine rS (FA 1 rfl cd rfl)<|rS (L1 (Value.int .i64 (x.bQ.Hi+(kW (c.bJ*(max (at_-x.At) (x.At-at_))) 1000000))) 2 rfl bu rfl rfl)<|rS (FA 1 rfl cd rfl)<|rS (L1 (Value.int .i64 (x.bQ.Hi+(kW (c.bJ*(max (at_-x.At) (x.At-at_))) 1000000))) 0 rfl bu rfl rfl)<|rS (MN rfl)<|rS (SX (bp (xs:=[(0,.tmp 52),(1,.tmp 57)]) (cs:=(ae.cells (ae.mk (max (x.bQ.Lo-(kW (c.bJ*(max (at_-x.At) (x.At-at_))) 1000000)) (x.bQ.Lo-(kW (c.bJ*(max (at_-x.At) (x.At-at_))) 1000000))) (min (x.bQ.Hi+(kW (c.bJ*(max (at_-x.At) (x.At-at_))) 1000000)) (x.bQ.Hi+(kW (c.bJ*(max (at_-x.At) (x.At-at_))) 1000000)))))) rfl rfl (bq fI rfl)) rfl rfl)<|rM rfl cK rfl<|aP<|aK<|KK hK12 ?_
 have hb20:(ae.cells (ae.mk (max (x.bQ.Lo-(kW (c.bJ*(max (at_-x.At) (x.At-at_))) 1000000)) (x.bQ.Lo-(kW (c.bJ*(max (at_-x.At) (x.At-at_))) 1000000))) (min (x.bQ.Hi+(kW (c.bJ*(max (at_-x.At) (x.At-at_))) 1000000)) (x.bQ.Hi+(kW (c.bJ*(max (at_-x.At) (x.At-at_))) 1000000)))))=(ae.cells (g4 c at_ (i+1))):=by first|exact congrArg ae.cells (pO hc ha hx (by omega)).symm|exact congrArg ae.cells (q7 hx (by omega)).symm
 rw [hb20]
 refine ar<|rS (MV rfl)<|rS (BI rfl (aZ ⟨by omega,by omega⟩))<|rS (AG rfl)<|aP ?_
 have hb21:(Value.int .i64 (((i+1):Nat):Int))=(Value.int .i64 (((i:Nat):Int)+1)):=by exact congrArg (Value.int .i64) (by omega)
 refine aO (hJ8 ⟨(i+1),(by first|omega|(simp only []; omega))⟩ _ _ _ rfl (by first|omega|(simp; omega)) (an.cons rfl<|an.cons rfl<|an.cons rfl<|an.cons rfl<|aQ rfl hb21<|an.nil _) (fun w hs=>St.br [2,3,4,5] rfl rfl hs))
set_option maxRecDepth 100000 in
set_option maxHeartbeats 400000 in
theorem z5 (l:aU) (kA:Option Addr) (kC:Nat) (az:List RA) (cA:Option Addr) (cC:Nat) (bA:Option Addr) (bC:Nat) (n:Int) (hin:dC l az) (htr:cj l.al=true) (hbk: ∀ b∈l.aa,ic l b) (hn:0≤n∧n<(l.aa.length:Int)):
 eH Tryz.prog 92 [(Value.agg (aF.cells (aF.mk (au.mk (av.mk kA l.al.length kC)) l.bw (av.mk cA l.ag.length cC) (av.mk bA l.aa.length bC) l.aD l.aV l.aJ)).toArray),(Value.int .i64 n)] [(rd kA l.al.length 9 (l.al.map ah.cells)),(rd cA l.ag.length 2 (List.zipWith aj.cells l.ag az)),(cZ (aL aj.dX l.ag az)),(rd bA l.aa.length 4 (l.aa.map aY.cells))] (Value.int .i64 (kg l n.toNat)):=by
 have htk:=hin.nm
 have hck:=hin.nv
 have has:=hin.m_
 have hbm:=hin.nd
 have hsd:=hin.side
 refine bL ID Tryz.func92 rfl rfl fun w0 Q hQ hN=>?_
 try dsimp only
 refine WS fun _ hK1=>fy rfl fun b2=>rS (AG rfl)<|RK hK1<|aq fun _ hK3=>WS fun _ hK4=>rS (MV rfl)<|rS (BI rfl g0)<|RK hK4 ?_
 refine bj rfl (fun h10=>?_) (fun h10=>?_)
 ·replace h10:=DT h10
  refine aq fun _ hK5=>er cG [0,1,2,3,4,5,6,7,8,9,10,13] [11,12] [false,false,false,false,false,false,false,false,false,false,false,false] [false,false] [(aT b2 28 (aF.cells (aF.mk (au.mk (av.mk kA l.al.length kC)) l.bw (av.mk cA l.ag.length cC) (av.mk bA l.aa.length bC) l.aD l.aV l.aJ))),(rd kA l.al.length 9 (l.al.map ah.cells)).ro,(rd cA l.ag.length 2 (List.zipWith aj.cells l.ag az)).ro,(cZ (aL aj.dX l.ag az)).ro,(rd bA l.aa.length 4 (l.aa.map aY.cells)).ro] [] (by kernel_rfl) (fun w hs=>St.br [0,1,2,3,4] rfl rfl hs) (fun w hs=>St.br [] rfl rfl hs)<|eS rfl (FA 0 rfl j4 rfl)<|eS rfl (LP (au.cells (au.mk (av.mk kA l.al.length kC))) 0 rfl jn rfl rfl rfl)<|eS rfl (FA 3 rfl dy rfl)<|eS rfl (L1 (Value.slice bA l.aa.length bC) 0 rfl g3 rfl rfl) ?_
  obtain ⟨y,hy⟩: ∃ y_,l.aa[0]? =some y_:=⟨l.aa[0]'(by omega),List.getElem?_eq_getElem _⟩
  have hym:(l.aa.map aY.cells)[0]? =some (aY.cells y):=by rw [List.getElem?_map,hy]; rfl
  refine eS rfl (IA 0 rfl (aI 4 rfl) qu (by decide) rfl (by omega))<|eS rfl (ou (0*4) rfl (aI 4 rfl) (Nat.mul_pos (by omega) (by decide)) mM rfl)<|eS rfl (lF 0 0 (bS.cells y.hU) rfl kO (aI 4 rfl) hym rfl (by decide) rfl rfl)<|eS rfl (CL (Gr l.al kA kC y.hU (by first|assumption|omega|(simp; done)|(simp; omega)) (by first|assumption|omega|(simp; done)|(simp; omega))) (ax 1 rfl rfl<|ay) rfl)<|eS rfl (MV rfl)<|eS rfl (EX rfl)<|eS rfl (EX rfl)<|eS rfl (AG rfl)<|fw rfl<|cL rfl fun T6 hT6=>?_
  refine AL rfl dF fun b7=>RN hT6 [1,2,3,4,5] rfl rfl<|cL rfl fun T8 hT8=>fO rfl cK rfl<|RN hT8 [1,2,3,4,5] rfl rfl<|g_ rfl<|KK hK5<|WS fun _ hK9=>rS (FA 0 rfl bU rfl)<|rS (L1 (Value.int .i64 ((vc l.al y.hU).Lo)) 0 rfl bu rfl rfl) ?_
  refine rS (AG rfl)<|RK hK9<|aE<|Q1 hQ rfl rfl rfl ?_
  first|(refine congrArg (Value.int .i64) ?_; rw [show n.toNat=0 by omega]; rw [oc hy,(l8 htr (hbk _ (List.mem_of_getElem? hy)).1).2])|(refine congrArg (Value.int .i64) ?_; rw [pt (by omega) hx (by rw [show n.toNat-1=(n-1).toNat by omega]; exact hy),(cw htr ⟨(hbk _ (List.mem_of_getElem? hy)).1,(hbk _ (List.mem_of_getElem? hx)).1⟩).2])
 replace h10:=DF h10
 refine WK hK3<|aq fun _ hK10=>er cG [0,1,2,3,4,5,6,7,8,9,10,11,12,13,14,15,16,17,18,21] [19,20] [false,false,false,false,false,false,false,false,false,false,false,false,false,false,false,false,false,false,false,false] [false,false] [(aT b2 28 (aF.cells (aF.mk (au.mk (av.mk kA l.al.length kC)) l.bw (av.mk cA l.ag.length cC) (av.mk bA l.aa.length bC) l.aD l.aV l.aJ))),(rd kA l.al.length 9 (l.al.map ah.cells)).ro,(rd cA l.ag.length 2 (List.zipWith aj.cells l.ag az)).ro,(cZ (aL aj.dX l.ag az)).ro,(rd bA l.aa.length 4 (l.aa.map aY.cells)).ro] [] (by kernel_rfl) (fun w hs=>St.br [0,1,2,3,4] rfl rfl hs) (fun w hs=>St.br [] rfl rfl hs)<|eS rfl (FA 0 rfl j4 rfl)<|eS rfl (LP (au.cells (au.mk (av.mk kA l.al.length kC))) 0 rfl jn rfl rfl rfl)<|eS rfl (FA 3 rfl dy rfl)<|eS rfl (L1 (Value.slice bA l.aa.length bC) 0 rfl g3 rfl rfl)<|eS rfl (MV rfl)<|eS rfl (BI rfl (da ⟨by omega,by omega⟩)) ?_
 obtain ⟨y,hy⟩: ∃ y_,l.aa[((n-1)).toNat]? =some y_:=⟨l.aa[((n-1)).toNat]'(by omega),List.getElem?_eq_getElem _⟩
 have hym:(l.aa.map aY.cells)[((n-1)).toNat]? =some (aY.cells y):=by rw [List.getElem?_map,hy]; rfl
 refine eS rfl (IA (((n-1)).toNat) rfl (aI 4 rfl) qu (by decide) (by omega) (by omega))<|eS rfl (ou ((((n-1)).toNat)*4) rfl (aI 4 rfl) (Nat.mul_pos (by omega) (by decide)) mM rfl)<|eS rfl (lF (((n-1)).toNat) 0 (bS.cells y.hU) rfl kO (aI 4 rfl) hym rfl (by decide) rfl rfl)<|eS rfl (FA 3 rfl dy rfl)<|eS rfl (L1 (Value.slice bA l.aa.length bC) 0 rfl g3 rfl rfl)<|eS rfl (MV rfl) ?_
 obtain ⟨x,hx⟩: ∃ y_,l.aa[(n).toNat]? =some y_:=⟨l.aa[(n).toNat]'(by omega),List.getElem?_eq_getElem _⟩
 have hxm:(l.aa.map aY.cells)[(n).toNat]? =some (aY.cells x):=by rw [List.getElem?_map,hx]; rfl
 refine eS rfl (IA ((n).toNat) rfl (aI 4 rfl) qu (by decide) (by omega) (by omega))<|eS rfl (ou (((n).toNat)*4) rfl (aI 4 rfl) (Nat.mul_pos (by omega) (by decide)) mM rfl)<|eS rfl (lF ((n).toNat) 0 (bS.cells x.hU) rfl kO (aI 4 rfl) hxm rfl (by decide) rfl rfl)<|eS rfl (CL (AW l.al kA kC y.hU x.hU (by first|assumption|omega|(simp; done)|(simp; omega)) (by first|assumption|omega|(simp; done)|(simp; omega))) (ax 1 rfl rfl<|ay) rfl)<|eS rfl (MV rfl)<|eS rfl (EX rfl)<|eS rfl (EX rfl)<|eS rfl (AG rfl)<|fw rfl<|cL rfl fun T11 hT11=>?_
 refine AL rfl dF fun b12=>RN hT11 [1,2,3,4,5] rfl rfl<|cL rfl fun T13 hT13=>fO rfl cK rfl<|RN hT13 [1,2,3,4,5] rfl rfl<|g_ rfl<|KK hK10<|WS fun _ hK14=>rS (FA 0 rfl bU rfl)<|rS (L1 (Value.int .i64 ((dJ l.al y.hU x.hU).Lo)) 0 rfl bu rfl rfl) ?_
 refine rS (AG rfl)<|RK hK14<|aE<|Q1 hQ rfl rfl rfl ?_
 first|(refine congrArg (Value.int .i64) ?_; rw [show n.toNat=0 by omega]; rw [oc hy,(l8 htr (hbk _ (List.mem_of_getElem? hy)).1).2])|(refine congrArg (Value.int .i64) ?_; rw [pt (by omega) hx (by rw [show n.toNat-1=(n-1).toNat by omega]; exact hy),(cw htr ⟨(hbk _ (List.mem_of_getElem? hy)).1,(hbk _ (List.mem_of_getElem? hx)).1⟩).2])
set_option maxRecDepth 100000 in
set_option maxHeartbeats 400000 in
theorem Af (l:aU) (kA:Option Addr) (kC:Nat) (az:List RA) (cA:Option Addr) (cC:Nat) (bA:Option Addr) (bC:Nat) (n:Int) (hin:dC l az) (htr:cj l.al=true) (hok:kd l) (hn:0≤n∧n<(l.aa.length:Int)):
 eH Tryz.prog 84 [(Value.agg (aF.cells (aF.mk (au.mk (av.mk kA l.al.length kC)) l.bw (av.mk cA l.ag.length cC) (av.mk bA l.aa.length bC) l.aD l.aV l.aJ)).toArray),(Value.int .i64 n)] [(rd kA l.al.length 9 (l.al.map ah.cells)),(rd cA l.ag.length 2 (List.zipWith aj.cells l.ag az)),(cZ (aL aj.dX l.ag az)),(rd bA l.aa.length 4 (l.aa.map aY.cells))] (Value.int .i64 (df l n.toNat)):=by
 have htk:=hin.nm
 have hck:=hin.nv
 have has:=hin.m_
 have hbm:=hin.nd
 have hhd:=hok.head
 unfold cS at hhd
 have hwb:=vH htr hok.jT n.toNat
 have hwy:=hok.tx n.toNat (by omega)
 refine bL H_ Tryz.func84 rfl rfl fun w0 Q hQ hN=>?_
 try dsimp only
 refine WS fun _ hK1=>fy rfl fun b2=>rS (AG rfl)<|RK hK1<|aq fun _ hK3=>dm cG 12 (by kernel_rfl)<|dS (LW 0 rfl eO rfl rfl)<|dS (MV rfl)<|dS (CL (z5 l kA kC az cA cC bA bC n hin htr (by exact hok.jT) hn) (ax 1 rfl rfl<|ax 2 rfl rfl<|ax 3 rfl rfl<|ax 4 rfl rfl<|ay) rfl)<|dS (BI rfl (vV ⟨by omega,by omega⟩)) ?_
 refine dS (FA 1 rfl n9 rfl)<|dS (L1 (Value.int .i64 l.bw) 0 rfl bu rfl rfl)<|dS (BI rfl (aZ ⟨by omega,by omega⟩))<|dS (BI rfl (da ⟨by omega,by omega⟩))<|dS (FA 1 rfl n9 rfl)<|dS (L1 (Value.int .i64 l.bw) 0 rfl bu rfl rfl)<|dS (BI rfl (sP (by omega) (by omega) (by omega)))<|dS (AG rfl)<|cP<|RK hK3 ?_
 refine aE<|Q1 hQ rfl rfl rfl ?_
 exact congrArg (Value.int .i64) (by unfold df kW; rw [Int.mul_comm])
set_option maxRecDepth 100000 in
set_option maxHeartbeats 400000 in
theorem Cd (l:aU) (kA:Option Addr) (kC:Nat) (az:List RA) (cA:Option Addr) (cC:Nat) (bA:Option Addr) (bC:Nat) (hin:dC l az) (htr:cj l.al=true):
 eH Tryz.prog 72 [(Value.agg (aF.cells (aF.mk (au.mk (av.mk kA l.al.length kC)) l.bw (av.mk cA l.ag.length cC) (av.mk bA l.aa.length bC) l.aD l.aV l.aJ)).toArray)] [(rd kA l.al.length 9 (l.al.map ah.cells)),(rd cA l.ag.length 2 (List.zipWith aj.cells l.ag az)),(cZ (aL aj.dX l.ag az)),(rd bA l.aa.length 4 (l.aa.map aY.cells))] (Value.bool (decide (kd l))):=by
 have htk:=hin.nm
 have hck:=hin.nv
 have has:=hin.m_
 have hbm:=hin.nd
 have hsd:=hin.side
 have hst:=iI htr
 have hl12:=jt htr
 refine bL Ip Tryz.func72 rfl rfl fun w0 Q hQ hN=>?_
 try dsimp only
 refine WS fun _ hK1=>fy rfl fun b2=>rS (AG rfl)<|RK hK1<|aq fun _ hK3=>WS fun _ hK4=>rS (FA 1 rfl n9 rfl)<|rS (L1 (Value.int .i64 l.bw) 0 rfl bu rfl rfl)<|rS (CL (gh l.bw 1 5000) (ay) rfl)<|rS (NT rfl) ?_
 refine rS (MV rfl) ?_
 refine bH (t:=10) rfl (fun h10=>?_) (fun h10=>?_)
 ·replace h10:=XT h10
  refine rS (OX rfl)<|rS (OX rfl)<|rS (OX rfl)<|rS (OX rfl)<|rS (OX rfl)<|rS (PK rfl)<|rS (MV rfl)<|rS (OX rfl)<|rS (OX rfl)<|rS (OX rfl) ?_
  refine rS (OX rfl)<|rS (OX rfl)<|rS (PK rfl)<|rS (MV rfl)<|rS (OX rfl)<|rS (OX rfl)<|rS (OX rfl)<|rS (OX rfl)<|rS (OX rfl)<|rS (OX rfl) ?_
  refine rS (OX rfl)<|rS (OX rfl)<|rS (PK rfl)<|rS (MV rfl)<|rS (OX rfl)<|rS (OX rfl)<|rS (OX rfl)<|rS (OX rfl)<|rS (PK rfl)<|rS (MV rfl) ?_
  refine rS (OX rfl)<|rS (OX rfl)<|rS (OX rfl)<|rS (OX rfl)<|rS (PK rfl)<|RK hK4<|aX rfl<|WS fun _ hK5=>rS (AG rfl)<|RK hK5 ?_
  refine aE<|Q1 hQ rfl rfl rfl ?_
  first|exact congrArg Value.bool (decide_eq_false fun h=>by have q:=h.head; unfold cS at q; omega).symm|exact congrArg Value.bool (decide_eq_false fun h=>h59 (h.clock _ (List.mem_of_getElem? hx))).symm|exact congrArg Value.bool (decide_eq_false fun h=>by have q:=h.jT _ (List.mem_of_getElem? hy); have q2:=q.2; first|exact h77 q.1|omega).symm|exact congrArg Value.bool (decide_eq_false fun h=>by have q:=h.tx n (by omega); simp only [Int.toNat_natCast] at h101; omega).symm|exact congrArg Value.bool (decide_eq_true (eG (by unfold cS; omega) (dL (by omega) hl4_1) (dL (by omega) hl9_1) (fun j hj=>hl14_1 j (by omega)))).symm
 replace h10:=XF h10
 refine rS (FA 2 rfl gu rfl)<|rS (L1 (Value.slice cA l.ag.length cC) 0 rfl lE rfl rfl)<|rS (LN rfl qy)<|rS (CL (gh ((l.ag.length:Nat):Int) 1 4) (ay) rfl)<|rS (NT rfl)<|rS (PK rfl)<|rS (MV rfl) ?_
 refine bH (t:=17) rfl (fun h17=>?_) (fun h17=>?_)
 ·replace h17:=XT h17
  refine rS (OX rfl)<|rS (OX rfl)<|rS (OX rfl)<|rS (OX rfl)<|rS (OX rfl)<|rS (PK rfl)<|rS (MV rfl)<|rS (OX rfl)<|rS (OX rfl)<|rS (OX rfl) ?_
  refine rS (OX rfl)<|rS (OX rfl)<|rS (OX rfl)<|rS (OX rfl)<|rS (OX rfl)<|rS (PK rfl)<|rS (MV rfl)<|rS (OX rfl)<|rS (OX rfl)<|rS (OX rfl) ?_
  refine rS (OX rfl)<|rS (PK rfl)<|rS (MV rfl)<|rS (OX rfl)<|rS (OX rfl)<|rS (OX rfl)<|rS (OX rfl)<|rS (PK rfl)<|RK hK4<|aX rfl ?_
  refine WS fun _ hK6=>rS (AG rfl)<|RK hK6<|aE<|Q1 hQ rfl rfl rfl ?_
  first|exact congrArg Value.bool (decide_eq_false fun h=>by have q:=h.head; unfold cS at q; omega).symm|exact congrArg Value.bool (decide_eq_false fun h=>h59 (h.clock _ (List.mem_of_getElem? hx))).symm|exact congrArg Value.bool (decide_eq_false fun h=>by have q:=h.jT _ (List.mem_of_getElem? hy); have q2:=q.2; first|exact h77 q.1|omega).symm|exact congrArg Value.bool (decide_eq_false fun h=>by have q:=h.tx n (by omega); simp only [Int.toNat_natCast] at h101; omega).symm|exact congrArg Value.bool (decide_eq_true (eG (by unfold cS; omega) (dL (by omega) hl4_1) (dL (by omega) hl9_1) (fun j hj=>hl14_1 j (by omega)))).symm
 replace h17:=XF h17
 refine rS (FA 3 rfl dy rfl)<|rS (L1 (Value.slice bA l.aa.length bC) 0 rfl g3 rfl rfl)<|rS (LN rfl jL)<|rS (CL (gh ((l.aa.length:Nat):Int) 1 6) (ay) rfl)<|rS (NT rfl)<|rS (PK rfl)<|rS (MV rfl) ?_
 refine bH (t:=24) rfl (fun h24=>?_) (fun h24=>?_)
 ·replace h24:=XT h24
  refine rS (OX rfl)<|rS (OX rfl)<|rS (OX rfl)<|rS (OX rfl)<|rS (OX rfl)<|rS (OX rfl)<|rS (OX rfl)<|rS (OX rfl)<|rS (PK rfl)<|rS (MV rfl) ?_
  refine rS (OX rfl)<|rS (OX rfl)<|rS (OX rfl)<|rS (OX rfl)<|rS (PK rfl)<|rS (MV rfl)<|rS (OX rfl)<|rS (OX rfl)<|rS (OX rfl)<|rS (OX rfl) ?_
  refine rS (PK rfl)<|RK hK4<|aX rfl<|WS fun _ hK7=>rS (AG rfl)<|RK hK7<|aE<|Q1 hQ rfl rfl rfl ?_
  first|exact congrArg Value.bool (decide_eq_false fun h=>by have q:=h.head; unfold cS at q; omega).symm|exact congrArg Value.bool (decide_eq_false fun h=>h59 (h.clock _ (List.mem_of_getElem? hx))).symm|exact congrArg Value.bool (decide_eq_false fun h=>by have q:=h.jT _ (List.mem_of_getElem? hy); have q2:=q.2; first|exact h77 q.1|omega).symm|exact congrArg Value.bool (decide_eq_false fun h=>by have q:=h.tx n (by omega); simp only [Int.toNat_natCast] at h101; omega).symm|exact congrArg Value.bool (decide_eq_true (eG (by unfold cS; omega) (dL (by omega) hl4_1) (dL (by omega) hl9_1) (fun j hj=>hl14_1 j (by omega)))).symm
 replace h24:=XF h24
 refine rS (FA 4 rfl lV rfl)<|rS (L1 (Value.int .i64 l.aD) 0 rfl bu rfl rfl)<|rS (FA 3 rfl dy rfl)<|rS (L1 (Value.slice bA l.aa.length bC) 0 rfl g3 rfl rfl)<|rS (LN rfl jL)<|rS (BI rfl (da ⟨by omega,by omega⟩))<|rS (CL (gh l.aD 0 (((l.aa.length:Nat):Int)-1)) (ay) rfl)<|rS (NT rfl)<|rS (PK rfl)<|rS (MV rfl) ?_
 refine bH (t:=34) rfl (fun h34=>?_) (fun h34=>?_)
 ·replace h34:=XT h34
  refine rS (OX rfl)<|rS (OX rfl)<|rS (OX rfl)<|rS (OX rfl)<|rS (PK rfl)<|rS (MV rfl)<|rS (OX rfl)<|rS (OX rfl)<|rS (OX rfl)<|rS (OX rfl) ?_
  refine rS (PK rfl)<|RK hK4<|aX rfl<|WS fun _ hK8=>rS (AG rfl)<|RK hK8<|aE<|Q1 hQ rfl rfl rfl ?_
  first|exact congrArg Value.bool (decide_eq_false fun h=>by have q:=h.head; unfold cS at q; omega).symm|exact congrArg Value.bool (decide_eq_false fun h=>h59 (h.clock _ (List.mem_of_getElem? hx))).symm|exact congrArg Value.bool (decide_eq_false fun h=>by have q:=h.jT _ (List.mem_of_getElem? hy); have q2:=q.2; first|exact h77 q.1|omega).symm|exact congrArg Value.bool (decide_eq_false fun h=>by have q:=h.tx n (by omega); simp only [Int.toNat_natCast] at h101; omega).symm|exact congrArg Value.bool (decide_eq_true (eG (by unfold cS; omega) (dL (by omega) hl4_1) (dL (by omega) hl9_1) (fun j hj=>hl14_1 j (by omega)))).symm
 replace h34:=XF h34
 refine rS (FA 5 rfl qz rfl)<|rS (L1 (Value.int .i64 l.aV) 0 rfl bu rfl rfl)<|rS (CL (gh l.aV 0 3) (ay) rfl)<|rS (NT rfl)<|rS (PK rfl)<|rS (MV rfl) ?_
 refine bH (t:=40) rfl (fun h40=>?_) (fun h40=>?_)
 ·replace h40:=XT h40
  refine rS (OX rfl)<|rS (OX rfl)<|rS (OX rfl)<|rS (OX rfl)<|rS (PK rfl)<|RK hK4<|aX rfl<|WS fun _ hK9=>rS (AG rfl)<|RK hK9 ?_
  refine aE<|Q1 hQ rfl rfl rfl ?_
  first|exact congrArg Value.bool (decide_eq_false fun h=>by have q:=h.head; unfold cS at q; omega).symm|exact congrArg Value.bool (decide_eq_false fun h=>h59 (h.clock _ (List.mem_of_getElem? hx))).symm|exact congrArg Value.bool (decide_eq_false fun h=>by have q:=h.jT _ (List.mem_of_getElem? hy); have q2:=q.2; first|exact h77 q.1|omega).symm|exact congrArg Value.bool (decide_eq_false fun h=>by have q:=h.tx n (by omega); simp only [Int.toNat_natCast] at h101; omega).symm|exact congrArg Value.bool (decide_eq_true (eG (by unfold cS; omega) (dL (by omega) hl4_1) (dL (by omega) hl9_1) (fun j hj=>hl14_1 j (by omega)))).symm
 replace h40:=XF h40
 refine rS (FA 6 rfl qK rfl)<|rS (L1 (Value.int .i64 l.aJ) 0 rfl bu rfl rfl)<|rS (CL (gh l.aJ 0 3) (ay) rfl)<|rS (NT rfl)<|rS (PK rfl)<|RK hK4 ?_
 refine bj rfl (fun h45=>?_) (fun h45=>?_)
 ·replace h45:=XT h45
  refine WS fun _ hK10=>rS (AG rfl)<|RK hK10<|aE<|Q1 hQ rfl rfl rfl ?_
  first|exact congrArg Value.bool (decide_eq_false fun h=>by have q:=h.head; unfold cS at q; omega).symm|exact congrArg Value.bool (decide_eq_false fun h=>h59 (h.clock _ (List.mem_of_getElem? hx))).symm|exact congrArg Value.bool (decide_eq_false fun h=>by have q:=h.jT _ (List.mem_of_getElem? hy); have q2:=q.2; first|exact h77 q.1|omega).symm|exact congrArg Value.bool (decide_eq_false fun h=>by have q:=h.tx n (by omega); simp only [Int.toNat_natCast] at h101; omega).symm|exact congrArg Value.bool (decide_eq_true (eG (by unfold cS; omega) (dL (by omega) hl4_1) (dL (by omega) hl9_1) (fun j hj=>hl14_1 j (by omega)))).symm
 replace h45:=XF h45
 refine WK hK3<|aq fun _ hK11=>WS fun _ hK12=>rS (AG rfl)<|RK hK12<|aG ?_
 have hinit:(0≤l.ag.length)∧(∀ (j:Nat) y,j<0→l.ag[j]? =some y→dP y):=by exact ⟨Nat.zero_le _,fun j y hj=>absurd hj (Nat.not_lt_zero _)⟩
 refine cq (ι:={z:Nat // (z≤l.ag.length)∧(∀ (j:Nat) y,j<z→l.ag[j]? =some y→dP y)}) (fun z=>[(1,(Value.pointer (some ⟨b2,0,none⟩))),(3,(Value.int .i64 ((z.1:Nat):Int)))]) (fun z=>[(aT b2 28 (aF.cells (aF.mk (au.mk (av.mk kA l.al.length kC)) l.bw (av.mk cA l.ag.length cC) (av.mk bA l.aa.length bC) l.aD l.aV l.aJ))),(rd kA l.al.length 9 (l.al.map ah.cells)).ro,(rd cA l.ag.length 2 (List.zipWith aj.cells l.ag az)).ro,(cZ (aL aj.dX l.ag az)).ro,(rd bA l.aa.length 4 (l.aa.map aY.cells)).ro]) (fun z=>l.ag.length-z.1) ⟨0,hinit⟩ (an.cons rfl<|an.cons rfl<|an.nil _) (fun w hs=>St.br [0,1,2,3,4] rfl rfl hs) ?_
 clear hinit
 rintro ⟨i,⟨hl4_0,hl4_1⟩⟩ J13 hJ13
 try dsimp only
 refine aq fun _ hK14=>WS fun _ hK15=>rS (MV rfl)<|rS (FA 2 rfl gu rfl)<|rS (L1 (Value.slice cA l.ag.length cC) 0 rfl lE rfl rfl)<|rS (LN rfl qy)<|rS (BI rfl cv)<|RK hK15 ?_
 refine bj rfl (fun h50=>?_) (fun h50=>?_)
 ·replace h50:=DT h50
  refine WK hK14<|aq fun _ hK16=>aG<|WS fun _ hK17=>rS (FA 2 rfl gu rfl)<|rS (L1 (Value.slice cA l.ag.length cC) 0 rfl lE rfl rfl)<|rS (MV rfl) ?_
  obtain ⟨x,hx⟩: ∃ y_,l.ag[i]? =some y_:=⟨l.ag[i]'(by omega),List.getElem?_eq_getElem _⟩
  obtain ⟨xa,hxa⟩: ∃ y_,az[i]? =some y_:=⟨az[i]'(by omega),List.getElem?_eq_getElem _⟩
  have hxm:(List.zipWith aj.cells l.ag az)[i]? =some (aj.cells x xa):=gM hx hxa
  refine rS (IA i rfl (aI 2 rfl) tI (by decide) (by omega) (by omega))<|rS (lF i 0 (bO.cells (bO.mk x.bJ (av.mk xa.1 x.aB.length xa.2))) rfl rq (aI 2 rfl) hxm rfl (by decide) rfl rfl) ?_
  have hsy:=(hin.Fs _ _ _ hx hxa).2
  refine rS (CL (AB x xa.1 xa.2 (by first|assumption|omega|(simp; done)|(simp; omega))) (aM (show jS _ (rd xa.1 x.aB.length 3 (x.aB.map bD.cells)).holds from (eM 3 rfl (dc hx hxa (by simp [aj.dX]))))<|ay) rfl)<|rS (NT rfl)<|RK hK17 ?_
  refine bj rfl (fun h59=>?_) (fun h59=>?_)
  rotate_left 1
  ·replace h59:=XF h59
   refine cM<|aK<|KK hK16<|ar<|rS (MV rfl)<|rS (BI rfl (aZ ⟨by omega,by omega⟩))<|rS (AG rfl)<|aP ?_
   have hb19:(Value.int .i64 (((i+1):Nat):Int))=(Value.int .i64 (((i:Nat):Int)+1)):=by exact congrArg (Value.int .i64) (by omega)
   refine aO (hJ13 ⟨(i+1),⟨by omega,jw (P:=fun _ y=>dP y) hl4_1 hx h59⟩⟩ _ _ _ rfl (by first|omega|(simp; omega)) (an.cons rfl<|aQ rfl hb19<|an.nil _) (fun w hs=>St.br [0,1,2,3,4] rfl rfl hs))
  replace h59:=XT h59
  refine WS fun _ hK18=>rS (AG rfl)<|RK hK18<|aE<|Q1 hQ rfl rfl rfl ?_
  first|exact congrArg Value.bool (decide_eq_false fun h=>by have q:=h.head; unfold cS at q; omega).symm|exact congrArg Value.bool (decide_eq_false fun h=>h59 (h.clock _ (List.mem_of_getElem? hx))).symm|exact congrArg Value.bool (decide_eq_false fun h=>by have q:=h.jT _ (List.mem_of_getElem? hy); have q2:=q.2; first|exact h77 q.1|omega).symm|exact congrArg Value.bool (decide_eq_false fun h=>by have q:=h.tx n (by omega); simp only [Int.toNat_natCast] at h101; omega).symm|exact congrArg Value.bool (decide_eq_true (eG (by unfold cS; omega) (dL (by omega) hl4_1) (dL (by omega) hl9_1) (fun j hj=>hl14_1 j (by omega)))).symm
 replace h50:=DF h50
 refine bE<|ai<|ai<|aH<|KK hK11<|aq fun _ hK20=>WS fun _ hK21=>rS (AG rfl)<|RK hK21<|aG ?_
 have hinit:(0≤l.aa.length)∧(∀ (j:Nat) y,j<0→l.aa[j]? =some y→ic l y):=by exact ⟨Nat.zero_le _,fun j y hj=>absurd hj (Nat.not_lt_zero _)⟩
 refine cq (ι:={z:Nat // (z≤l.aa.length)∧(∀ (j:Nat) y,j<z→l.aa[j]? =some y→ic l y)}) (fun z=>[(1,(Value.pointer (some ⟨b2,0,none⟩))),(4,(Value.int .i64 ((z.1:Nat):Int)))]) (fun z=>[(aT b2 28 (aF.cells (aF.mk (au.mk (av.mk kA l.al.length kC)) l.bw (av.mk cA l.ag.length cC) (av.mk bA l.aa.length bC) l.aD l.aV l.aJ))),(rd kA l.al.length 9 (l.al.map ah.cells)).ro,(rd cA l.ag.length 2 (List.zipWith aj.cells l.ag az)).ro,(cZ (aL aj.dX l.ag az)).ro,(rd bA l.aa.length 4 (l.aa.map aY.cells)).ro]) (fun z=>l.aa.length-z.1) ⟨0,hinit⟩ (an.cons rfl<|an.cons rfl<|an.nil _) (fun w hs=>St.br [0,1,2,3,4] rfl rfl hs) ?_
 clear hinit
 rintro ⟨m,⟨hl9_0,hl9_1⟩⟩ J22 hJ22
 try dsimp only
 refine aq fun _ hK23=>WS fun _ hK24=>rS (MV rfl)<|rS (FA 3 rfl dy rfl)<|rS (L1 (Value.slice bA l.aa.length bC) 0 rfl g3 rfl rfl)<|rS (LN rfl jL)<|rS (BI rfl cv)<|RK hK24 ?_
 refine bj rfl (fun h64=>?_) (fun h64=>?_)
 rotate_left 1
 ·replace h64:=DF h64
  refine bE<|ai<|ai<|aH<|KK hK20<|aq fun _ hK30=>WS fun _ hK31=>rS (AG rfl)<|RK hK31<|aG ?_
  have hinit:(0≤l.aa.length)∧(∀ j,j<0→1≤kg l j):=by exact ⟨Nat.zero_le _,fun j hj=>absurd hj (Nat.not_lt_zero _)⟩
  refine cq (ι:={z:Nat // (z≤l.aa.length)∧(∀ j,j<z→1≤kg l j)}) (fun z=>[(1,(Value.pointer (some ⟨b2,0,none⟩))),(5,(Value.int .i64 ((z.1:Nat):Int)))]) (fun z=>[(aT b2 28 (aF.cells (aF.mk (au.mk (av.mk kA l.al.length kC)) l.bw (av.mk cA l.ag.length cC) (av.mk bA l.aa.length bC) l.aD l.aV l.aJ))),(rd kA l.al.length 9 (l.al.map ah.cells)).ro,(rd cA l.ag.length 2 (List.zipWith aj.cells l.ag az)).ro,(cZ (aL aj.dX l.ag az)).ro,(rd bA l.aa.length 4 (l.aa.map aY.cells)).ro]) (fun z=>l.aa.length-z.1) ⟨0,hinit⟩ (an.cons rfl<|an.cons rfl<|an.nil _) (fun w hs=>St.br [0,1,2,3,4] rfl rfl hs) ?_
  clear hinit
  rintro ⟨n,⟨hl14_0,hl14_1⟩⟩ J32 hJ32
  try dsimp only
  have hbk:=dL (P:=ic l) (by omega) hl9_1
  refine aq fun _ hK33=>WS fun _ hK34=>rS (MV rfl)<|rS (FA 3 rfl dy rfl)<|rS (L1 (Value.slice bA l.aa.length bC) 0 rfl g3 rfl rfl)<|rS (LN rfl jL)<|rS (BI rfl cv)<|RK hK34 ?_
  refine bj rfl (fun h95=>?_) (fun h95=>?_)
  rotate_left 1
  ·replace h95:=DF h95
   refine bE<|ai<|ai<|aH<|KK hK30<|WS fun _ hK39=>rS (AG rfl)<|RK hK39<|aE<|Q1 hQ rfl rfl rfl ?_
   first|exact congrArg Value.bool (decide_eq_false fun h=>by have q:=h.head; unfold cS at q; omega).symm|exact congrArg Value.bool (decide_eq_false fun h=>h59 (h.clock _ (List.mem_of_getElem? hx))).symm|exact congrArg Value.bool (decide_eq_false fun h=>by have q:=h.jT _ (List.mem_of_getElem? hy); have q2:=q.2; first|exact h77 q.1|omega).symm|exact congrArg Value.bool (decide_eq_false fun h=>by have q:=h.tx n (by omega); simp only [Int.toNat_natCast] at h101; omega).symm|exact congrArg Value.bool (decide_eq_true (eG (by unfold cS; omega) (dL (by omega) hl4_1) (dL (by omega) hl9_1) (fun j hj=>hl14_1 j (by omega)))).symm
  replace h95:=DT h95
  refine WK hK33<|aq fun _ hK35=>aG<|WS fun _ hK36=>rS (LW 0 rfl eO rfl rfl)<|rS (MV rfl)<|rS (CL (z5 l kA kC az cA cC bA bC ((n:Nat):Int) hin htr (by first|assumption|omega|(simp; done)|(simp; omega)) (by first|assumption|omega|(simp; done)|(simp; omega))) (ax 1 rfl rfl<|ax 2 rfl rfl<|ax 3 rfl rfl<|ax 4 rfl rfl<|ay) rfl)<|rS (BI rfl cv)<|RK hK36 ?_
  refine bj rfl (fun h101=>?_) (fun h101=>?_)
  rotate_left 1
  ·replace h101:=DF h101
   refine cM<|aK<|KK hK35<|ar<|rS (MV rfl)<|rS (BI rfl (aZ ⟨by omega,by omega⟩))<|rS (AG rfl)<|aP ?_
   have hb38:(Value.int .i64 (((n+1):Nat):Int))=(Value.int .i64 (((n:Nat):Int)+1)):=by exact congrArg (Value.int .i64) (by omega)
   refine aO (hJ32 ⟨(n+1),⟨by omega,fun j hj=>by rcases Nat.lt_or_ge j n with q|q; exact hl14_1 j q; (obtain rfl:j=n:=by omega); simp only [Int.toNat_natCast] at h101; omega⟩⟩ _ _ _ rfl (by first|omega|(simp; omega)) (an.cons rfl<|aQ rfl hb38<|an.nil _) (fun w hs=>St.br [0,1,2,3,4] rfl rfl hs))
  replace h101:=DT h101
  refine WS fun _ hK37=>rS (AG rfl)<|RK hK37<|aE<|Q1 hQ rfl rfl rfl ?_
  first|exact congrArg Value.bool (decide_eq_false fun h=>by have q:=h.head; unfold cS at q; omega).symm|exact congrArg Value.bool (decide_eq_false fun h=>h59 (h.clock _ (List.mem_of_getElem? hx))).symm|exact congrArg Value.bool (decide_eq_false fun h=>by have q:=h.jT _ (List.mem_of_getElem? hy); have q2:=q.2; first|exact h77 q.1|omega).symm|exact congrArg Value.bool (decide_eq_false fun h=>by have q:=h.tx n (by omega); simp only [Int.toNat_natCast] at h101; omega).symm|exact congrArg Value.bool (decide_eq_true (eG (by unfold cS; omega) (dL (by omega) hl4_1) (dL (by omega) hl9_1) (fun j hj=>hl14_1 j (by omega)))).symm
 replace h64:=DT h64
 refine WK hK23<|aq fun _ hK25=>aG<|aq fun _ hK26=>dm cG 24 (by kernel_rfl)<|dS (FA 0 rfl j4 rfl)<|dS (LP (au.cells (au.mk (av.mk kA l.al.length kC))) 0 rfl jn rfl rfl rfl)<|dS (FA 3 rfl dy rfl)<|dS (L1 (Value.slice bA l.aa.length bC) 0 rfl g3 rfl rfl)<|dS (MV rfl) ?_
 obtain ⟨y,hy⟩: ∃ y_,l.aa[m]? =some y_:=⟨l.aa[m]'(by omega),List.getElem?_eq_getElem _⟩
 have hym:(l.aa.map aY.cells)[m]? =some (aY.cells y):=by rw [List.getElem?_map,hy]; rfl
 refine dS (IA m rfl (aI 4 rfl) qu (by decide) (by omega) (by omega))<|dS (ou (m*4) rfl (aI 4 rfl) (Nat.mul_pos (by omega) (by decide)) mM rfl)<|dS (lF m 0 (bS.cells y.hU) rfl kO (aI 4 rfl) hym rfl (by decide) rfl rfl)<|dS (CL (oe l.al kA kC y.hU (by first|assumption|omega|(simp; done)|(simp; omega)) (by first|assumption|omega|(simp; done)|(simp; omega))) (ax 1 rfl rfl<|ay) rfl)<|dS (NT rfl)<|dS (MV rfl) ?_
 refine e9 (t:=77) rfl (fun h77=>?_) (fun h77=>?_)
 ·replace h77:=XT h77
  refine dS (OX rfl)<|dS (OX rfl)<|dS (OX rfl)<|dS (OX rfl)<|dS (OX rfl)<|dS (OX rfl)<|dS (OX rfl)<|dS (OX rfl)<|dS (OX rfl)<|dS (OX rfl) ?_
  refine dS (OX rfl)<|dS (OX rfl)<|dS (PK rfl)<|cP<|RK hK26<|aX rfl<|WS fun _ hK27=>rS (AG rfl)<|RK hK27<|aE ?_
  refine Q1 hQ rfl rfl rfl ?_
  first|exact congrArg Value.bool (decide_eq_false fun h=>by have q:=h.head; unfold cS at q; omega).symm|exact congrArg Value.bool (decide_eq_false fun h=>h59 (h.clock _ (List.mem_of_getElem? hx))).symm|exact congrArg Value.bool (decide_eq_false fun h=>by have q:=h.jT _ (List.mem_of_getElem? hy); have q2:=q.2; first|exact h77 q.1|omega).symm|exact congrArg Value.bool (decide_eq_false fun h=>by have q:=h.tx n (by omega); simp only [Int.toNat_natCast] at h101; omega).symm|exact congrArg Value.bool (decide_eq_true (eG (by unfold cS; omega) (dL (by omega) hl4_1) (dL (by omega) hl9_1) (fun j hj=>hl14_1 j (by omega)))).symm
 replace h77:=XF h77
 refine dS (FA 3 rfl dy rfl)<|dS (L1 (Value.slice bA l.aa.length bC) 0 rfl g3 rfl rfl)<|dS (MV rfl)<|dS (IA m rfl (aI 4 rfl) qu (by decide) (by omega) (by omega))<|dS (ou ((m*4)+3) rfl (aI 4 rfl) (Nat.mul_pos (by omega) (by decide)) rv rfl)<|dS (iX m 3 (Value.int .i64 y.gk) rfl bu (aI 4 rfl) hym rfl (by decide) rfl)<|dS (FA 2 rfl gu rfl)<|dS (L1 (Value.slice cA l.ag.length cC) 0 rfl lE rfl rfl)<|dS (LN rfl qy)<|dS (BI rfl (da ⟨by omega,by omega⟩)) ?_
 refine dS (CL (gh y.gk 0 (((l.ag.length:Nat):Int)-1)) (ay) rfl)<|dS (NT rfl)<|dS (PK rfl)<|cP<|RK hK26 ?_
 refine bj rfl (fun h90=>?_) (fun h90=>?_)
 rotate_left 1
 ·replace h90:=XF h90
  refine cM<|aK<|KK hK25<|ar<|rS (MV rfl)<|rS (BI rfl (aZ ⟨by omega,by omega⟩))<|rS (AG rfl)<|aP ?_
  have hb29:(Value.int .i64 (((m+1):Nat):Int))=(Value.int .i64 (((m:Nat):Int)+1)):=by exact congrArg (Value.int .i64) (by omega)
  refine aO (hJ22 ⟨(m+1),⟨by omega,jw (P:=fun _ y=>ic l y) hl9_1 hy ⟨h77,by omega,by omega⟩⟩⟩ _ _ _ rfl (by first|omega|(simp; omega)) (an.cons rfl<|aQ rfl hb29<|an.nil _) (fun w hs=>St.br [0,1,2,3,4] rfl rfl hs))
 replace h90:=XT h90
 refine WS fun _ hK28=>rS (AG rfl)<|RK hK28<|aE<|Q1 hQ rfl rfl rfl ?_
 first|exact congrArg Value.bool (decide_eq_false fun h=>by have q:=h.head; unfold cS at q; omega).symm|exact congrArg Value.bool (decide_eq_false fun h=>h59 (h.clock _ (List.mem_of_getElem? hx))).symm|exact congrArg Value.bool (decide_eq_false fun h=>by have q:=h.jT _ (List.mem_of_getElem? hy); have q2:=q.2; first|exact h77 q.1|omega).symm|exact congrArg Value.bool (decide_eq_false fun h=>by have q:=h.tx n (by omega); simp only [Int.toNat_natCast] at h101; omega).symm|exact congrArg Value.bool (decide_eq_true (eG (by unfold cS; omega) (dL (by omega) hl4_1) (dL (by omega) hl9_1) (fun j hj=>hl14_1 j (by omega)))).symm
end
section
open Go.RowKit
set_option linter.unusedVariables false
set_option maxRecDepth 100000 in
set_option maxHeartbeats 400000 in
theorem pg (l:aU) (kA:Option Addr) (kC:Nat) (az:List RA) (cA:Option Addr) (cC:Nat) (bA:Option Addr) (bC:Nat) (hin:dC l az) (hng: ¬ lj l):
 rp Tryz.prog 8 [(Value.agg (aF.cells (aF.mk (au.mk (av.mk kA l.al.length kC)) l.bw (av.mk cA l.ag.length cC) (av.mk bA l.aa.length bC) l.aD l.aV l.aJ)).toArray)] [(rd kA l.al.length 9 (l.al.map ah.cells)),(rd cA l.ag.length 2 (List.zipWith aj.cells l.ag az)),(cZ (aL aj.dX l.ag az)),(rd bA l.aa.length 4 (l.aa.map aY.cells))] (fun (x:(Option Addr)×Nat×(Option Addr)×Nat×(List RA)×(Option Addr)×Nat)=>(Value.agg (aF.cells (aF.mk (au.mk (av.mk x.1 l.al.length x.2.1)) l.bw (av.mk x.2.2.1 l.ag.length x.2.2.2.1) (av.mk x.2.2.2.2.2.1 l.aa.length x.2.2.2.2.2.2) l.aD l.aV l.aJ)).toArray)) (fun (x:(Option Addr)×Nat×(Option Addr)×Nat×(List RA)×(Option Addr)×Nat)=>x.2.2.2.2.1.length=l.ag.length∧sl l.ag x.2.2.2.2.1) (fun (x:(Option Addr)×Nat×(Option Addr)×Nat×(List RA)×(Option Addr)×Nat)=>[(own x.1 x.2.1 141 9 (l.al.map ah.cells)),(own x.2.2.1 x.2.2.2.1 63 2 (List.zipWith aj.cells l.ag x.2.2.2.2.1)),(a5 (aL aj.owns l.ag x.2.2.2.2.1)),(own x.2.2.2.2.2.1 x.2.2.2.2.2.2 101 4 (l.aa.map aY.cells))]):=by
 have htk:=hin.nm
 have hck:=hin.nv
 have has:=hin.m_
 have hbm:=hin.nd
 have hgr:=pY hng
 refine gp JB Tryz.func8 rfl rfl fun w0 Q hQ hN=>?_
 try dsimp only
 refine WS fun _ hK1=>fy rfl fun b2=>AL rfl tG fun b3=>RK hK1<|WS fun _ hK4=>rS (FA 0 rfl j4 rfl)<|rS (LP (au.cells (au.mk (av.mk kA l.al.length kC))) 1 rfl jn rfl rfl rfl)<|cX (DZ l.al kA kC (by first|assumption|omega|(simp; done)|(simp; omega))) (ax 2 rfl rfl<|ay) rfl fun y5 hy6=>?_
 obtain ⟨a7,c8⟩:=y5
 try dsimp only
 refine rS (FA 0 rfl j4 rfl)<|G6 (aF.cells (aF.mk (au.mk (av.mk a7 l.al.length c8)) l.bw (av.mk cA l.ag.length cC) (av.mk bA l.aa.length bC) l.aD l.aV l.aJ)) rfl FT rfl rfl<|RK hK4<|WS fun _ hK9=>ur rfl tI rfl fun b10=>rS (FA 2 rfl gu rfl)<|rS (L1 (Value.slice cA l.ag.length cC) 3 rfl lE rfl rfl)<|jX (es:=(List.map bO.cells [])) (C':=[own (some ⟨b10,0,none⟩) 0 63 2 (List.map bO.cells []),_,_,_,_,_,_,_]) 0 rfl (by simp) rfl (by simp [maxLen]) rfl<|dR (es2:=(List.zipWith aj.cells l.ag az)) (m':=l.ag.length) 0 rfl rfl rfl HQ rfl rfl (by simp) (aI 5 rfl) (xM _ _) (by first|omega|(simp; omega)) (by first|(simp only [maxLen]; omega)|(simp [maxLen]; omega)) (by simp) (iO has) rfl fun a11 c12=>?_
 try dsimp only
 refine rS (FA 2 rfl gu rfl)<|Dq (aF.cells (aF.mk (au.mk (av.mk a7 l.al.length c8)) l.bw (av.mk a11 l.ag.length c12) (av.mk bA l.aa.length bC) l.aD l.aV l.aJ)) rfl Iq rfl rfl<|RK hK9<|aq fun _ hK13=>WS fun _ hK14=>rS (AG rfl)<|RK hK14<|aG<|nT ?_
 have hinit:(0≤l.ag.length)∧(([]:List RA).length=0)∧(sl l.ag ([]:List RA)):=by exact ⟨Nat.zero_le _,rfl,fun k m a _ h=>by simp at h⟩
 refine cq (ι:={z:Nat×(List RA) // (z.1≤l.ag.length)∧(z.2.length=z.1)∧(sl l.ag z.2)}) (fun z=>[(1,(Value.pointer (some ⟨b2,0,none⟩))),(2,(Value.pointer (some ⟨b3,0,none⟩))),(3,(Value.int .i64 ((z.1.1:Nat):Int)))]) (fun z=>[(a5 (aL aj.owns (l.ag.take z.1.1) z.1.2)),(own a11 c12 63 2 (List.zipWith aj.cells l.ag (nH z.1.2 az z.1.1))),(own a7 c8 141 9 (l.al.map ah.cells)),(aT b3 28 (aF.cells (aF.mk (au.mk (av.mk none 0 0)) 0 (av.mk none 0 0) (av.mk none 0 0) 0 0 0))),(aT b2 28 (aF.cells (aF.mk (au.mk (av.mk a7 l.al.length c8)) l.bw (av.mk a11 l.ag.length c12) (av.mk bA l.aa.length bC) l.aD l.aV l.aJ))),(rd kA l.al.length 9 (l.al.map ah.cells)).ro,(rd cA l.ag.length 2 (List.zipWith aj.cells l.ag az)).ro,(cZ (aL aj.dX l.ag az)).ro,(rd bA l.aa.length 4 (l.aa.map aY.cells)).ro]) (fun z=>l.ag.length-z.1.1) ⟨(0,([]:List RA)),hinit⟩ (an.cons rfl<|an.cons rfl<|an.cons rfl<|an.nil _) (fun w hs=>St.br [0,1,2,3,4,5,6,7,8] rfl rfl hs) ?_
 clear hinit
 rintro ⟨⟨i,bz⟩,⟨hl4_0,hl4_1,hl4_2⟩⟩ J15 hJ15
 try dsimp only at hl4_0 hl4_1 hl4_2
 try dsimp only
 refine aq fun _ hK16=>WS fun _ hK17=>rS (MV rfl)<|rS (FA 2 rfl gu rfl)<|rS (L1 (Value.slice a11 l.ag.length c12) 4 rfl lE rfl rfl)<|rS (LN rfl qy)<|rS (BI rfl cv)<|RK hK17 ?_
 refine bj rfl (fun h18=>?_) (fun h18=>?_)
 rotate_left 1
 ·replace h18:=DF h18
  refine bE<|ai<|ai<|aH<|KK hK13<|WS fun _ hK27=>ur rfl qu rfl fun b28=>?_
  rw [show nH bz az i=bz from zZ (by omega)]
  rw [show l.ag.take i=l.ag from List.take_of_length_le (by omega)]
  refine rS (FA 3 rfl dy rfl)<|rS (L1 (Value.slice bA l.aa.length bC) 5 rfl g3 rfl rfl)<|jX (es:=(List.map aY.cells [])) (C':=[own (some ⟨b28,0,none⟩) 0 101 4 (List.map aY.cells []),_,_,_,_,_,_,_,_,_]) 0 rfl (by simp) rfl (by simp [maxLen]) rfl<|dR (es2:=(List.map aY.cells l.aa)) (m':=l.aa.length) 0 rfl rfl rfl IN rfl rfl (by simp) (aI 9 rfl) (rm _) (by first|omega|(simp; omega)) (by first|(simp only [maxLen]; omega)|(simp [maxLen]; omega)) (by simp) (by simp) rfl fun a29 c30=>?_
  try dsimp only
  refine rS (FA 3 rfl dy rfl)<|Jq (aF.cells (aF.mk (au.mk (av.mk a7 l.al.length c8)) l.bw (av.mk a11 l.ag.length c12) (av.mk a29 l.aa.length c30) l.aD l.aV l.aJ)) rfl Hk rfl rfl<|RK hK27<|WS fun _ hK31=>rS (LW 5 rfl eO rfl rfl)<|G4 rfl qo rfl<|RK hK31<|aE ?_
  refine hQ _ _ _ (bB (vs:=[(Value.agg (aF.cells (aF.mk (au.mk (av.mk a7 l.al.length c8)) l.bw (av.mk a11 l.ag.length c12) (av.mk a29 l.aa.length c30) l.aD l.aV l.aJ)).toArray)]) ⟨⟨_,rfl,.inl ⟨_,_,eO,cy (vs:=(aF.cells (aF.mk (au.mk (av.mk a7 l.al.length c8)) l.bw (av.mk a11 l.ag.length c12) (av.mk a29 l.aa.length c30) l.aD l.aV l.aJ))) 4 rfl rfl,rfl,rfl⟩⟩,trivial⟩ fun w hs=>fB (a7,c8,a11,c12,bz,a29,c30) [3,2,1,0] ?_ ?_ rfl rfl (by simp only [List.all_cons,List.all_nil,uH,Bool.and_true]; rfl) hs)
  ·rfl
  ·exact ⟨by dsimp only; omega,hl4_2⟩
 replace h18:=DT h18
 refine WK hK16<|aq fun _ hK19=>aG<|er cG [0,1,2,4,5,6,7,8,9,11,12] [3,10,13] [false,false,false,false,false,false,true,true,true,true,true] [true,true,false] [(a5 (aL aj.owns (l.ag.take i) bz)),(own a7 c8 141 9 (l.al.map ah.cells)),(aT b3 28 (aF.cells (aF.mk (au.mk (av.mk none 0 0)) 0 (av.mk none 0 0) (av.mk none 0 0) 0 0 0))),(aT b2 28 (aF.cells (aF.mk (au.mk (av.mk a7 l.al.length c8)) l.bw (av.mk a11 l.ag.length c12) (av.mk bA l.aa.length bC) l.aD l.aV l.aJ))),(rd kA l.al.length 9 (l.al.map ah.cells)).ro,(rd cA l.ag.length 2 (List.zipWith aj.cells l.ag az)).ro,(cZ (aL aj.dX l.ag az)).ro,(rd bA l.aa.length 4 (l.aa.map aY.cells)).ro] [(a5 (aL aj.owns (l.ag.take i) bz)),(own a11 c12 63 2 (List.zipWith aj.cells l.ag (nH bz az i))),(own a7 c8 141 9 (l.al.map ah.cells)),(aT b3 28 (aF.cells (aF.mk (au.mk (av.mk none 0 0)) 0 (av.mk none 0 0) (av.mk none 0 0) 0 0 0))),(aT b2 28 (aF.cells (aF.mk (au.mk (av.mk a7 l.al.length c8)) l.bw (av.mk a11 l.ag.length c12) (av.mk bA l.aa.length bC) l.aD l.aV l.aJ))),(rd kA l.al.length 9 (l.al.map ah.cells)).ro,(rd cA l.ag.length 2 (List.zipWith aj.cells l.ag az)).ro,(cZ (aL aj.dX l.ag az)).ro,(rd bA l.aa.length 4 (l.aa.map aY.cells)).ro] (by kernel_rfl) (fun w hs=>St.br [0,2,3,4,5,6,7,8] rfl rfl hs) (fun w hs=>St.br [0,1,2,3,4,5,6,7,8] rfl rfl hs)<|eS rfl (FA 2 rfl gu rfl)<|eS rfl (L1 (Value.slice a11 l.ag.length c12) 3 rfl lE rfl rfl)<|eS rfl (MV rfl)<|eS rfl (FA 2 rfl gu rfl)<|eS rfl (L1 (Value.slice a11 l.ag.length c12) 3 rfl lE rfl rfl)<|eS rfl (MV rfl) ?_
 obtain ⟨x,hx⟩: ∃ y_,l.ag[i]? =some y_:=⟨l.ag[i]'(by omega),List.getElem?_eq_getElem _⟩
 obtain ⟨xa,hxa⟩: ∃ y_,az[i]? =some y_:=⟨az[i]'(by omega),List.getElem?_eq_getElem _⟩
 have hxm:(List.zipWith aj.cells l.ag (nH bz az i))[i]? =some (aj.cells x xa):=gM hx (xW hl4_1 hxa)
 refine fS rfl (IA i rfl (aC (n:=l.ag.length) 1 rfl (iO (by rw [nY hl4_1 (by omega)]; exact has))) tI (by decide) (by omega) (by omega))<|fS rfl (ou ((i*2)+1) rfl (aC (n:=l.ag.length) 1 rfl (iO (by rw [nY hl4_1 (by omega)]; exact has))) (Nat.mul_pos (by omega) (by decide)) ff rfl)<|fS rfl (iX i 1 (Value.slice xa.1 x.aB.length xa.2) rfl kq (aC (n:=l.ag.length) 1 rfl (iO (by rw [nY hl4_1 (by omega)]; exact has))) hxm rfl (by decide) rfl)<|fS rfl (IA i rfl (aC (n:=l.ag.length) 1 rfl (iO (by rw [nY hl4_1 (by omega)]; exact has))) tI (by decide) (by omega) (by omega))<|fS rfl (ou ((i*2)+1) rfl (aC (n:=l.ag.length) 1 rfl (iO (by rw [nY hl4_1 (by omega)]; exact has))) (Nat.mul_pos (by omega) (by decide)) ff rfl)<|fw rfl<|jm rfl fun T20 hT20=>ur rfl pR rfl fun b21=>?_
 refine aP (hT20 _ _ (fun w hs=>St.br [1,3,4,5,6,7,8,9] rfl rfl hs) (fun w hs=>St.br [1,2,3,4,5,6,7,8,9] rfl rfl hs) ?_)
 refine jm rfl fun T22 hT22=>jX (es:=(List.map bD.cells [])) (C':=[own (some ⟨b21,0,none⟩) 0 65 3 (List.map bD.cells []),_,_,_,_,_,_,_,_,_]) 0 rfl (by simp) rfl (by simp [maxLen]) rfl<|dR (es2:=(List.map bD.cells x.aB)) (m':=x.aB.length) 0 rfl rfl rfl HV rfl rfl (by simp) (show jS _ (rd xa.1 x.aB.length 3 (x.aB.map bD.cells)).holds from (eM 8 rfl (dc hx hxa (by simp [aj.dX])))) (ru _) (by have:=hgr.2.2.2 x (List.mem_of_getElem? hx); simp; omega) (by have:=hgr.2.2.2 x (List.mem_of_getElem? hx); simp only [maxLen]; simp; omega) (by simp) (by simp) rfl fun a23 c24=>?_
 try dsimp only
 refine GN 0 rfl fun hcp=>?_
 refine aP (hT22 _ _ (fun w hs=>St.br [1,3,4,5,6,7,8,9] rfl rfl hs) (fun w hs=>St.br [1,2,3,4,5,6,7,8,9] rfl rfl hs) ?_)
 refine cL rfl fun T25 hT25=>fP (k:=i) (o:=1) (vs:=[(Value.slice a23 x.aB.length c24)]) (es':=(List.zipWith aj.cells l.ag (nH (bz++[(a23,c24)]) az (i+1)))) (C':=[_,_,(own a11 c12 63 2 (List.zipWith aj.cells l.ag (nH (bz++[(a23,c24)]) az (i+1)))),_,_,_,_,_,_,_]) 2 rfl rfl rfl Jm rfl rfl rfl rfl hxm rfl (by decide) (by exact C_ (nw:=(a23,c24)) hx hl4_1 hxa) rfl<|RN hT25 [1,3,4,5,6,7,8,9] rfl rfl<|g_ rfl<|aK<|KK hK19<|ar<|rS (MV rfl)<|rS (BI rfl (aZ ⟨by omega,by omega⟩))<|rS (AG rfl) ?_
 refine aP<|wG (X':=aL aj.owns (l.ag.take (i+1)) (bz++[(a23,c24)])) 1 0 rfl rfl (zL (nw:=(a23,c24)) hx hl4_1) ?_
 have hb26:(Value.int .i64 (((i+1):Nat):Int))=(Value.int .i64 (((i:Nat):Int)+1)):=by exact congrArg (Value.int .i64) (by omega)
 refine aO (hJ15 ⟨((i+1),(bz++[(a23,c24)])),⟨by omega,by simp; omega,Bn hl4_2 hl4_1 hx (by simpa using hcp)⟩⟩ _ _ _ rfl (by first|omega|(simp; omega)) (an.cons rfl<|an.cons rfl<|aQ rfl hb26<|an.nil _) (fun w hs=>St.br [0,1,2,3,4,5,6,7,8] rfl rfl hs))
end
section
open Go.RowKit
set_option linter.unusedVariables false
set_option maxRecDepth 100000 in
set_option maxHeartbeats 400000 in
theorem BZ (l:aU) (kA:Option Addr) (kC:Nat) (az:List RA) (cA:Option Addr) (cC:Nat) (bA:Option Addr) (bC:Nat) (m:aU) (k2A:Option Addr) (k2C:Nat) (az2:List RA) (c2A:Option Addr) (c2C:Nat) (b2A:Option Addr) (b2C:Nat) (hin:dC l az) (hin2:dC m az2) (hsm: ¬ lj l) (hsm2: ¬ lj m):
 eH Tryz.prog 23 [(Value.agg (aF.cells (aF.mk (au.mk (av.mk kA l.al.length kC)) l.bw (av.mk cA l.ag.length cC) (av.mk bA l.aa.length bC) l.aD l.aV l.aJ)).toArray),(Value.agg (aF.cells (aF.mk (au.mk (av.mk k2A m.al.length k2C)) m.bw (av.mk c2A m.ag.length c2C) (av.mk b2A m.aa.length b2C) m.aD m.aV m.aJ)).toArray)] [(rd kA l.al.length 9 (l.al.map ah.cells)),(rd cA l.ag.length 2 (List.zipWith aj.cells l.ag az)),(cZ (aL aj.dX l.ag az)),(rd bA l.aa.length 4 (l.aa.map aY.cells)),(rd k2A m.al.length 9 (m.al.map ah.cells)),(rd c2A m.ag.length 2 (List.zipWith aj.cells m.ag az2)),(cZ (aL aj.dX m.ag az2)),(rd b2A m.aa.length 4 (m.aa.map aY.cells))] (Value.bool (decide (l=m))):=by
 have htk:=hin.nm
 have hck:=hin.nv
 have has:=hin.m_
 have hbm:=hin.nd
 have htk2:=hin2.nm
 have hck2:=hin2.nv
 have has2:=hin2.m_
 have hbm2:=hin2.nd
 have hgr:=pY hsm
 have hgr2:=pY hsm2
 refine bL Hh Tryz.func23 rfl rfl fun w0 Q hQ hN=>?_
 try dsimp only
 refine WS fun _ hK1=>fy rfl fun b2=>fy rfl fun b3=>rS (AG rfl)<|RK hK1<|aq fun _ hK4=>WS fun _ hK5=>rS (FA 0 rfl j4 rfl)<|rS (LP (au.cells (au.mk (av.mk kA l.al.length kC))) 1 rfl jn rfl rfl rfl)<|rS (FA 0 rfl j4 rfl) ?_
 refine rS (LP (au.cells (au.mk (av.mk k2A m.al.length k2C))) 0 rfl jn rfl rfl rfl)<|rS (CL (En l.al kA kC m.al k2A k2C (by first|assumption|omega|(simp; done)|(simp; omega)) (by first|assumption|omega|(simp; done)|(simp; omega))) (ax 2 rfl rfl<|ax 6 rfl rfl<|ay) rfl)<|rS (NT rfl)<|rS (MV rfl) ?_
 refine bH (t:=16) rfl (fun h16=>?_) (fun h16=>?_)
 ·replace h16:=XT h16
  refine rS (OX rfl)<|rS (OX rfl)<|rS (OX rfl)<|rS (OX rfl)<|rS (OX rfl)<|rS (PK rfl)<|rS (MV rfl)<|rS (OX rfl)<|rS (OX rfl)<|rS (OX rfl) ?_
  refine rS (OX rfl)<|rS (OX rfl)<|rS (PK rfl)<|rS (MV rfl)<|rS (OX rfl)<|rS (OX rfl)<|rS (OX rfl)<|rS (OX rfl)<|rS (OX rfl)<|rS (PK rfl) ?_
  refine rS (MV rfl)<|rS (OX rfl)<|rS (OX rfl)<|rS (OX rfl)<|rS (OX rfl)<|rS (OX rfl)<|rS (PK rfl)<|rS (MV rfl)<|rS (OX rfl)<|rS (OX rfl) ?_
  refine rS (OX rfl)<|rS (OX rfl)<|rS (OX rfl)<|rS (OX rfl)<|rS (OX rfl)<|rS (PK rfl)<|rS (MV rfl)<|rS (OX rfl)<|rS (OX rfl)<|rS (OX rfl) ?_
  refine rS (OX rfl)<|rS (OX rfl)<|rS (OX rfl)<|rS (OX rfl)<|rS (PK rfl)<|RK hK5<|aX rfl<|WS fun _ hK6=>rS (AG rfl)<|RK hK6 ?_
  refine aE<|Q1 hQ rfl rfl rfl ?_
  first|exact congrArg Value.bool (decide_eq_false (fun e=>by subst e; first|exact h16 rfl|omega)).symm|exact congrArg Value.bool (decide_eq_false (fun e=>by subst e; rw [hp] at hq; cases hq; exact h128 rfl)).symm|exact congrArg Value.bool (decide_eq_false (fun e=>by subst e; rw [hx] at hy; cases hy; first|(rw [hz] at hu; cases hu; exact h110 rfl)|omega)).symm|exact congrArg Value.bool (decide_eq_true (eY h16 (by omega) (by omega) (by omega) (by omega) (cB (by omega) hl4_1 (by omega)) (cB (by omega) hl15_1 (by omega)))).symm
 replace h16:=XF h16
 refine rS (FA 1 rfl n9 rfl)<|rS (L1 (Value.int .i64 l.bw) 1 rfl bu rfl rfl)<|rS (FA 1 rfl n9 rfl)<|rS (L1 (Value.int .i64 m.bw) 0 rfl bu rfl rfl)<|rS (BI rfl dB)<|rS (PK rfl)<|rS (MV rfl) ?_
 refine bH (t:=23) rfl (fun h23=>?_) (fun h23=>?_)
 ·replace h23:=XT h23
  refine rS (OX rfl)<|rS (OX rfl)<|rS (OX rfl)<|rS (OX rfl)<|rS (OX rfl)<|rS (PK rfl)<|rS (MV rfl)<|rS (OX rfl)<|rS (OX rfl)<|rS (OX rfl) ?_
  refine rS (OX rfl)<|rS (OX rfl)<|rS (PK rfl)<|rS (MV rfl)<|rS (OX rfl)<|rS (OX rfl)<|rS (OX rfl)<|rS (OX rfl)<|rS (OX rfl)<|rS (PK rfl) ?_
  refine rS (MV rfl)<|rS (OX rfl)<|rS (OX rfl)<|rS (OX rfl)<|rS (OX rfl)<|rS (OX rfl)<|rS (OX rfl)<|rS (OX rfl)<|rS (PK rfl)<|rS (MV rfl) ?_
  refine rS (OX rfl)<|rS (OX rfl)<|rS (OX rfl)<|rS (OX rfl)<|rS (OX rfl)<|rS (OX rfl)<|rS (OX rfl)<|rS (PK rfl)<|RK hK5<|aX rfl ?_
  refine WS fun _ hK7=>rS (AG rfl)<|RK hK7<|aE<|Q1 hQ rfl rfl rfl ?_
  first|exact congrArg Value.bool (decide_eq_false (fun e=>by subst e; first|exact h16 rfl|omega)).symm|exact congrArg Value.bool (decide_eq_false (fun e=>by subst e; rw [hp] at hq; cases hq; exact h128 rfl)).symm|exact congrArg Value.bool (decide_eq_false (fun e=>by subst e; rw [hx] at hy; cases hy; first|(rw [hz] at hu; cases hu; exact h110 rfl)|omega)).symm|exact congrArg Value.bool (decide_eq_true (eY h16 (by omega) (by omega) (by omega) (by omega) (cB (by omega) hl4_1 (by omega)) (cB (by omega) hl15_1 (by omega)))).symm
 replace h23:=XF h23
 refine rS (FA 4 rfl lV rfl)<|rS (L1 (Value.int .i64 l.aD) 1 rfl bu rfl rfl)<|rS (FA 4 rfl lV rfl)<|rS (L1 (Value.int .i64 m.aD) 0 rfl bu rfl rfl)<|rS (BI rfl dB)<|rS (PK rfl)<|rS (MV rfl) ?_
 refine bH (t:=30) rfl (fun h30=>?_) (fun h30=>?_)
 ·replace h30:=XT h30
  refine rS (OX rfl)<|rS (OX rfl)<|rS (OX rfl)<|rS (OX rfl)<|rS (OX rfl)<|rS (PK rfl)<|rS (MV rfl)<|rS (OX rfl)<|rS (OX rfl)<|rS (OX rfl) ?_
  refine rS (OX rfl)<|rS (OX rfl)<|rS (PK rfl)<|rS (MV rfl)<|rS (OX rfl)<|rS (OX rfl)<|rS (OX rfl)<|rS (OX rfl)<|rS (OX rfl)<|rS (OX rfl) ?_
  refine rS (OX rfl)<|rS (PK rfl)<|rS (MV rfl)<|rS (OX rfl)<|rS (OX rfl)<|rS (OX rfl)<|rS (OX rfl)<|rS (OX rfl)<|rS (OX rfl)<|rS (OX rfl) ?_
  refine rS (PK rfl)<|RK hK5<|aX rfl<|WS fun _ hK8=>rS (AG rfl)<|RK hK8<|aE<|Q1 hQ rfl rfl rfl ?_
  first|exact congrArg Value.bool (decide_eq_false (fun e=>by subst e; first|exact h16 rfl|omega)).symm|exact congrArg Value.bool (decide_eq_false (fun e=>by subst e; rw [hp] at hq; cases hq; exact h128 rfl)).symm|exact congrArg Value.bool (decide_eq_false (fun e=>by subst e; rw [hx] at hy; cases hy; first|(rw [hz] at hu; cases hu; exact h110 rfl)|omega)).symm|exact congrArg Value.bool (decide_eq_true (eY h16 (by omega) (by omega) (by omega) (by omega) (cB (by omega) hl4_1 (by omega)) (cB (by omega) hl15_1 (by omega)))).symm
 replace h30:=XF h30
 refine rS (FA 5 rfl qz rfl)<|rS (L1 (Value.int .i64 l.aV) 1 rfl bu rfl rfl)<|rS (FA 5 rfl qz rfl)<|rS (L1 (Value.int .i64 m.aV) 0 rfl bu rfl rfl)<|rS (BI rfl dB)<|rS (PK rfl)<|rS (MV rfl) ?_
 refine bH (t:=37) rfl (fun h37=>?_) (fun h37=>?_)
 ·replace h37:=XT h37
  refine rS (OX rfl)<|rS (OX rfl)<|rS (OX rfl)<|rS (OX rfl)<|rS (OX rfl)<|rS (PK rfl)<|rS (MV rfl)<|rS (OX rfl)<|rS (OX rfl)<|rS (OX rfl) ?_
  refine rS (OX rfl)<|rS (OX rfl)<|rS (OX rfl)<|rS (OX rfl)<|rS (PK rfl)<|rS (MV rfl)<|rS (OX rfl)<|rS (OX rfl)<|rS (OX rfl)<|rS (OX rfl) ?_
  refine rS (OX rfl)<|rS (OX rfl)<|rS (OX rfl)<|rS (PK rfl)<|RK hK5<|aX rfl<|WS fun _ hK9=>rS (AG rfl)<|RK hK9<|aE ?_
  refine Q1 hQ rfl rfl rfl ?_
  first|exact congrArg Value.bool (decide_eq_false (fun e=>by subst e; first|exact h16 rfl|omega)).symm|exact congrArg Value.bool (decide_eq_false (fun e=>by subst e; rw [hp] at hq; cases hq; exact h128 rfl)).symm|exact congrArg Value.bool (decide_eq_false (fun e=>by subst e; rw [hx] at hy; cases hy; first|(rw [hz] at hu; cases hu; exact h110 rfl)|omega)).symm|exact congrArg Value.bool (decide_eq_true (eY h16 (by omega) (by omega) (by omega) (by omega) (cB (by omega) hl4_1 (by omega)) (cB (by omega) hl15_1 (by omega)))).symm
 replace h37:=XF h37
 refine rS (FA 6 rfl qK rfl)<|rS (L1 (Value.int .i64 l.aJ) 1 rfl bu rfl rfl)<|rS (FA 6 rfl qK rfl)<|rS (L1 (Value.int .i64 m.aJ) 0 rfl bu rfl rfl)<|rS (BI rfl dB)<|rS (PK rfl)<|rS (MV rfl) ?_
 refine bH (t:=44) rfl (fun h44=>?_) (fun h44=>?_)
 ·replace h44:=XT h44
  refine rS (OX rfl)<|rS (OX rfl)<|rS (OX rfl)<|rS (OX rfl)<|rS (OX rfl)<|rS (OX rfl)<|rS (OX rfl)<|rS (PK rfl)<|rS (MV rfl)<|rS (OX rfl) ?_
  refine rS (OX rfl)<|rS (OX rfl)<|rS (OX rfl)<|rS (OX rfl)<|rS (OX rfl)<|rS (OX rfl)<|rS (PK rfl)<|RK hK5<|aX rfl<|WS fun _ hK10=>?_
  refine rS (AG rfl)<|RK hK10<|aE<|Q1 hQ rfl rfl rfl ?_
  first|exact congrArg Value.bool (decide_eq_false (fun e=>by subst e; first|exact h16 rfl|omega)).symm|exact congrArg Value.bool (decide_eq_false (fun e=>by subst e; rw [hp] at hq; cases hq; exact h128 rfl)).symm|exact congrArg Value.bool (decide_eq_false (fun e=>by subst e; rw [hx] at hy; cases hy; first|(rw [hz] at hu; cases hu; exact h110 rfl)|omega)).symm|exact congrArg Value.bool (decide_eq_true (eY h16 (by omega) (by omega) (by omega) (by omega) (cB (by omega) hl4_1 (by omega)) (cB (by omega) hl15_1 (by omega)))).symm
 replace h44:=XF h44
 refine rS (FA 2 rfl gu rfl)<|rS (L1 (Value.slice cA l.ag.length cC) 1 rfl lE rfl rfl)<|rS (LN rfl qy)<|rS (FA 2 rfl gu rfl)<|rS (L1 (Value.slice c2A m.ag.length c2C) 0 rfl lE rfl rfl)<|rS (LN rfl qy)<|rS (BI rfl dB)<|rS (PK rfl)<|rS (MV rfl) ?_
 refine bH (t:=53) rfl (fun h53=>?_) (fun h53=>?_)
 ·replace h53:=XT h53
  refine rS (OX rfl)<|rS (OX rfl)<|rS (OX rfl)<|rS (OX rfl)<|rS (OX rfl)<|rS (OX rfl)<|rS (OX rfl)<|rS (PK rfl)<|RK hK5<|aX rfl ?_
  refine WS fun _ hK11=>rS (AG rfl)<|RK hK11<|aE<|Q1 hQ rfl rfl rfl ?_
  first|exact congrArg Value.bool (decide_eq_false (fun e=>by subst e; first|exact h16 rfl|omega)).symm|exact congrArg Value.bool (decide_eq_false (fun e=>by subst e; rw [hp] at hq; cases hq; exact h128 rfl)).symm|exact congrArg Value.bool (decide_eq_false (fun e=>by subst e; rw [hx] at hy; cases hy; first|(rw [hz] at hu; cases hu; exact h110 rfl)|omega)).symm|exact congrArg Value.bool (decide_eq_true (eY h16 (by omega) (by omega) (by omega) (by omega) (cB (by omega) hl4_1 (by omega)) (cB (by omega) hl15_1 (by omega)))).symm
 replace h53:=XF h53
 refine rS (FA 3 rfl dy rfl)<|rS (L1 (Value.slice bA l.aa.length bC) 1 rfl g3 rfl rfl)<|rS (LN rfl jL)<|rS (FA 3 rfl dy rfl)<|rS (L1 (Value.slice b2A m.aa.length b2C) 0 rfl g3 rfl rfl)<|rS (LN rfl jL)<|rS (BI rfl dB)<|rS (PK rfl)<|RK hK5 ?_
 refine bj rfl (fun h61=>?_) (fun h61=>?_)
 ·replace h61:=XT h61
  refine WS fun _ hK12=>rS (AG rfl)<|RK hK12<|aE<|Q1 hQ rfl rfl rfl ?_
  first|exact congrArg Value.bool (decide_eq_false (fun e=>by subst e; first|exact h16 rfl|omega)).symm|exact congrArg Value.bool (decide_eq_false (fun e=>by subst e; rw [hp] at hq; cases hq; exact h128 rfl)).symm|exact congrArg Value.bool (decide_eq_false (fun e=>by subst e; rw [hx] at hy; cases hy; first|(rw [hz] at hu; cases hu; exact h110 rfl)|omega)).symm|exact congrArg Value.bool (decide_eq_true (eY h16 (by omega) (by omega) (by omega) (by omega) (cB (by omega) hl4_1 (by omega)) (cB (by omega) hl15_1 (by omega)))).symm
 replace h61:=XF h61
 refine WK hK4<|aq fun _ hK13=>WS fun _ hK14=>rS (AG rfl)<|RK hK14<|aG ?_
 have hinit:(0≤l.ag.length)∧(l.ag.take 0=m.ag.take 0):=by simp
 refine cq (ι:={z:Nat // (z≤l.ag.length)∧(l.ag.take z=m.ag.take z)}) (fun z=>[(2,(Value.pointer (some ⟨b2,0,none⟩))),(3,(Value.pointer (some ⟨b3,0,none⟩))),(5,(Value.int .i64 ((z.1:Nat):Int)))]) (fun z=>[(aT b3 28 (aF.cells (aF.mk (au.mk (av.mk k2A m.al.length k2C)) m.bw (av.mk c2A m.ag.length c2C) (av.mk b2A m.aa.length b2C) m.aD m.aV m.aJ))),(aT b2 28 (aF.cells (aF.mk (au.mk (av.mk kA l.al.length kC)) l.bw (av.mk cA l.ag.length cC) (av.mk bA l.aa.length bC) l.aD l.aV l.aJ))),(rd kA l.al.length 9 (l.al.map ah.cells)).ro,(rd cA l.ag.length 2 (List.zipWith aj.cells l.ag az)).ro,(cZ (aL aj.dX l.ag az)).ro,(rd bA l.aa.length 4 (l.aa.map aY.cells)).ro,(rd k2A m.al.length 9 (m.al.map ah.cells)).ro,(rd c2A m.ag.length 2 (List.zipWith aj.cells m.ag az2)).ro,(cZ (aL aj.dX m.ag az2)).ro,(rd b2A m.aa.length 4 (m.aa.map aY.cells)).ro]) (fun z=>l.ag.length-z.1) ⟨0,hinit⟩ (an.cons rfl<|an.cons rfl<|an.cons rfl<|an.nil _) (fun w hs=>St.br [0,1,2,3,4,5,6,7,8,9] rfl rfl hs) ?_
 clear hinit
 rintro ⟨i,⟨hl4_0,hl4_1⟩⟩ J15 hJ15
 try dsimp only
 refine aq fun _ hK16=>WS fun _ hK17=>rS (MV rfl)<|rS (FA 2 rfl gu rfl)<|rS (L1 (Value.slice cA l.ag.length cC) 1 rfl lE rfl rfl)<|rS (LN rfl qy)<|rS (BI rfl cv)<|RK hK17 ?_
 refine bj rfl (fun h18=>?_) (fun h18=>?_)
 rotate_left 1
 ·replace h18:=DF h18
  refine bE<|ai<|ai<|aH<|KK hK13<|aq fun _ hK41=>WS fun _ hK42=>rS (AG rfl)<|RK hK42<|aG ?_
  have hinit:(0≤l.aa.length)∧(l.aa.take 0=m.aa.take 0):=by simp
  refine cq (ι:={z:Nat // (z≤l.aa.length)∧(l.aa.take z=m.aa.take z)}) (fun z=>[(2,(Value.pointer (some ⟨b2,0,none⟩))),(3,(Value.pointer (some ⟨b3,0,none⟩))),(9,(Value.int .i64 ((z.1:Nat):Int)))]) (fun z=>[(aT b3 28 (aF.cells (aF.mk (au.mk (av.mk k2A m.al.length k2C)) m.bw (av.mk c2A m.ag.length c2C) (av.mk b2A m.aa.length b2C) m.aD m.aV m.aJ))),(aT b2 28 (aF.cells (aF.mk (au.mk (av.mk kA l.al.length kC)) l.bw (av.mk cA l.ag.length cC) (av.mk bA l.aa.length bC) l.aD l.aV l.aJ))),(rd kA l.al.length 9 (l.al.map ah.cells)).ro,(rd cA l.ag.length 2 (List.zipWith aj.cells l.ag az)).ro,(cZ (aL aj.dX l.ag az)).ro,(rd bA l.aa.length 4 (l.aa.map aY.cells)).ro,(rd k2A m.al.length 9 (m.al.map ah.cells)).ro,(rd c2A m.ag.length 2 (List.zipWith aj.cells m.ag az2)).ro,(cZ (aL aj.dX m.ag az2)).ro,(rd b2A m.aa.length 4 (m.aa.map aY.cells)).ro]) (fun z=>l.aa.length-z.1) ⟨0,hinit⟩ (an.cons rfl<|an.cons rfl<|an.cons rfl<|an.nil _) (fun w hs=>St.br [0,1,2,3,4,5,6,7,8,9] rfl rfl hs) ?_
  clear hinit
  rintro ⟨n,⟨hl15_0,hl15_1⟩⟩ J43 hJ43
  try dsimp only
  refine aq fun _ hK44=>WS fun _ hK45=>rS (MV rfl)<|rS (FA 3 rfl dy rfl)<|rS (L1 (Value.slice bA l.aa.length bC) 1 rfl g3 rfl rfl)<|rS (LN rfl jL)<|rS (BI rfl cv)<|RK hK45 ?_
  refine bj rfl (fun h46=>?_) (fun h46=>?_)
  rotate_left 1
  ·replace h46:=DF h46
   refine bE<|ai<|ai<|aH<|KK hK41<|WS fun _ hK51=>rS (AG rfl)<|RK hK51<|aE<|Q1 hQ rfl rfl rfl ?_
   first|exact congrArg Value.bool (decide_eq_false (fun e=>by subst e; first|exact h16 rfl|omega)).symm|exact congrArg Value.bool (decide_eq_false (fun e=>by subst e; rw [hp] at hq; cases hq; exact h128 rfl)).symm|exact congrArg Value.bool (decide_eq_false (fun e=>by subst e; rw [hx] at hy; cases hy; first|(rw [hz] at hu; cases hu; exact h110 rfl)|omega)).symm|exact congrArg Value.bool (decide_eq_true (eY h16 (by omega) (by omega) (by omega) (by omega) (cB (by omega) hl4_1 (by omega)) (cB (by omega) hl15_1 (by omega)))).symm
  replace h46:=DT h46
  refine WK hK44<|aq fun _ hK47=>aG<|aq fun _ hK48=>dm cG 11 (by kernel_rfl)<|dS (FA 3 rfl dy rfl)<|dS (L1 (Value.slice bA l.aa.length bC) 1 rfl g3 rfl rfl)<|dS (MV rfl) ?_
  obtain ⟨p,hp⟩: ∃ y_,l.aa[n]? =some y_:=⟨l.aa[n]'(by omega),List.getElem?_eq_getElem _⟩
  have hpm:(l.aa.map aY.cells)[n]? =some (aY.cells p):=by rw [List.getElem?_map,hp]; rfl
  refine dS (IA n rfl (aI 5 rfl) qu (by decide) (by omega) (by omega))<|dS (lF n 0 (aY.cells p) rfl zX (aI 5 rfl) hpm rfl (by decide) rfl rfl)<|dS (FA 3 rfl dy rfl)<|dS (L1 (Value.slice b2A m.aa.length b2C) 0 rfl g3 rfl rfl)<|dS (MV rfl) ?_
  obtain ⟨q,hq⟩: ∃ y_,m.aa[n]? =some y_:=⟨m.aa[n]'(by omega),List.getElem?_eq_getElem _⟩
  have hqm:(m.aa.map aY.cells)[n]? =some (aY.cells q):=by rw [List.getElem?_map,hq]; rfl
  refine dS (IA n rfl (aI 9 rfl) qu (by decide) (by omega) (by omega))<|dS (lF n 0 (aY.cells q) rfl zX (aI 9 rfl) hqm rfl (by decide) rfl rfl)<|dS (BI rfl (Er _ _ p q))<|cP<|RK hK48 ?_
  refine bj rfl (fun h128=>?_) (fun h128=>?_)
  rotate_left 1
  ·replace h128:=XF h128
   refine cM<|aK<|KK hK47<|ar<|rS (MV rfl)<|rS (BI rfl (aZ ⟨by omega,by omega⟩))<|rS (AG rfl)<|aP ?_
   have hb50:(Value.int .i64 (((n+1):Nat):Int))=(Value.int .i64 (((n:Nat):Int)+1)):=by exact congrArg (Value.int .i64) (by omega)
   refine aO (hJ43 ⟨(n+1),⟨by omega,jy hl15_1 hp hq h128⟩⟩ _ _ _ rfl (by first|omega|(simp; omega)) (an.cons rfl<|an.cons rfl<|aQ rfl hb50<|an.nil _) (fun w hs=>St.br [0,1,2,3,4,5,6,7,8,9] rfl rfl hs))
  replace h128:=XT h128
  refine WS fun _ hK49=>rS (AG rfl)<|RK hK49<|aE<|Q1 hQ rfl rfl rfl ?_
  first|exact congrArg Value.bool (decide_eq_false (fun e=>by subst e; first|exact h16 rfl|omega)).symm|exact congrArg Value.bool (decide_eq_false (fun e=>by subst e; rw [hp] at hq; cases hq; exact h128 rfl)).symm|exact congrArg Value.bool (decide_eq_false (fun e=>by subst e; rw [hx] at hy; cases hy; first|(rw [hz] at hu; cases hu; exact h110 rfl)|omega)).symm|exact congrArg Value.bool (decide_eq_true (eY h16 (by omega) (by omega) (by omega) (by omega) (cB (by omega) hl4_1 (by omega)) (cB (by omega) hl15_1 (by omega)))).symm
 replace h18:=DT h18
 refine WK hK16<|aq fun _ hK19=>aG<|aq fun _ hK20=>lJ cG [0,1,2,3,4,5,6,7,8,9] [10,11,12,13] [false,false,false,false,false,false,false,false,false,false] [] [(aT b3 28 (aF.cells (aF.mk (au.mk (av.mk k2A m.al.length k2C)) m.bw (av.mk c2A m.ag.length c2C) (av.mk b2A m.aa.length b2C) m.aD m.aV m.aJ))),(aT b2 28 (aF.cells (aF.mk (au.mk (av.mk kA l.al.length kC)) l.bw (av.mk cA l.ag.length cC) (av.mk bA l.aa.length bC) l.aD l.aV l.aJ))),(rd kA l.al.length 9 (l.al.map ah.cells)).ro,(rd cA l.ag.length 2 (List.zipWith aj.cells l.ag az)).ro,(cZ (aL aj.dX l.ag az)).ro,(rd bA l.aa.length 4 (l.aa.map aY.cells)).ro,(rd k2A m.al.length 9 (m.al.map ah.cells)).ro,(rd c2A m.ag.length 2 (List.zipWith aj.cells m.ag az2)).ro,(cZ (aL aj.dX m.ag az2)).ro,(rd b2A m.aa.length 4 (m.aa.map aY.cells)).ro] [] (by kernel_rfl) (fun w hs=>St.br [0,1,2,3,4,5,6,7,8,9] rfl rfl hs) (fun w hs=>St.br [] rfl rfl hs)<|eS rfl (FA 2 rfl gu rfl)<|eS rfl (L1 (Value.slice cA l.ag.length cC) 1 rfl lE rfl rfl)<|eS rfl (MV rfl) ?_
 obtain ⟨x,hx⟩: ∃ y_,l.ag[i]? =some y_:=⟨l.ag[i]'(by omega),List.getElem?_eq_getElem _⟩
 obtain ⟨xa,hxa⟩: ∃ y_,az[i]? =some y_:=⟨az[i]'(by omega),List.getElem?_eq_getElem _⟩
 have hxm:(List.zipWith aj.cells l.ag az)[i]? =some (aj.cells x xa):=gM hx hxa
 refine eS rfl (IA i rfl (aI 3 rfl) tI (by decide) (by omega) (by omega))<|eS rfl (lF i 0 (bO.cells (bO.mk x.bJ (av.mk xa.1 x.aB.length xa.2))) rfl rq (aI 3 rfl) hxm rfl (by decide) rfl rfl)<|eS rfl (FA 2 rfl gu rfl)<|eS rfl (L1 (Value.slice c2A m.ag.length c2C) 0 rfl lE rfl rfl)<|eS rfl (MV rfl) ?_
 obtain ⟨y,hy⟩: ∃ y_,m.ag[i]? =some y_:=⟨m.ag[i]'(by omega),List.getElem?_eq_getElem _⟩
 obtain ⟨ya,hya⟩: ∃ y_,az2[i]? =some y_:=⟨az2[i]'(by omega),List.getElem?_eq_getElem _⟩
 have hym:(List.zipWith aj.cells m.ag az2)[i]? =some (aj.cells y ya):=gM hy hya
 refine eS rfl (IA i rfl (aI 7 rfl) tI (by decide) (by omega) (by omega))<|eS rfl (lF i 0 (bO.cells (bO.mk y.bJ (av.mk ya.1 y.aB.length ya.2))) rfl rq (aI 7 rfl) hym rfl (by decide) rfl rfl)<|fw rfl ?_
 refine hO [10,11] (by kernel_rfl) (dI ?_<|dI ?_<|jM)
 rotate_left 1
 ·refine NO rfl rfl [10,12,13] fun T21 hT21=>?_
  refine AL rfl yW fun b22=>RD hT21 1 rfl<|N1 10<|NO rfl rfl [12,13] fun T23 hT23=>AL rfl yW fun b24=>RD hT23 2 rfl<|N1 12<|NO rfl rfl [13] fun T25 hT25=>fO rfl zr rfl<|RD hT25 2 rfl ?_
  refine N1 13<|NO rfl rfl [] fun T26 hT26=>nk rfl zr rfl<|RD hT26 2 rfl<|g8<|KK hK20<|aq fun _ hK27=>WS fun _ hK28=>rS (FA 0 rfl lk rfl)<|rS (L1 (Value.int .i64 x.bJ) 0 rfl bu rfl rfl) ?_
  refine rS (FA 0 rfl lk rfl)<|rS (L1 (Value.int .i64 y.bJ) 1 rfl bu rfl rfl)<|rS (BI rfl dB)<|rS (MV rfl) ?_
  refine bH (t:=84) rfl (fun h84=>?_) (fun h84=>?_)
  ·replace h84:=XT h84
   refine rS (OX rfl)<|rS (OX rfl)<|rS (OX rfl)<|rS (OX rfl)<|rS (OX rfl)<|rS (OX rfl)<|rS (OX rfl)<|rS (PK rfl)<|RK hK28<|aX rfl ?_
   refine WS fun _ hK29=>rS (AG rfl)<|RK hK29<|aE<|Q1 hQ rfl rfl rfl ?_
   first|exact congrArg Value.bool (decide_eq_false (fun e=>by subst e; first|exact h16 rfl|omega)).symm|exact congrArg Value.bool (decide_eq_false (fun e=>by subst e; rw [hp] at hq; cases hq; exact h128 rfl)).symm|exact congrArg Value.bool (decide_eq_false (fun e=>by subst e; rw [hx] at hy; cases hy; first|(rw [hz] at hu; cases hu; exact h110 rfl)|omega)).symm|exact congrArg Value.bool (decide_eq_true (eY h16 (by omega) (by omega) (by omega) (by omega) (cB (by omega) hl4_1 (by omega)) (cB (by omega) hl15_1 (by omega)))).symm
  replace h84:=XF h84
  refine rS (FA 1 rfl ff rfl)<|rS (L1 (Value.slice xa.1 x.aB.length xa.2) 0 rfl kq rfl rfl)<|rS (LN rfl oM)<|rS (FA 1 rfl ff rfl)<|rS (L1 (Value.slice ya.1 y.aB.length ya.2) 1 rfl kq rfl rfl)<|rS (LN rfl oM)<|rS (BI rfl dB)<|rS (PK rfl)<|RK hK28 ?_
  refine bj rfl (fun h92=>?_) (fun h92=>?_)
  ·replace h92:=XT h92
   refine WS fun _ hK30=>rS (AG rfl)<|RK hK30<|aE<|Q1 hQ rfl rfl rfl ?_
   first|exact congrArg Value.bool (decide_eq_false (fun e=>by subst e; first|exact h16 rfl|omega)).symm|exact congrArg Value.bool (decide_eq_false (fun e=>by subst e; rw [hp] at hq; cases hq; exact h128 rfl)).symm|exact congrArg Value.bool (decide_eq_false (fun e=>by subst e; rw [hx] at hy; cases hy; first|(rw [hz] at hu; cases hu; exact h110 rfl)|omega)).symm|exact congrArg Value.bool (decide_eq_true (eY h16 (by omega) (by omega) (by omega) (by omega) (cB (by omega) hl4_1 (by omega)) (cB (by omega) hl15_1 (by omega)))).symm
  replace h92:=XF h92
  refine WK hK27<|WS fun _ hK31=>rS (AG rfl)<|RK hK31<|aG ?_
  have hinit:(0≤x.aB.length)∧(x.aB.take 0=y.aB.take 0):=by simp
  refine cq (ι:={z:Nat // (z≤x.aB.length)∧(x.aB.take z=y.aB.take z)}) (fun z=>[(2,(Value.pointer (some ⟨b2,0,none⟩))),(3,(Value.pointer (some ⟨b3,0,none⟩))),(5,(Value.int .i64 ((i:Nat):Int))),(6,(Value.pointer (some ⟨b24,0,none⟩))),(7,(Value.pointer (some ⟨b22,0,none⟩))),(8,(Value.int .i64 ((z.1:Nat):Int)))]) (fun z=>[(aT b24 63 (bO.cells (bO.mk x.bJ (av.mk xa.1 x.aB.length xa.2)))),(aT b22 63 (bO.cells (bO.mk y.bJ (av.mk ya.1 y.aB.length ya.2)))),(aT b3 28 (aF.cells (aF.mk (au.mk (av.mk k2A m.al.length k2C)) m.bw (av.mk c2A m.ag.length c2C) (av.mk b2A m.aa.length b2C) m.aD m.aV m.aJ))),(aT b2 28 (aF.cells (aF.mk (au.mk (av.mk kA l.al.length kC)) l.bw (av.mk cA l.ag.length cC) (av.mk bA l.aa.length bC) l.aD l.aV l.aJ))),(rd kA l.al.length 9 (l.al.map ah.cells)).ro,(rd cA l.ag.length 2 (List.zipWith aj.cells l.ag az)).ro,(cZ (aL aj.dX l.ag az)).ro,(rd bA l.aa.length 4 (l.aa.map aY.cells)).ro,(rd k2A m.al.length 9 (m.al.map ah.cells)).ro,(rd c2A m.ag.length 2 (List.zipWith aj.cells m.ag az2)).ro,(cZ (aL aj.dX m.ag az2)).ro,(rd b2A m.aa.length 4 (m.aa.map aY.cells)).ro]) (fun z=>x.aB.length-z.1) ⟨0,hinit⟩ (an.cons rfl<|an.cons rfl<|an.cons rfl<|an.cons rfl<|an.cons rfl<|an.cons rfl<|an.nil _) (fun w hs=>St.br [0,1,2,3,4,5,6,7,8,9,10,11] rfl rfl hs) ?_
  clear hinit
  rintro ⟨k,⟨hl10_0,hl10_1⟩⟩ J32 hJ32
  try dsimp only
  have hxg:=hgr.2.2.2 x (List.mem_of_getElem? hx)
  have hyg:=hgr2.2.2.2 y (List.mem_of_getElem? hy)
  refine aq fun _ hK33=>WS fun _ hK34=>rS (MV rfl)<|rS (FA 1 rfl ff rfl)<|rS (L1 (Value.slice xa.1 x.aB.length xa.2) 0 rfl kq rfl rfl)<|rS (LN rfl oM)<|rS (BI rfl cv)<|RK hK34 ?_
  refine bj rfl (fun h35=>?_) (fun h35=>?_)
  rotate_left 1
  ·replace h35:=DF h35
   refine bE<|ai<|ai<|aH<|aK<|KK hK19<|ar<|rS (MV rfl)<|rS (BI rfl (aZ ⟨by omega,by omega⟩))<|rS (AG rfl) ?_
   refine aP ?_
   have hb40:(Value.int .i64 (((i+1):Nat):Int))=(Value.int .i64 (((i:Nat):Int)+1)):=by exact congrArg (Value.int .i64) (by omega)
   refine aO (hJ15 ⟨(i+1),⟨by omega,jy hl4_1 hx hy (ti (by omega) (by omega) (by omega) hl10_1)⟩⟩ _ _ _ rfl (by first|omega|(simp; omega)) (an.cons rfl<|an.cons rfl<|aQ rfl hb40<|an.nil _) (fun w hs=>St.br [2,3,4,5,6,7,8,9,10,11] rfl rfl hs))
  replace h35:=DT h35
  refine WK hK33<|aq fun _ hK36=>aG<|aq fun _ hK37=>dm cG 11 (by kernel_rfl)<|dS (FA 1 rfl ff rfl)<|dS (L1 (Value.slice xa.1 x.aB.length xa.2) 0 rfl kq rfl rfl)<|dS (MV rfl) ?_
  obtain ⟨z,hz⟩: ∃ y_,x.aB[k]? =some y_:=⟨x.aB[k]'(by omega),List.getElem?_eq_getElem _⟩
  have hzm:(x.aB.map bD.cells)[k]? =some (bD.cells z):=by rw [List.getElem?_map,hz]; rfl
  refine dS (IA k rfl (show jS _ (rd xa.1 x.aB.length 3 (x.aB.map bD.cells)).holds from (eM 6 rfl (dc hx hxa (by simp [aj.dX])))) pR (by decide) (by omega) (by omega))<|dS (lF k 0 (bD.cells z) rfl rr (show jS _ (rd xa.1 x.aB.length 3 (x.aB.map bD.cells)).holds from (eM 6 rfl (dc hx hxa (by simp [aj.dX])))) hzm rfl (by decide) rfl rfl)<|dS (FA 1 rfl ff rfl)<|dS (L1 (Value.slice ya.1 y.aB.length ya.2) 1 rfl kq rfl rfl)<|dS (MV rfl) ?_
  obtain ⟨u,hu⟩: ∃ y_,y.aB[k]? =some y_:=⟨y.aB[k]'(by omega),List.getElem?_eq_getElem _⟩
  have hum:(y.aB.map bD.cells)[k]? =some (bD.cells u):=by rw [List.getElem?_map,hu]; rfl
  refine dS (IA k rfl (show jS _ (rd ya.1 y.aB.length 3 (y.aB.map bD.cells)).holds from (eM 10 rfl (dc hy hya (by simp [aj.dX])))) pR (by decide) (by omega) (by omega))<|dS (lF k 0 (bD.cells u) rfl rr (show jS _ (rd ya.1 y.aB.length 3 (y.aB.map bD.cells)).holds from (eM 10 rfl (dc hy hya (by simp [aj.dX])))) hum rfl (by decide) rfl rfl)<|dS (BI rfl (Dj _ _ z u))<|cP<|RK hK37 ?_
  refine bj rfl (fun h110=>?_) (fun h110=>?_)
  rotate_left 1
  ·replace h110:=XF h110
   refine cM<|aK<|KK hK36<|ar<|rS (MV rfl)<|rS (BI rfl (aZ ⟨by omega,by omega⟩))<|rS (AG rfl)<|aP ?_
   have hb39:(Value.int .i64 (((k+1):Nat):Int))=(Value.int .i64 (((k:Nat):Int)+1)):=by exact congrArg (Value.int .i64) (by omega)
   refine aO (hJ32 ⟨(k+1),⟨by omega,jy hl10_1 hz hu h110⟩⟩ _ _ _ rfl (by first|omega|(simp; omega)) (an.cons rfl<|an.cons rfl<|an.cons rfl<|an.cons rfl<|an.cons rfl<|aQ rfl hb39<|an.nil _) (fun w hs=>St.br [0,1,2,3,4,5,6,7,8,9,10,11] rfl rfl hs))
  replace h110:=XT h110
  refine WS fun _ hK38=>rS (AG rfl)<|RK hK38<|aE<|Q1 hQ rfl rfl rfl ?_
  first|exact congrArg Value.bool (decide_eq_false (fun e=>by subst e; first|exact h16 rfl|omega)).symm|exact congrArg Value.bool (decide_eq_false (fun e=>by subst e; rw [hp] at hq; cases hq; exact h128 rfl)).symm|exact congrArg Value.bool (decide_eq_false (fun e=>by subst e; rw [hx] at hy; cases hy; first|(rw [hz] at hu; cases hu; exact h110 rfl)|omega)).symm|exact congrArg Value.bool (decide_eq_true (eY h16 (by omega) (by omega) (by omega) (by omega) (cB (by omega) hl4_1 (by omega)) (cB (by omega) hl15_1 (by omega)))).symm
 refine NO rfl rfl [11,12,13] fun T21 hT21=>AL rfl yW fun b22=>RD hT21 1 rfl<|N1 11<|NO rfl rfl [12,13] fun T23 hT23=>AL rfl yW fun b24=>RD hT23 2 rfl<|N1 12<|NO rfl rfl [13] fun T25 hT25=>nk rfl zr rfl ?_
 refine RD hT25 2 rfl<|N1 13<|NO rfl rfl [] fun T26 hT26=>fO rfl zr rfl<|RD hT26 2 rfl<|g8<|KK hK20<|aq fun _ hK27=>WS fun _ hK28=>rS (FA 0 rfl lk rfl) ?_
 refine rS (L1 (Value.int .i64 x.bJ) 1 rfl bu rfl rfl)<|rS (FA 0 rfl lk rfl)<|rS (L1 (Value.int .i64 y.bJ) 0 rfl bu rfl rfl)<|rS (BI rfl dB)<|rS (MV rfl) ?_
 refine bH (t:=84) rfl (fun h84=>?_) (fun h84=>?_)
 ·replace h84:=XT h84
  refine rS (OX rfl)<|rS (OX rfl)<|rS (OX rfl)<|rS (OX rfl)<|rS (OX rfl)<|rS (OX rfl)<|rS (OX rfl)<|rS (PK rfl)<|RK hK28<|aX rfl ?_
  refine WS fun _ hK29=>rS (AG rfl)<|RK hK29<|aE<|Q1 hQ rfl rfl rfl ?_
  first|exact congrArg Value.bool (decide_eq_false (fun e=>by subst e; first|exact h16 rfl|omega)).symm|exact congrArg Value.bool (decide_eq_false (fun e=>by subst e; rw [hp] at hq; cases hq; exact h128 rfl)).symm|exact congrArg Value.bool (decide_eq_false (fun e=>by subst e; rw [hx] at hy; cases hy; first|(rw [hz] at hu; cases hu; exact h110 rfl)|omega)).symm|exact congrArg Value.bool (decide_eq_true (eY h16 (by omega) (by omega) (by omega) (by omega) (cB (by omega) hl4_1 (by omega)) (cB (by omega) hl15_1 (by omega)))).symm
 replace h84:=XF h84
 refine rS (FA 1 rfl ff rfl)<|rS (L1 (Value.slice xa.1 x.aB.length xa.2) 1 rfl kq rfl rfl)<|rS (LN rfl oM)<|rS (FA 1 rfl ff rfl)<|rS (L1 (Value.slice ya.1 y.aB.length ya.2) 0 rfl kq rfl rfl)<|rS (LN rfl oM)<|rS (BI rfl dB)<|rS (PK rfl)<|RK hK28 ?_
 refine bj rfl (fun h92=>?_) (fun h92=>?_)
 ·replace h92:=XT h92
  refine WS fun _ hK30=>rS (AG rfl)<|RK hK30<|aE<|Q1 hQ rfl rfl rfl ?_
  first|exact congrArg Value.bool (decide_eq_false (fun e=>by subst e; first|exact h16 rfl|omega)).symm|exact congrArg Value.bool (decide_eq_false (fun e=>by subst e; rw [hp] at hq; cases hq; exact h128 rfl)).symm|exact congrArg Value.bool (decide_eq_false (fun e=>by subst e; rw [hx] at hy; cases hy; first|(rw [hz] at hu; cases hu; exact h110 rfl)|omega)).symm|exact congrArg Value.bool (decide_eq_true (eY h16 (by omega) (by omega) (by omega) (by omega) (cB (by omega) hl4_1 (by omega)) (cB (by omega) hl15_1 (by omega)))).symm
 replace h92:=XF h92
 refine WK hK27<|WS fun _ hK31=>rS (AG rfl)<|RK hK31<|aG ?_
 have hinit:(0≤x.aB.length)∧(x.aB.take 0=y.aB.take 0):=by simp
 refine cq (ι:={z:Nat // (z≤x.aB.length)∧(x.aB.take z=y.aB.take z)}) (fun z=>[(2,(Value.pointer (some ⟨b2,0,none⟩))),(3,(Value.pointer (some ⟨b3,0,none⟩))),(5,(Value.int .i64 ((i:Nat):Int))),(6,(Value.pointer (some ⟨b22,0,none⟩))),(7,(Value.pointer (some ⟨b24,0,none⟩))),(8,(Value.int .i64 ((z.1:Nat):Int)))]) (fun z=>[(aT b24 63 (bO.cells (bO.mk y.bJ (av.mk ya.1 y.aB.length ya.2)))),(aT b22 63 (bO.cells (bO.mk x.bJ (av.mk xa.1 x.aB.length xa.2)))),(aT b3 28 (aF.cells (aF.mk (au.mk (av.mk k2A m.al.length k2C)) m.bw (av.mk c2A m.ag.length c2C) (av.mk b2A m.aa.length b2C) m.aD m.aV m.aJ))),(aT b2 28 (aF.cells (aF.mk (au.mk (av.mk kA l.al.length kC)) l.bw (av.mk cA l.ag.length cC) (av.mk bA l.aa.length bC) l.aD l.aV l.aJ))),(rd kA l.al.length 9 (l.al.map ah.cells)).ro,(rd cA l.ag.length 2 (List.zipWith aj.cells l.ag az)).ro,(cZ (aL aj.dX l.ag az)).ro,(rd bA l.aa.length 4 (l.aa.map aY.cells)).ro,(rd k2A m.al.length 9 (m.al.map ah.cells)).ro,(rd c2A m.ag.length 2 (List.zipWith aj.cells m.ag az2)).ro,(cZ (aL aj.dX m.ag az2)).ro,(rd b2A m.aa.length 4 (m.aa.map aY.cells)).ro]) (fun z=>x.aB.length-z.1) ⟨0,hinit⟩ (an.cons rfl<|an.cons rfl<|an.cons rfl<|an.cons rfl<|an.cons rfl<|an.cons rfl<|an.nil _) (fun w hs=>St.br [0,1,2,3,4,5,6,7,8,9,10,11] rfl rfl hs) ?_
 clear hinit
 rintro ⟨k,⟨hl10_0,hl10_1⟩⟩ J32 hJ32
 try dsimp only
 have hxg:=hgr.2.2.2 x (List.mem_of_getElem? hx)
 have hyg:=hgr2.2.2.2 y (List.mem_of_getElem? hy)
 refine aq fun _ hK33=>WS fun _ hK34=>rS (MV rfl)<|rS (FA 1 rfl ff rfl)<|rS (L1 (Value.slice xa.1 x.aB.length xa.2) 1 rfl kq rfl rfl)<|rS (LN rfl oM)<|rS (BI rfl cv)<|RK hK34 ?_
 refine bj rfl (fun h35=>?_) (fun h35=>?_)
 rotate_left 1
 ·replace h35:=DF h35
  refine bE<|ai<|ai<|aH<|aK<|KK hK19<|ar<|rS (MV rfl)<|rS (BI rfl (aZ ⟨by omega,by omega⟩))<|rS (AG rfl) ?_
  refine aP ?_
  have hb40:(Value.int .i64 (((i+1):Nat):Int))=(Value.int .i64 (((i:Nat):Int)+1)):=by exact congrArg (Value.int .i64) (by omega)
  refine aO (hJ15 ⟨(i+1),⟨by omega,jy hl4_1 hx hy (ti (by omega) (by omega) (by omega) hl10_1)⟩⟩ _ _ _ rfl (by first|omega|(simp; omega)) (an.cons rfl<|an.cons rfl<|aQ rfl hb40<|an.nil _) (fun w hs=>St.br [2,3,4,5,6,7,8,9,10,11] rfl rfl hs))
 replace h35:=DT h35
 refine WK hK33<|aq fun _ hK36=>aG<|aq fun _ hK37=>dm cG 11 (by kernel_rfl)<|dS (FA 1 rfl ff rfl)<|dS (L1 (Value.slice xa.1 x.aB.length xa.2) 1 rfl kq rfl rfl)<|dS (MV rfl) ?_
 obtain ⟨z,hz⟩: ∃ y_,x.aB[k]? =some y_:=⟨x.aB[k]'(by omega),List.getElem?_eq_getElem _⟩
 have hzm:(x.aB.map bD.cells)[k]? =some (bD.cells z):=by rw [List.getElem?_map,hz]; rfl
 refine dS (IA k rfl (show jS _ (rd xa.1 x.aB.length 3 (x.aB.map bD.cells)).holds from (eM 6 rfl (dc hx hxa (by simp [aj.dX])))) pR (by decide) (by omega) (by omega))<|dS (lF k 0 (bD.cells z) rfl rr (show jS _ (rd xa.1 x.aB.length 3 (x.aB.map bD.cells)).holds from (eM 6 rfl (dc hx hxa (by simp [aj.dX])))) hzm rfl (by decide) rfl rfl)<|dS (FA 1 rfl ff rfl)<|dS (L1 (Value.slice ya.1 y.aB.length ya.2) 0 rfl kq rfl rfl)<|dS (MV rfl) ?_
 obtain ⟨u,hu⟩: ∃ y_,y.aB[k]? =some y_:=⟨y.aB[k]'(by omega),List.getElem?_eq_getElem _⟩
 have hum:(y.aB.map bD.cells)[k]? =some (bD.cells u):=by rw [List.getElem?_map,hu]; rfl
 refine dS (IA k rfl (show jS _ (rd ya.1 y.aB.length 3 (y.aB.map bD.cells)).holds from (eM 10 rfl (dc hy hya (by simp [aj.dX])))) pR (by decide) (by omega) (by omega))<|dS (lF k 0 (bD.cells u) rfl rr (show jS _ (rd ya.1 y.aB.length 3 (y.aB.map bD.cells)).holds from (eM 10 rfl (dc hy hya (by simp [aj.dX])))) hum rfl (by decide) rfl rfl)<|dS (BI rfl (Dj _ _ z u))<|cP<|RK hK37 ?_
 refine bj rfl (fun h110=>?_) (fun h110=>?_)
 rotate_left 1
 ·replace h110:=XF h110
  refine cM<|aK<|KK hK36<|ar<|rS (MV rfl)<|rS (BI rfl (aZ ⟨by omega,by omega⟩))<|rS (AG rfl)<|aP ?_
  have hb39:(Value.int .i64 (((k+1):Nat):Int))=(Value.int .i64 (((k:Nat):Int)+1)):=by exact congrArg (Value.int .i64) (by omega)
  refine aO (hJ32 ⟨(k+1),⟨by omega,jy hl10_1 hz hu h110⟩⟩ _ _ _ rfl (by first|omega|(simp; omega)) (an.cons rfl<|an.cons rfl<|an.cons rfl<|an.cons rfl<|an.cons rfl<|aQ rfl hb39<|an.nil _) (fun w hs=>St.br [0,1,2,3,4,5,6,7,8,9,10,11] rfl rfl hs))
 replace h110:=XT h110
 refine WS fun _ hK38=>rS (AG rfl)<|RK hK38<|aE<|Q1 hQ rfl rfl rfl ?_
 first|exact congrArg Value.bool (decide_eq_false (fun e=>by subst e; first|exact h16 rfl|omega)).symm|exact congrArg Value.bool (decide_eq_false (fun e=>by subst e; rw [hp] at hq; cases hq; exact h128 rfl)).symm|exact congrArg Value.bool (decide_eq_false (fun e=>by subst e; rw [hx] at hy; cases hy; first|(rw [hz] at hu; cases hu; exact h110 rfl)|omega)).symm|exact congrArg Value.bool (decide_eq_true (eY h16 (by omega) (by omega) (by omega) (by omega) (cB (by omega) hl4_1 (by omega)) (cB (by omega) hl15_1 (by omega)))).symm
end
section
open Go.RowKit
set_option linter.unusedVariables false
theorem l4:rQ Tryz.prog 124 cm:=CK DE (fun x y w=>E7 9998 x y w) (fun x y h=>by cases x; cases y; simp [ao.cells] at h; simp [h]) (fun x=>by simp [ao.cells,Instr.sameBits]) (fun x w=>⟨_,rfl,fun p hp=>by
 simp only [List.mem_cons,List.not_mem_nil,or_false] at hp
 rcases hp with rfl|rfl
 ·exact ⟨⟨_,dD bu rfl w⟩,_,qY⟩
 ·exact ⟨⟨_,dD bu rfl w⟩,_,qY⟩⟩)
set_option maxRecDepth 100000 in
set_option maxHeartbeats 400000 in
theorem Bx (s:Int):
 eH Tryz.prog 70 [(Value.int .i64 s)] [] (Value.agg (ao.cells (dQ s)).toArray):=by
 refine bL HD Tryz.func70 rfl rfl fun w0 Q hQ hN=>?_
 try dsimp only
 refine WS fun _ hK1=>AL rfl pB fun b2=>RK hK1<|aq fun _ hK3=>WS fun _ hK4=>rS (MV rfl)<|rS (BI rfl cv)<|RK hK4 ?_
 refine bj rfl (fun h4=>?_) (fun h4=>?_)
 ·replace h4:=DT h4
  refine WS fun _ hK5=>rS (SX (bp (xs:=[(1,.const (Value.int .i64 1))]) (cs:=(ao.cells (ao.mk 0 1))) rfl rfl (bq vG rfl)) rfl rfl)<|fO rfl oO rfl<|RK hK5<|aE ?_
  refine hQ _ _ _ (bB (vs:=[(Value.agg (ao.cells (ao.mk 0 1)).toArray)]) ⟨⟨_,rfl,.inl ⟨_,_,k6,cy (vs:=(ao.cells (ao.mk 0 1))) 0 rfl rfl,rfl,rfl⟩⟩,trivial⟩ fun w hs=>fq ?_ hs)
  show (Value.agg (ao.cells (ao.mk 0 1)).toArray)=(Value.agg (ao.cells (dQ s)).toArray)
  clear hs w hQ hN hK5 hK4 hK3 hK1
  unfold dQ; first|rw [if_pos h4]|rw [if_neg h4]
 replace h4:=DF h4
 refine WK hK3<|WS fun _ hK6=>rS (SX (bp (xs:=[(0,.const (Value.int .i64 1))]) (cs:=(ao.cells (ao.mk 1 0))) rfl rfl (bq vG rfl)) rfl rfl)<|fO rfl oO rfl<|RK hK6<|aE ?_
 refine hQ _ _ _ (bB (vs:=[(Value.agg (ao.cells (ao.mk 1 0)).toArray)]) ⟨⟨_,rfl,.inl ⟨_,_,k6,cy (vs:=(ao.cells (ao.mk 1 0))) 0 rfl rfl,rfl,rfl⟩⟩,trivial⟩ fun w hs=>fq ?_ hs)
 show (Value.agg (ao.cells (ao.mk 1 0)).toArray)=(Value.agg (ao.cells (dQ s)).toArray)
 clear hs w hQ hN hK6 hK4 hK3 hK1
 unfold dQ; first|rw [if_pos h4]|rw [if_neg h4]
set_option maxRecDepth 100000 in
set_option maxHeartbeats 400000 in
theorem rN (x:ao) (y:ao) (hx:(0≤x.right∧x.right≤1000)∧0≤x.de∧x.de≤1000) (hy:(0≤y.right∧y.right≤1000)∧0≤y.de∧y.de≤1000):
 eH Tryz.prog 69 [(Value.agg (ao.cells x).toArray),(Value.agg (ao.cells y).toArray)] [] (Value.agg (ao.cells (cO x y)).toArray):=by
 refine bL IQ Tryz.func69 rfl rfl fun w0 Q hQ hN=>?_
 try dsimp only
 refine WS fun _ hK1=>fy rfl fun b2=>fy rfl fun b3=>AL rfl pB fun b4=>RK hK1<|WS fun _ hK5=>rS (FA 0 rfl u1 rfl)<|rS (L1 (Value.int .i64 x.right) 2 rfl bu rfl rfl)<|rS (FA 0 rfl u1 rfl)<|rS (L1 (Value.int .i64 y.right) 1 rfl bu rfl rfl) ?_
 refine rS (BI rfl (aZ ⟨by omega,by omega⟩))<|rS (FA 1 rfl u3 rfl)<|rS (L1 (Value.int .i64 x.de) 2 rfl bu rfl rfl)<|rS (FA 1 rfl u3 rfl)<|rS (L1 (Value.int .i64 y.de) 1 rfl bu rfl rfl)<|rS (BI rfl (aZ ⟨by omega,by omega⟩))<|rS (SX (bp (xs:=[(0,.tmp 9),(1,.tmp 14)]) (cs:=(ao.cells (ao.mk (x.right+y.right) (x.de+y.de)))) rfl rfl (bq vG rfl)) rfl rfl)<|fO rfl oO rfl<|RK hK5<|aE ?_
 refine hQ _ _ _ (bB (vs:=[(Value.agg (ao.cells (ao.mk (x.right+y.right) (x.de+y.de))).toArray)]) ⟨⟨_,rfl,.inl ⟨_,_,k6,cy (vs:=(ao.cells (ao.mk (x.right+y.right) (x.de+y.de)))) 0 rfl rfl,rfl,rfl⟩⟩,trivial⟩ fun w hs=>fq ?_ hs)
 show (Value.agg (ao.cells (ao.mk (x.right+y.right) (x.de+y.de))).toArray)=(Value.agg (ao.cells (cO x y)).toArray)
 clear hs w hQ hN hK5 hK1
 rfl
set_option maxRecDepth 100000 in
set_option maxHeartbeats 400000 in
theorem Ds (ln:aF) (ri:aS) (e:List Int) (tms:List TM) (e_A:Option Addr) (e_C:Nat) (tb:List Nat) (t_A:Option Addr) (t_C:Nat) (fs:List FM) (bs:List FM) (fb:List Nat) (f_A:Option Addr) (f_C:Nat) (bb:List Nat) (b_A:Option Addr) (b_C:Nat) (gw:Nat) (x:ao) (hx:(0≤x.right∧x.right≤1000)∧0≤x.de∧x.de≤1000) (hn:ri.ab.n≤1000):
 eH Tryz.prog 62 [(Value.pointer (some ⟨gw,0,none⟩)),(Value.agg (ao.cells x).toArray)] [(rd e_A e.length 1 (e.map iC)),(rd t_A tms.length 1 (List.zipWith cl tms tb)),(cZ (aL ib tms tb)),(rd f_A fs.length 1 (List.zipWith cl fs fb)),(cZ (aL fW fs fb)),(rd b_A bs.length 1 (List.zipWith cl bs bb)),(cZ (aL fW bs bb)),(aT gw 117 (aN.cells (aN.mk ln ri (av.mk e_A e.length e_C) (av.mk t_A tms.length t_C) (av.mk f_A fs.length f_C) (av.mk b_A bs.length b_C))))] (Value.bool (ja (bP ln ri e tms) x)):=by
 refine bL HB Tryz.func62 rfl rfl fun w0 Q hQ hN=>?_
 try dsimp only
 refine WS fun _ hK1=>fy rfl fun b2=>rS (AG rfl)<|RK hK1<|aq fun _ hK3=>dm cG 26 (by kernel_rfl)<|dS (FA 1 rfl u3 rfl)<|dS (L1 (Value.int .i64 x.de) 0 rfl bu rfl rfl)<|dS (MV rfl)<|dS (SX (cx rfl rfl) rfl rfl) ?_
 refine dS (FA 0 rfl rD rfl)<|dS (FA 6 rfl qK rfl)<|dS (ny (Value.int .i64 ln.aJ) 8 rfl bu rfl rfl)<|dS (BI rfl gl)<|dS (MV rfl) ?_
 refine e9 (t:=13) rfl (fun h13=>?_) (fun h13=>?_)
 rotate_left 1
 ·replace h13:=DF h13
  refine dS (OX rfl)<|dS (OX rfl)<|dS (OX rfl)<|dS (OX rfl)<|dS (OX rfl)<|dS (OX rfl)<|dS (OX rfl)<|dS (OX rfl)<|dS (OX rfl)<|dS (OX rfl) ?_
  refine dS (OX rfl)<|dS (OX rfl)<|dS (OX rfl)<|dS (OX rfl)<|dS (OX rfl)<|dS (PK rfl)<|dS (AG rfl)<|cP<|RK hK3<|aE ?_
  refine Q1 hQ rfl rfl rfl ?_
  first|exact congrArg Value.bool (decide_eq_false (fun h=>h13 h.1)).symm|exact congrArg Value.bool (decide_eq_decide.2 ⟨fun h=>⟨h13,h⟩,fun h=>h.2⟩)
 replace h13:=DT h13
 refine dS (MV rfl)<|dS (SX (cx rfl rfl) rfl rfl)<|dS (FA 7 rfl oI rfl)<|dS (FA 9 rfl gd rfl)<|dS (ny (Value.slice ri.ab.a ri.ab.n ri.ab.c) 8 rfl lh rfl rfl)<|dS (LN rfl nB)<|dS (FA 0 rfl u1 rfl)<|dS (L1 (Value.int .i64 x.right) 0 rfl bu rfl rfl)<|dS (BI rfl (da ⟨by omega,by omega⟩))<|dS (MV rfl) ?_
 refine dS (SX (cx rfl rfl) rfl rfl)<|dS (FA 0 rfl rD rfl)<|dS (FA 5 rfl qz rfl)<|dS (ny (Value.int .i64 ln.aV) 8 rfl bu rfl rfl)<|dS (BI rfl gl)<|dS (PK rfl)<|dS (AG rfl)<|cP<|RK hK3<|aE ?_
 refine Q1 hQ rfl rfl rfl ?_
 first|exact congrArg Value.bool (decide_eq_false (fun h=>h13 h.1)).symm|exact congrArg Value.bool (decide_eq_decide.2 ⟨fun h=>⟨h13,h⟩,fun h=>h.2⟩)
end
section
open Go.RowKit
set_option linter.unusedVariables false
set_option maxRecDepth 100000 in
set_option maxHeartbeats 400000 in
theorem oi (ln:aF) (ri:aS) (e:List Int) (tms:List TM) (e_A:Option Addr) (e_C:Nat) (tb:List Nat) (t_A:Option Addr) (t_C:Nat) (fs:List FM) (bs:List FM) (fb:List Nat) (f_A:Option Addr) (f_C:Nat) (bb:List Nat) (b_A:Option Addr) (b_C:Nat) (gw:Nat) (hw:zV (bP ln ri e tms)) (hsg:ri.ab.n≤1000) (hn:ln.aa.n=e.length) (hfw:qZ (bP ln ri e tms) fs) (hfb:fb.length=fs.length):
 rp Tryz.prog 34 [(Value.pointer (some ⟨gw,0,none⟩))] [(rd e_A e.length 1 (e.map iC)),(rd t_A tms.length 1 (List.zipWith cl tms tb)),(cZ (aL ib tms tb)),(rd f_A fs.length 1 (List.zipWith cl fs fb)),(cZ (aL fW fs fb)),(rd b_A bs.length 1 (List.zipWith cl bs bb)),(cZ (aL fW bs bb)),(aT gw 117 (aN.cells (aN.mk ln ri (av.mk e_A e.length e_C) (av.mk t_A tms.length t_C) (av.mk f_A fs.length f_C) (av.mk b_A bs.length b_C))))] (fun (x:(Option Addr)×Nat)=>(Value.slice x.1 ((eb (bP ln ri e tms)).length) x.2)) (fun (x:(Option Addr)×Nat)=>True) (fun (x:(Option Addr)×Nat)=>[(own x.1 x.2 3 1 ((eb (bP ln ri e tms)).map iC))]):=by
 have hw6:e.length≤6:=hw.n
 have hfl:fs.length=e.length+1:=hfw.len
 refine gp IM Tryz.func34 rfl rfl fun w0 Q hQ hN=>?_
 try dsimp only
 refine WS fun _ hK1=>rS (AG rfl)<|RK hK1<|WS fun _ hK2=>rS (AG rfl)<|RK hK2<|aq fun _ hK3=>WS fun _ hK4=>rS (MV rfl)<|rS (SX (cx rfl rfl) rfl rfl) ?_
 refine rS (FA 0 rfl rD rfl)<|rS (FA 3 rfl dy rfl)<|rS (ny (Value.slice ln.aa.a ln.aa.n ln.aa.c) 7 rfl g3 rfl rfl)<|rS (LN rfl jL)<|rS (BI rfl (aZ ⟨by omega,by omega⟩))<|rS (MV rfl)<|RK hK4<|aG<|fU 3 1 ?_
 have hinit:(0≤e.length+1):=by exact Nat.zero_le _
 refine cq (ι:={z:Nat×(Option Addr)×Nat // (z.1≤e.length+1)}) (fun z=>[(0,(Value.pointer (some ⟨gw,0,none⟩))),(3,(Value.slice z.1.2.1 ((eJ (bP ln ri e tms) z.1.1).length) z.1.2.2)),(12,(Value.int .i64 (((ln.aa.n:Nat):Int)+1))),(13,(Value.int .i64 ((z.1.1:Nat):Int)))]) (fun z=>[(own z.1.2.1 z.1.2.2 3 1 ((eJ (bP ln ri e tms) z.1.1).map iC)),(rd e_A e.length 1 (e.map iC)).ro,(rd t_A tms.length 1 (List.zipWith cl tms tb)).ro,(cZ (aL ib tms tb)).ro,(rd f_A fs.length 1 (List.zipWith cl fs fb)).ro,(cZ (aL fW fs fb)).ro,(rd b_A bs.length 1 (List.zipWith cl bs bb)).ro,(cZ (aL fW bs bb)).ro,(aT gw 117 (aN.cells (aN.mk ln ri (av.mk e_A e.length e_C) (av.mk t_A tms.length t_C) (av.mk f_A fs.length f_C) (av.mk b_A bs.length b_C)))).ro]) (fun z=>e.length+1-z.1.1) ⟨(0,none,0),hinit⟩ (an.cons rfl<|an.cons rfl<|an.cons rfl<|an.cons rfl<|an.nil _) (fun w hs=>St.br [0,1,2,3,4,5,6,7,8] rfl rfl hs) ?_
 clear hinit
 rintro ⟨⟨n,a,c⟩,hl3_0⟩ J5 hJ5
 try dsimp only at hl3_0
 try dsimp only
 refine WS fun _ hK6=>rS (BI rfl cv)<|RK hK6<|aq fun _ hK7=>?_
 refine bj rfl (fun h8=>?_) (fun h8=>?_)
 rotate_left 1
 ·replace h8:=DF h8
  refine bE<|ai<|ai<|aH<|KK hK3<|WS fun _ hK26=>?_
  rw [show eJ (bP ln ri e tms) n=eb (bP ln ri e tms) by (obtain rfl:n=e.length+1:=by omega); rfl]
  refine rS (MV rfl)<|rS (AG rfl)<|RK hK26<|aE ?_
  refine hQ _ _ _ (bB (vs:=[(Value.slice a ((eb (bP ln ri e tms)).length) c)]) ⟨rfl,trivial⟩ fun w hs=>fB (a,c) [0] ?_ ?_ rfl rfl rfl hs)
  ·rfl
  ·trivial
 replace h8:=DT h8
 refine WK hK7<|aq fun _ hK9=>aG<|WS fun _ hK10=>rS (MV rfl)<|rS (AG rfl)<|RK hK10<|WS fun _ hK11=>rS (MV rfl)<|rS (SX (cx rfl rfl) rfl rfl) ?_
 refine rS (FA 12 rfl kL rfl)<|rS (ny (Value.slice f_A fs.length f_C) 8 rfl kX rfl rfl)<|rS (MV rfl) ?_
 obtain ⟨m,hm0⟩: ∃ y_,fs[n]? =some y_:=⟨fs[n]'(by omega),List.getElem?_eq_getElem _⟩
 obtain ⟨ma,hm0a⟩: ∃ y_,fb[n]? =some y_:=⟨fb[n]'(by omega),List.getElem?_eq_getElem _⟩
 have hm0m:(List.zipWith cl fs fb)[n]? =some (cl m ma):=gM hm0 hm0a
 refine rS (IA n rfl (aI 4 rfl) lI (by decide) (by omega) (by omega))<|rS (iX n 0 (Value.map (some ma)) rfl nt (aI 4 rfl) hm0m rfl (by decide) rfl)<|mU (kV:=cm) (m:=bG iV m) 5 rfl rfl l5 rfl ⟨⟨(kD cm ma (bG iV m)),(dc hm0 hm0a (by simp [fW])),rfl⟩,fun h=>h⟩ (show jS _ (kD cm ma (bG iV m)).holds from eM 5 rfl (dc hm0 hm0a (by simp [fW]))) rfl fun r12=>?_
 try dsimp only
 refine RK hK11<|aG ?_
 have hinit:(∀ p∈m,p∈m)∧(∀ p∈m,p∈m∨ja (bP ln ri e tms) p.1=false):=by exact ⟨fun p hp=>hp,fun p hp=> .inl hp⟩
 refine cq (ι:={z:FM // (∀ p∈z,p∈m)∧(∀ p∈m,p∈z∨ja (bP ln ri e tms) p.1=false)}) (fun z=>[(0,(Value.pointer (some ⟨gw,0,none⟩))),(3,(Value.slice a ((eJ (bP ln ri e tms) n).length) c)),(4,(Value.int .i64 ((n:Nat):Int))),(12,(Value.int .i64 (((ln.aa.n:Nat):Int)+1))),(13,(Value.int .i64 ((n:Nat):Int))),(23,(Value.pointer (some ⟨r12,0,none⟩)))]) (fun z=>[(pv cm r12 ma (bG iV m) (bG iV z.1) none),(own a c 3 1 ((eJ (bP ln ri e tms) n).map iC)),(rd e_A e.length 1 (e.map iC)).ro,(rd t_A tms.length 1 (List.zipWith cl tms tb)).ro,(cZ (aL ib tms tb)).ro,(rd f_A fs.length 1 (List.zipWith cl fs fb)).ro,(cZ (aL fW fs fb)).ro,(rd b_A bs.length 1 (List.zipWith cl bs bb)).ro,(cZ (aL fW bs bb)).ro,(aT gw 117 (aN.cells (aN.mk ln ri (av.mk e_A e.length e_C) (av.mk t_A tms.length t_C) (av.mk f_A fs.length f_C) (av.mk b_A bs.length b_C)))).ro]) (fun z=>z.1.length) ⟨m,hinit⟩ (an.cons rfl<|an.cons rfl<|an.cons rfl<|an.cons rfl<|an.cons rfl<|an.cons rfl<|an.nil _) (fun w hs=>St.br [0,1,2,3,4,5,6,7,8,9] rfl rfl hs) ?_
 clear hinit
 rintro ⟨left,⟨hl6_0,hl6_1⟩⟩ J13 hJ13
 try dsimp only
 refine WS fun _ hK14=>?_
 refine lH l4.inj (f:=iV) 0 rfl rfl rfl rfl (fun h24=>?_) (fun t v hm hnd=>?_)
 ·refine rS (EX rfl) ?_
  refine RK hK14<|aq fun _ hK15=>bV rfl<|bE<|ai<|ai<|aH<|aK<|KK hK9<|ar ?_
  refine rS (BI rfl (aZ ⟨by omega,by omega⟩))<|rS (MV rfl)<|aP ?_
  rw [← uu (w:=(bP ln ri e tms)) (k:=n) ((vN (hfw.min _ _ hm0) (hfw.keys _ _ hm0)).symm.trans (Az hl6_1 h24))]
  have hb16:(Value.int .i64 (((n+1):Nat):Int))=(Value.int .i64 (((n:Nat):Int)+1)):=by exact congrArg (Value.int .i64) (by omega)
  refine aO (hJ5 ⟨((n+1),a,c),(by first|omega|(simp only []; omega))⟩ _ _ _ rfl (by first|omega|(simp; omega)) (an.cons rfl<|an.cons rfl<|an.cons rfl<|aQ rfl hb16<|an.nil _) (fun w hs=>St.br [1,2,3,4,5,6,7,8,9] rfl rfl hs))
 try dsimp only
 refine rS (EX rfl)<|RK hK14<|aq fun _ hK17=>aX rfl<|WK hK17<|aG<|WS fun _ hK18=>rS (SX (lL 0 rfl rfl rfl) rfl rfl)<|rS (EX rfl)<|AL rfl pB fun b19=>?_
 refine fO rfl oO rfl<|RK hK18<|WS fun _ hK20=>rS (MV rfl)<|rS (LW 0 rfl k6 rfl rfl) ?_
 have htb:=Ar hw _ _ (hfw.mem hm0 (hl6_0 _ hm))
 dsimp only at htb
 refine rS (CL (Ds ln ri e tms e_A e_C tb t_A t_C fs bs fb f_A f_C bb b_A b_C gw t (by first|assumption|omega|(simp; done)|(simp; omega)) hsg) (ax 3 rfl rfl<|ax 4 rfl rfl<|ax 5 rfl rfl<|ax 6 rfl rfl<|ax 7 rfl rfl<|ax 8 rfl rfl<|ax 9 rfl rfl<|ax 10 rfl rfl<|ay) rfl)<|RK hK20 ?_
 refine bj rfl (fun h30=>?_) (fun h30=>?_)
 rotate_left 1
 ·refine cM ?_
  refine aK<|n7 (C':=[(aT b19 124 (ao.cells t)),(pv cm r12 ma (bG iV m) (bG iV (cV left t)) none),(own a c 3 1 ((eJ (bP ln ri e tms) n).map iC)),(rd e_A e.length 1 (e.map iC)).ro,(rd t_A tms.length 1 (List.zipWith cl tms tb)).ro,(cZ (aL ib tms tb)).ro,(rd f_A fs.length 1 (List.zipWith cl fs fb)).ro,(cZ (aL fW fs fb)).ro,(rd b_A bs.length 1 (List.zipWith cl bs bb)).ro,(cZ (aL fW bs bb)).ro,(aT gw 117 (aN.cells (aN.mk ln ri (av.mk e_A e.length e_C) (av.mk t_A tms.length t_C) (av.mk f_A fs.length f_C) (av.mk b_A bs.length b_C)))).ro]) 1 rfl mm rfl ?_
  refine aO (hJ13 ⟨(cV left t),⟨kB hl6_0,z6 hnd hm hl6_1 (by first|exact h30|simpa using h30)⟩⟩ _ _ _ rfl (jG hm) (an.cons rfl<|an.cons rfl<|an.cons rfl<|an.cons rfl<|an.cons rfl<|an.cons rfl<|an.nil _) (fun w hs=>St.br [1,2,3,4,5,6,7,8,9,10] rfl rfl hs))
 refine WS fun _ hK21=>rS (MV rfl)<|rS (MV rfl)<|fp (xs:=[.tmp 32]) (cs:=[(Value.int .i64 ((n:Nat):Int))]) rfl dY lK rfl rfl rfl rfl (by simp [Value.cells]) rfl rfl fun b22=>?_
 have hy:gN (bP ln ri e tms) (fwd (bP ln ri e tms) n)=true:=(vN (hfw.min _ _ hm0) (hfw.keys _ _ hm0)).symm.trans (CF (hl6_0 _ hm) h30)
 refine dR (es2:=(List.map iC (eJ (bP ln ri e tms) (n+1)))) (m':=(eJ (bP ln ri e tms) (n+1)).length) 3 rfl rfl rfl o9 rfl rfl (by simp) (bf (es:=List.map iC [((n:Nat):Int)]) 0 rfl rfl (by simp [bY]) rfl) (jF _) (by have:=lz (w:=(bP ln ri e tms)) (k:=n); first|omega|(simp; omega)) (by have:=lz (w:=(bP ln ri e tms)) (k:=n); simp only [maxLen]; omega) (by rw [rP hy]; simp) (by simp) rfl fun a23 c24=>?_
 try dsimp only
 refine rS (AG rfl)<|RK hK21<|bE<|gG rfl<|ai<|aH<|aK<|KK hK9<|ar<|rS (BI rfl (aZ ⟨by omega,by omega⟩)) ?_
 refine rS (MV rfl)<|aP ?_
 have hb25:(Value.int .i64 (((n+1):Nat):Int))=(Value.int .i64 (((n:Nat):Int)+1)):=by exact congrArg (Value.int .i64) (by omega)
 refine aO (hJ5 ⟨((n+1),a23,c24),(by first|omega|(simp only []; omega))⟩ _ _ _ rfl (by first|omega|(simp; omega)) (an.cons rfl<|an.cons rfl<|an.cons rfl<|aQ rfl hb25<|an.nil _) (fun w hs=>St.br [3,4,5,6,7,8,9,10,11] rfl rfl hs))
end
section
open Go.RowKit
set_option linter.unusedVariables false
set_option maxRecDepth 100000 in
set_option maxHeartbeats 400000 in
theorem z_ (n:Int) (lo:Int) (hi:Int) (g1:Nat) (g2:Nat):
 eH Tryz.prog 66 [(Value.int .i64 n),(Value.pointer (some ⟨g1,0,none⟩)),(Value.pointer (some ⟨g2,0,none⟩))] [(aT g1 3 [(Value.int .i64 lo)]),(aT g2 3 [(Value.int .i64 hi)])] (Value.bool (decide (n<lo∨hi<n))):=by
 refine bL IW Tryz.func66 rfl rfl fun w0 Q hQ hN=>?_
 try dsimp only
 refine WS fun _ hK1=>rS (AG rfl)<|RK hK1<|WS fun _ hK2=>rS (MV rfl)<|rS (tS 0 rfl bu rfl)<|rS (BI rfl cv)<|rS (MV rfl) ?_
 refine bH (t:=8) rfl (fun h3=>?_) (fun h3=>?_)
 ·replace h3:=DT h3
  refine rS (OX rfl)<|rS (OX rfl)<|rS (OX rfl)<|rS (PK rfl)<|rS (AG rfl)<|RK hK2<|aE<|Q1 hQ rfl rfl rfl ?_
  exact congrArg Value.bool (decide_eq_true (by omega)).symm
 replace h3:=DF h3
 refine rS (MV rfl)<|rS (tS 1 rfl bu rfl)<|rS (BI rfl fY)<|rS (PK rfl)<|rS (AG rfl)<|RK hK2<|aE<|Q1 hQ rfl rfl rfl ?_
 exact congrArg Value.bool (decide_eq_decide.2 (by omega))
set_option maxRecDepth 100000 in
set_option maxHeartbeats 400000 in
theorem fu (lo:Int) (hi:Int) (l:List Int) (lA:Option Addr) (lC:Nat) (hlen:l.length≤1000000):
 eH Tryz.prog 39 [(Value.int .i64 lo),(Value.int .i64 hi),(Value.slice lA l.length lC)] [(rd lA l.length 1 (l.map iC))] (Value.bool (um lo hi l)):=by
 refine bL Hg Tryz.func39 rfl rfl fun w0 Q hQ hN=>?_
 try dsimp only
 refine WS fun _ hK1=>yn rfl rfl fun b2=>yn rfl rfl fun b3=>rS (AG rfl)<|RK hK1<|WS fun _ hK4=>rS (MV rfl)<|rS (FU rfl)<|rS (CL (su l lA lC (Value.func (.func 66) [].toArray [(Value.pointer (some ⟨b2,0,none⟩)),(Value.pointer (some ⟨b3,0,none⟩))].toArray) (fun u5=>(decide (u5<lo∨hi<u5))) (cZ [(aT b2 3 [(Value.int .i64 lo)]),(aT b3 3 [(Value.int .i64 hi)])]) (by intro u5 _; exact nG (fi:=[]) (ca:=[(Value.pointer (some ⟨b2,0,none⟩)),(Value.pointer (some ⟨b3,0,none⟩))]) (mF (z_ u5 lo hi b2 b3) (ax 0 rfl rfl<|ax 1 rfl rfl<|ay))) hlen) (ax 2 rfl rfl<|aM (mW (ax 1 rfl rfl<|ax 0 rfl rfl<|ay))<|ay) rfl)<|rS (NT rfl) ?_
 refine rS (AG rfl)<|RK hK4<|aE ?_
 exact Q1 hQ rfl rfl rfl rfl
set_option maxRecDepth 100000 in
set_option maxHeartbeats 400000 in
theorem Jl (n:Int) (d:Int) (hd:2≤d):
 eH Tryz.prog 58 [(Value.int .i64 n),(Value.int .i64 d)] [] (Value.int .i64 (F0 n d)):=by
 refine bL Ga Tryz.func58 rfl rfl fun w0 Q hQ hN=>?_
 try dsimp only
 refine WS fun _ hK1=>rS (AG rfl)<|RK hK1<|WS fun _ hK2=>rS (MV rfl)<|rS (MV rfl)<|rS (BI rfl EI)<|rS (BI rfl Bt)<|rS (MV rfl)<|rS (BI rfl (E9 (by omega) (EF (Fp _) hd))) ?_
 refine rS (AG rfl)<|RK hK2<|aE ?_
 exact Q1 hQ rfl rfl rfl rfl
set_option maxRecDepth 100000 in
set_option maxHeartbeats 400000 in
theorem AQ (n:Int) (d:Int) (hd:1≤d∧d≤1000000) (hn:0≤n∧n≤1000000000000000):
 eH Tryz.prog 58 [(Value.int .i64 n),(Value.int .i64 d)] [] (Value.int .i64 (kW n d)):=by
 refine bL Ga Tryz.func58 rfl rfl fun w0 Q hQ hN=>?_
 try dsimp only
 refine WS fun _ hK1=>rS (AG rfl)<|RK hK1<|WS fun _ hK2=>rS (MV rfl)<|rS (MV rfl)<|rS (BI rfl (aZ ⟨by omega,by omega⟩))<|rS (BI rfl (da ⟨by omega,by omega⟩))<|rS (MV rfl)<|rS (BI rfl (sP (by omega) (by omega) (by omega))) ?_
 refine rS (AG rfl)<|RK hK2<|aE ?_
 exact Q1 hQ rfl rfl rfl rfl
set_option maxRecDepth 100000 in
set_option maxHeartbeats 400000 in
theorem ym (c:aj) (sA:Option Addr) (sC:Nat) (at_:Int) (hc:dP c) (ha:0≤at_∧at_≤90000000):
 eH Tryz.prog 75 [(Value.agg (bO.cells (bO.mk c.bJ (av.mk sA c.aB.length sC))).toArray),(Value.int .i64 at_)] [(rd sA c.aB.length 3 (c.aB.map bD.cells))] (Value.agg (ae.cells (fx c at_)).toArray):=by
 have hcl:=hc.len
 have hcd:=hc.g9
 refine bL I0 Tryz.func75 rfl rfl fun w0 Q hQ hN=>?_
 try dsimp only
 refine WS fun _ hK1=>fy rfl fun b2=>AL rfl dF fun b3=>RK hK1<|WS fun _ hK4=>rS (SX (bp (xs:=[(0,.const (Value.int .i64 (-1099511627776))),(1,.const (Value.int .i64 1099511627776))]) (cs:=(ae.cells (ae.mk (-1099511627776) 1099511627776))) rfl rfl (bq fI rfl)) rfl rfl)<|AL rfl dF fun b5=>fO rfl cK rfl<|RK hK4<|aq fun _ hK6=>?_
 refine aq fun _ hK7=>?_
 have hb8:(ae.cells (ae.mk (-1099511627776) 1099511627776))=(ae.cells (eg c at_ 0)):=by rfl
 rw [hb8]
 refine ar<|rS (FA 1 rfl ff rfl)<|rS (L1 (Value.slice sA c.aB.length sC) 2 rfl kq rfl rfl)<|rS (LN rfl oM)<|rS (MV rfl)<|RK hK7<|aG ?_
 have hinit:(0≤c.aB.length):=by exact Nat.zero_le _
 refine cq (ι:={z:Nat // (z≤c.aB.length)}) (fun z=>[(1,(Value.int .i64 at_)),(2,(Value.pointer (some ⟨b2,0,none⟩))),(4,(Value.pointer (some ⟨b3,0,none⟩))),(5,(Value.pointer (some ⟨b5,0,none⟩))),(11,(Value.slice sA c.aB.length sC)),(12,(Value.int .i64 ((c.aB.length:Nat):Int))),(13,(Value.int .i64 ((z.1:Nat):Int)))]) (fun z=>[(aT b5 47 (ae.cells (eg c at_ z.1))),(aT b3 47 (ae.cells (ae.mk 0 0))),(aT b2 63 (bO.cells (bO.mk c.bJ (av.mk sA c.aB.length sC)))),(rd sA c.aB.length 3 (c.aB.map bD.cells)).ro]) (fun z=>c.aB.length-z.1) ⟨0,hinit⟩ (an.cons rfl<|an.cons rfl<|an.cons rfl<|an.cons rfl<|an.cons rfl<|an.cons rfl<|an.cons rfl<|an.nil _) (fun w hs=>St.br [0,1,2,3] rfl rfl hs) ?_
 clear hinit
 rintro ⟨i,hl0_0⟩ J9 hJ9
 try dsimp only
 refine WS fun _ hK10=>rS (BI rfl cv)<|RK hK10<|aq fun _ hK11=>?_
 refine bj rfl (fun h12=>?_) (fun h12=>?_)
 rotate_left 1
 ·replace h12:=DF h12
  refine bE<|ai<|ai<|aH<|KK hK6<|WS fun _ hK19=>rS (LW 0 rfl cp rfl rfl)<|nk rfl cK rfl<|RK hK19<|aE ?_
  refine hQ _ _ _ (bB (vs:=[(Value.agg (ae.cells (eg c at_ i)).toArray)]) ⟨⟨_,rfl,.inl ⟨_,_,cp,cy (vs:=(ae.cells (eg c at_ i))) 1 rfl rfl,rfl,rfl⟩⟩,trivial⟩ fun w hs=>fq ?_ hs)
  show (Value.agg (ae.cells (eg c at_ i)).toArray)=(Value.agg (ae.cells (fx c at_)).toArray)
  clear hs w hQ hN hK19 hK11 hK10 hK7 hK6 hK4 hK1
  rw [k7 (show c.aB.length≤i by omega)]
 replace h12:=DT h12
 refine WK hK11<|aq fun _ hK13=>aG<|WS fun _ hK14=>?_
 obtain ⟨x,hx⟩: ∃ y_,c.aB[i]? =some y_:=⟨c.aB[i]'(by omega),List.getElem?_eq_getElem _⟩
 have hxm:(c.aB.map bD.cells)[i]? =some (bD.cells x):=by rw [List.getElem?_map,hx]; rfl
 refine rS (IA i rfl (aI 3 rfl) pR (by decide) (by omega) (by omega))<|rS (lF i 0 (bD.cells x) rfl rr (aI 3 rfl) hxm rfl (by decide) rfl rfl)<|AL rfl u0 fun b15=>fO rfl uR rfl<|RK hK14<|WS fun _ hK16=>rS (FA 0 rfl lk rfl)<|rS (L1 (Value.int .i64 c.bJ) 3 rfl bu rfl rfl)<|rS (MV rfl)<|rS (FA 0 rfl js rfl) ?_
 refine rS (L1 (Value.int .i64 x.At) 0 rfl bu rfl rfl) ?_
 have hsb:=hc.qj hx
 have hkb:=vx hc ha i
 have hdb:=x4 hcd ha (show 0≤x.At∧x.At≤90000000 by omega)
 refine rS (BI rfl (da ⟨by omega,by omega⟩))<|rS (FA 0 rfl js rfl)<|rS (L1 (Value.int .i64 x.At) 0 rfl bu rfl rfl)<|rS (MV rfl)<|rS (BI rfl (da ⟨by omega,by omega⟩))<|rS (MX rfl)<|rS (BI rfl (vV ⟨by omega,by omega⟩))<|rS (CL (AQ (c.bJ*(max (at_-x.At) (x.At-at_))) 1000000 (by first|assumption|omega|(simp; done)|(simp; omega)) (by first|assumption|omega|(simp; done)|(simp; omega))) (ay) rfl)<|rS (AG rfl)<|RK hK16 ?_
 refine ar<|rS (FA 0 rfl bU rfl)<|rS (L1 (Value.int .i64 ((eg c at_ i).Lo)) 1 rfl bu rfl rfl)<|rS (FA 1 rfl eU rfl)<|rS (FA 1 rfl bU rfl)<|rS (L1 (Value.int .i64 x.bQ.Lo) 0 rfl bu rfl rfl)<|rS (MV rfl) ?_
 have hob:0≤kW (c.bJ*max (at_-x.At) (x.At-at_)) 1000000∧kW (c.bJ*max (at_-x.At) (x.At-at_)) 1000000≤90001:=qp hcd ha hsb.1
 refine rS (BI rfl (da ⟨by omega,by omega⟩))<|rS (MX rfl)<|rS (FA 1 rfl cd rfl)<|rS (L1 (Value.int .i64 ((eg c at_ i).Hi)) 1 rfl bu rfl rfl)<|rS (FA 1 rfl eU rfl)<|rS (FA 2 rfl cd rfl)<|rS (L1 (Value.int .i64 x.bQ.Hi) 0 rfl bu rfl rfl)<|rS (MV rfl)<|rS (BI rfl (aZ ⟨by omega,by omega⟩))<|rS (MN rfl) ?_
 refine rS (SX (bp (xs:=[(0,.tmp 37),(1,.tmp 45)]) (cs:=(ae.cells (ae.mk (max ((eg c at_ i).Lo) (x.bQ.Lo-(kW (c.bJ*(max (at_-x.At) (x.At-at_))) 1000000))) (min ((eg c at_ i).Hi) (x.bQ.Hi+(kW (c.bJ*(max (at_-x.At) (x.At-at_))) 1000000)))))) rfl rfl (bq fI rfl)) rfl rfl)<|nk rfl cK rfl<|aP<|aK<|KK hK13 ?_
 have hb17:(ae.cells (ae.mk (max ((eg c at_ i).Lo) (x.bQ.Lo-(kW (c.bJ*(max (at_-x.At) (x.At-at_))) 1000000))) (min ((eg c at_ i).Hi) (x.bQ.Hi+(kW (c.bJ*(max (at_-x.At) (x.At-at_))) 1000000)))))=(ae.cells (eg c at_ (i+1))):=by rw [iy hx]; rfl
 rw [hb17]
 refine ar<|rS (BI rfl (aZ ⟨by omega,by omega⟩))<|rS (MV rfl)<|aP ?_
 have hb18:(Value.int .i64 (((i+1):Nat):Int))=(Value.int .i64 (((i:Nat):Int)+1)):=by exact congrArg (Value.int .i64) (by omega)
 refine aO (hJ9 ⟨(i+1),(by first|omega|(simp only []; omega))⟩ _ _ _ rfl (by first|omega|(simp; omega)) (an.cons rfl<|an.cons rfl<|an.cons rfl<|an.cons rfl<|an.cons rfl<|an.cons rfl<|aQ rfl hb18<|an.nil _) (fun w hs=>St.br [1,2,3,4] rfl rfl hs))
set_option maxRecDepth 100000 in
set_option maxHeartbeats 400000 in
theorem DR (c:aj) (sA:Option Addr) (sC:Nat) (hlen:c.aB.length≤1000000) (hcap:c.aB.length≤sC):
 eH Tryz.prog 110 [(Value.agg (bO.cells (bO.mk c.bJ (av.mk sA c.aB.length sC))).toArray)] [(rd sA c.aB.length 3 (c.aB.map bD.cells))] (Value.bool (decide (dP c))):=by
 refine bL Gb Tryz.func110 rfl rfl fun w0 Q hQ hN=>?_
 try dsimp only
 refine WS fun _ hK1=>fy rfl fun b2=>rS (AG rfl)<|RK hK1<|yj rfl<|aq fun _ hK3=>WS fun _ hK4=>rS (FA 0 rfl lk rfl)<|rS (L1 (Value.int .i64 c.bJ) 0 rfl bu rfl rfl)<|fp (xs:=[.tmp 11]) (cs:=[(Value.int .i64 c.bJ)]) rfl dY lK rfl rfl rfl rfl (by simp [Value.cells]) rfl rfl fun b5=>?_
 refine rS (CL (eH.eq (fu 0 1000 ([c.bJ]) (some ⟨b5,0,none⟩) 1 (by first|assumption|omega|(simp; done)|(simp; omega))) dq) (aM (bf 0 rfl rfl (by simp [bY]) rfl)<|ay) rfl)<|rS (NT rfl)<|rS (MV rfl) ?_
 refine bH (t:=15) rfl (fun h15=>?_) (fun h15=>?_)
 ·replace h15:=XT h15
  refine rS (OX rfl)<|rS (OX rfl)<|rS (OX rfl)<|rS (OX rfl)<|rS (OX rfl)<|rS (OX rfl)<|rS (PK rfl)<|RK hK4<|aX rfl<|WS fun _ hK6=>?_
  refine rS (AG rfl)<|RK hK6<|aE<|Q1 hQ rfl rfl rfl ?_
  first|exact congrArg Value.bool (decide_eq_false fun h=>h15 h.g9).symm|exact congrArg Value.bool (decide_eq_false fun h=>h22 (by have:=h.len; omega)).symm|exact congrArg Value.bool (decide_eq_true (ot h15 (by omega) (by have e:i=c.aB.length:=(by omega); rw [← e]; exact hl0_1))).symm|exact congrArg Value.bool (by have e:k=i:=(by omega); rw [e] at hl1_1; rw [h99] at hl1_1 ⊢; exact (decide_eq_false (pn hx (of_decide_eq_false hl1_1.symm))).symm)
 replace h15:=XF h15
 refine rS (FA 1 rfl ff rfl)<|rS (L1 (Value.slice sA c.aB.length sC) 1 rfl kq rfl rfl)<|rS (LN rfl oM)<|fp (xs:=[.tmp 18]) (cs:=[(Value.int .i64 ((c.aB.length:Nat):Int))]) rfl dY lK rfl rfl rfl rfl (by simp [Value.cells]) rfl rfl fun b7=>rS (CL (eH.eq (fu 1 5 ([((c.aB.length:Nat):Int)]) (some ⟨b7,0,none⟩) 1 (by first|assumption|omega|(simp; done)|(simp; omega))) dq) (aM (bf 0 rfl rfl (by simp [bY]) rfl)<|ay) rfl)<|rS (NT rfl)<|rS (PK rfl)<|RK hK4 ?_
 refine bj rfl (fun h22=>?_) (fun h22=>?_)
 ·replace h22:=XT h22
  refine WS fun _ hK8=>rS (AG rfl)<|RK hK8<|aE<|Q1 hQ rfl rfl rfl ?_
  first|exact congrArg Value.bool (decide_eq_false fun h=>h15 h.g9).symm|exact congrArg Value.bool (decide_eq_false fun h=>h22 (by have:=h.len; omega)).symm|exact congrArg Value.bool (decide_eq_true (ot h15 (by omega) (by have e:i=c.aB.length:=(by omega); rw [← e]; exact hl0_1))).symm|exact congrArg Value.bool (by have e:k=i:=(by omega); rw [e] at hl1_1; rw [h99] at hl1_1 ⊢; exact (decide_eq_false (pn hx (of_decide_eq_false hl1_1.symm))).symm)
 replace h22:=XF h22
 refine WK hK3<|WS fun _ hK9=>rS (AG rfl)<|RK hK9<|WS fun _ hK10=>rS (AG rfl)<|RK hK10<|aq fun _ hK11=>x7<|KK hK11 ?_
 refine aq fun _ hK12=>WS fun _ hK13=>rS (FA 1 rfl ff rfl)<|rS (L1 (Value.slice sA c.aB.length sC) 2 rfl kq rfl rfl)<|rS (LN rfl oM)<|rS (MV rfl)<|RK hK13<|aG ?_
 have hinit:(0≤c.aB.length)∧(oX c 0):=by exact ⟨Nat.zero_le _,zQ⟩
 have hb14:(Value.int .i64 (il c 0))=(Value.int .i64 (-1)):=by rw [db rfl]
 refine cq (ι:={z:Nat // (z≤c.aB.length)∧(oX c z)}) (fun z=>[(1,(Value.pointer (some ⟨b2,0,none⟩))),(2,(Value.bool false)),(3,(Value.int .i64 (il c z.1))),(4,(Value.bool true)),(24,(Value.slice sA c.aB.length sC)),(25,(Value.int .i64 ((c.aB.length:Nat):Int))),(26,(Value.int .i64 ((z.1:Nat):Int)))]) (fun z=>[(aT b2 63 (bO.cells (bO.mk c.bJ (av.mk sA c.aB.length sC)))),(rd sA c.aB.length 3 (c.aB.map bD.cells)).ro]) (fun z=>c.aB.length-z.1) ⟨0,hinit⟩ (an.cons rfl<|an.cons rfl<|aQ rfl hb14<|an.cons rfl<|an.cons rfl<|an.cons rfl<|an.cons rfl<|an.nil _) (fun w hs=>St.br [2,3] rfl rfl hs) ?_
 clear hinit
 rintro ⟨i,⟨hl0_0,hl0_1⟩⟩ J15 hJ15
 try dsimp only
 have hpv: -1≤il c i∧il c i≤86400000:=EP hl0_0 hl0_1
 refine WS fun _ hK16=>rS (BI rfl cv)<|RK hK16<|aq fun _ hK17=>?_
 refine bj rfl (fun h18=>?_) (fun h18=>?_)
 rotate_left 1
 ·replace h18:=DF h18
  refine bE<|ai<|ai<|aH<|KK hK12<|WS fun _ hK28=>rS (MV rfl)<|rS (AG rfl)<|RK hK28<|aE ?_
  refine Q1 hQ rfl rfl rfl ?_
  first|exact congrArg Value.bool (decide_eq_false fun h=>h15 h.g9).symm|exact congrArg Value.bool (decide_eq_false fun h=>h22 (by have:=h.len; omega)).symm|exact congrArg Value.bool (decide_eq_true (ot h15 (by omega) (by have e:i=c.aB.length:=(by omega); rw [← e]; exact hl0_1))).symm|exact congrArg Value.bool (by have e:k=i:=(by omega); rw [e] at hl1_1; rw [h99] at hl1_1 ⊢; exact (decide_eq_false (pn hx (of_decide_eq_false hl1_1.symm))).symm)
 replace h18:=DT h18
 refine WK hK17<|aq fun _ hK19=>aG<|WS fun _ hK20=>rS (MV rfl) ?_
 obtain ⟨x,hx⟩: ∃ y_,c.aB[i]? =some y_:=⟨c.aB[i]'(by omega),List.getElem?_eq_getElem _⟩
 have hxm:(c.aB.map bD.cells)[i]? =some (bD.cells x):=by rw [List.getElem?_map,hx]; rfl
 refine rS (IA i rfl (aI 1 rfl) pR (by decide) (by omega) (by omega))<|rS (lF i 0 (bD.cells x) rfl rr (aI 1 rfl) hxm rfl (by decide) rfl rfl)<|AL rfl u0 fun b21=>rS (AG rfl)<|fO rfl uR rfl<|RK hK20 ?_
 refine mT (ι:=Unit) (fun z=>[(1,(Value.pointer (some ⟨b2,0,none⟩))),(2,(Value.bool false)),(3,(Value.int .i64 (il c i))),(4,(Value.bool (decide (dx c i x)))),(5,(Value.int .i64 ((i:Nat):Int))),(6,(Value.pointer (some ⟨b21,0,none⟩))),(24,(Value.slice sA c.aB.length sC)),(25,(Value.int .i64 ((c.aB.length:Nat):Int))),(26,(Value.int .i64 ((i:Nat):Int)))]) (fun z=>[(aT b21 65 (bD.cells x)),(aT b2 63 (bO.cells (bO.mk c.bJ (av.mk sA c.aB.length sC)))),(rd sA c.aB.length 3 (c.aB.map bD.cells)).ro]) ?_ fun K22 hK22=>?_
 ·intro _
  try dsimp only
  refine aq fun _ hK23=>WS fun _ hK24=>rS (FA 1 rfl ff rfl)<|rS (L1 (Value.slice sA c.aB.length sC) 1 rfl kq rfl rfl)<|rS (MV rfl)<|rS (JA i rfl pR (by omega) (by first|omega|exact Nat.zero_le _|(simp; omega)))<|rS (LN rfl oM)<|rS (MV rfl)<|RK hK24<|aG ?_
  have hinit:(0≤i)∧((decide (dx c i x))=(decide (kl c i x 0))):=by exact ⟨Nat.zero_le _,decide_eq_decide.2 xz.symm⟩
  refine cq (ι:={z:Nat×Bool // (z.1≤i)∧(z.2=(decide (kl c i x z.1)))}) (fun z=>[(1,(Value.pointer (some ⟨b2,0,none⟩))),(2,(Value.bool false)),(3,(Value.int .i64 (il c i))),(4,(Value.bool z.1.2)),(5,(Value.int .i64 ((i:Nat):Int))),(6,(Value.pointer (some ⟨b21,0,none⟩))),(24,(Value.slice sA c.aB.length sC)),(25,(Value.int .i64 ((c.aB.length:Nat):Int))),(26,(Value.int .i64 ((i:Nat):Int))),(59,(Value.slice sA i sC)),(60,(Value.int .i64 ((i:Nat):Int))),(61,(Value.int .i64 ((z.1.1:Nat):Int)))]) (fun z=>[(aT b21 65 (bD.cells x)),(aT b2 63 (bO.cells (bO.mk c.bJ (av.mk sA c.aB.length sC)))),(rd sA c.aB.length 3 (c.aB.map bD.cells)).ro]) (fun z=>i-z.1.1) ⟨(0,(decide (dx c i x))),hinit⟩ (an.cons rfl<|an.cons rfl<|an.cons rfl<|an.cons rfl<|an.cons rfl<|an.cons rfl<|an.cons rfl<|an.cons rfl<|an.cons rfl<|an.cons rfl<|an.cons rfl<|an.cons rfl<|an.nil _) (fun w hs=>St.br [0,1,2] rfl rfl hs) ?_
  clear hinit
  rintro ⟨⟨k,b⟩,⟨hl1_0,hl1_1⟩⟩ J25 hJ25
  try dsimp only at hl1_0 hl1_1
  try dsimp only
  refine WS fun _ hK26=>rS (BI rfl cv)<|RK hK26<|aq fun _ hK27=>?_
  refine bj rfl (fun h28=>?_) (fun h28=>?_)
  rotate_left 1
  ·replace h28:=DF h28
   refine bE<|ai<|ai<|aH<|KK hK23<|aq fun _ hK36=>WS fun _ hK37=>rS (MV rfl)<|rS (NT rfl)<|RK hK37 ?_
   refine bj rfl (fun h99=>?_) (fun h99=>?_)
   ·rw [Bool.not_eq_true'] at h99
    refine bE<|ai<|gG rfl<|ai<|ai<|aH<|KK hK12<|WS fun _ hK38=>rS (MV rfl)<|rS (AG rfl) ?_
    refine RK hK38<|aE<|Q1 hQ rfl rfl rfl ?_
    first|exact congrArg Value.bool (decide_eq_false fun h=>h15 h.g9).symm|exact congrArg Value.bool (decide_eq_false fun h=>h22 (by have:=h.len; omega)).symm|exact congrArg Value.bool (decide_eq_true (ot h15 (by omega) (by have e:i=c.aB.length:=(by omega); rw [← e]; exact hl0_1))).symm|exact congrArg Value.bool (by have e:k=i:=(by omega); rw [e] at hl1_1; rw [h99] at hl1_1 ⊢; exact (decide_eq_false (pn hx (of_decide_eq_false hl1_1.symm))).symm)
   rw [Bool.not_eq_false'] at h99
   refine WK hK36<|ar<|rS (FA 0 rfl js rfl)<|rS (L1 (Value.int .i64 x.At) 0 rfl bu rfl rfl)<|rS (AG rfl)<|aP<|aK<|KK hK19<|ar<|rS (BI rfl (aZ ⟨by omega,by omega⟩)) ?_
   refine rS (MV rfl)<|aP ?_
   have hb39:(Value.int .i64 (il c (i+1)))=(Value.int .i64 x.At):=by rw [lT hx]
   have hb40:(Value.bool true)=(Value.bool b):=by exact congrArg Value.bool h99.symm
   have hb41:(Value.int .i64 (((i+1):Nat):Int))=(Value.int .i64 (((i:Nat):Int)+1)):=by exact congrArg (Value.int .i64) (by omega)
   refine aO (hJ15 ⟨(i+1),⟨by omega,zn hl0_1 hx (by have e:k=i:=(by omega); rw [e] at hl1_1; exact of_decide_eq_true (hl1_1.symm.trans h99))⟩⟩ _ _ _ rfl (by first|omega|(simp; omega)) (an.cons rfl<|an.cons rfl<|aQ rfl hb39<|aQ rfl hb40<|an.cons rfl<|an.cons rfl<|aQ rfl hb41<|an.nil _) (fun w hs=>St.br [1,2] rfl rfl hs))
  replace h28:=DT h28
  refine WK hK27<|aq fun _ hK29=>aG<|WS fun _ hK30=>?_
  obtain ⟨o,ho⟩: ∃ y_,c.aB[k]? =some y_:=⟨c.aB[k]'(by omega),List.getElem?_eq_getElem _⟩
  have hom:(c.aB.map bD.cells)[k]? =some (bD.cells o):=by rw [List.getElem?_map,ho]; rfl
  refine rS (JF k rfl (aI 2 rfl) pR (by decide) (by omega) (by omega) (by omega))<|rS (lF k 0 (bD.cells o) rfl rr (aI 2 rfl) hom rfl (by decide) rfl rfl)<|AL rfl u0 fun b31=>fO rfl uR rfl<|RK hK30<|WS fun _ hK32=>rS (FA 0 rfl lk rfl)<|rS (L1 (Value.int .i64 c.bJ) 2 rfl bu rfl rfl)<|rS (FA 0 rfl js rfl)<|rS (L1 (Value.int .i64 x.At) 1 rfl bu rfl rfl) ?_
  refine rS (FA 0 rfl js rfl)<|rS (L1 (Value.int .i64 o.At) 0 rfl bu rfl rfl)<|rS (BI rfl Bt)<|rS (BI rfl DP)<|rS (CL (Jl (vd (c.bJ*(vd (x.At-o.At)))) 1000000 (by first|assumption|omega|(simp; done)|(simp; omega))) (ay) rfl)<|rS (AG rfl)<|RK hK32<|ar<|rS (MV rfl)<|rS (MV rfl) ?_
  refine bH (t:=75) rfl (fun h75=>?_) (fun h75=>?_)
  rotate_left 1
  ·refine rS (OX rfl) ?_
   refine rS (OX rfl)<|rS (OX rfl)<|rS (OX rfl)<|rS (OX rfl)<|rS (OX rfl)<|rS (OX rfl)<|rS (OX rfl)<|rS (OX rfl)<|rS (PK rfl)<|rS (MV rfl) ?_
   refine rS (OX rfl)<|rS (OX rfl)<|rS (OX rfl)<|rS (OX rfl)<|rS (OX rfl)<|rS (OX rfl)<|rS (OX rfl)<|rS (OX rfl)<|rS (OX rfl)<|rS (PK rfl) ?_
   refine rS (AG rfl)<|aP<|aK<|KK hK29<|ar<|rS (BI rfl (aZ ⟨by omega,by omega⟩))<|rS (MV rfl)<|aP ?_
   have hb35:(Value.int .i64 (((k+1):Nat):Int))=(Value.int .i64 (((k:Nat):Int)+1)):=by exact congrArg (Value.int .i64) (by omega)
   refine aO (hJ25 ⟨((k+1),false),⟨by omega,by first|exact (decide_eq_false fun h=>by have h2:=((hP ho).1 h).1; rw [hl1_1] at h75; exact absurd (decide_eq_true h2) (by rw [h75]; decide)).symm|exact (decide_eq_false fun h=>by have h2:=((hP ho).1 h).2; rw [hup] at h86; exact h86 h2.1).symm|exact decide_eq_decide.2 (by rw [hP ho,hup]; rw [hup] at h86; exact ⟨fun h=>⟨hro,h86,h⟩,fun h=>h.2.2⟩)⟩⟩ _ _ _ rfl (by first|omega|(simp; omega)) (an.cons rfl<|an.cons rfl<|an.cons rfl<|an.cons rfl<|an.cons rfl<|an.cons rfl<|an.cons rfl<|an.cons rfl<|an.cons rfl<|an.cons rfl<|an.cons rfl<|aQ rfl hb35<|an.nil _) (fun w hs=>St.br [1,2,3] rfl rfl hs))
  refine rS (FA 1 rfl eU rfl)<|rS (FA 1 rfl bU rfl)<|rS (L1 (Value.int .i64 x.bQ.Lo) 1 rfl bu rfl rfl)<|rS (FA 1 rfl eU rfl)<|rS (FA 2 rfl cd rfl)<|rS (L1 (Value.int .i64 o.bQ.Hi) 0 rfl bu rfl rfl) ?_
  have hro:kl c i x k:=of_decide_eq_true (hl1_1.symm.trans h75)
  obtain ⟨hq1,hq2,hq3⟩:=qI (fun j y hj hy=>(hl0_1 j y hj hy).1) hx hro.1 (by omega) ho
  have hup:=C8 h15 hq1
  refine rS (BI rfl (da ⟨by omega,by omega⟩))<|rS (MV rfl)<|rS (BI rfl gl)<|rS (PK rfl)<|rS (MV rfl) ?_
  refine bH (t:=86) rfl (fun h86=>?_) (fun h86=>?_)
  rotate_left 1
  ·replace h86:=DF h86
   refine rS (OX rfl)<|rS (OX rfl)<|rS (OX rfl)<|rS (OX rfl)<|rS (OX rfl)<|rS (OX rfl)<|rS (OX rfl)<|rS (OX rfl)<|rS (OX rfl)<|rS (PK rfl) ?_
   refine rS (AG rfl)<|aP<|aK<|KK hK29<|ar<|rS (BI rfl (aZ ⟨by omega,by omega⟩))<|rS (MV rfl)<|aP ?_
   have hb34:(Value.int .i64 (((k+1):Nat):Int))=(Value.int .i64 (((k:Nat):Int)+1)):=by exact congrArg (Value.int .i64) (by omega)
   refine aO (hJ25 ⟨((k+1),false),⟨by omega,by first|exact (decide_eq_false fun h=>by have h2:=((hP ho).1 h).1; rw [hl1_1] at h75; exact absurd (decide_eq_true h2) (by rw [h75]; decide)).symm|exact (decide_eq_false fun h=>by have h2:=((hP ho).1 h).2; rw [hup] at h86; exact h86 h2.1).symm|exact decide_eq_decide.2 (by rw [hP ho,hup]; rw [hup] at h86; exact ⟨fun h=>⟨hro,h86,h⟩,fun h=>h.2.2⟩)⟩⟩ _ _ _ rfl (by first|omega|(simp; omega)) (an.cons rfl<|an.cons rfl<|an.cons rfl<|an.cons rfl<|an.cons rfl<|an.cons rfl<|an.cons rfl<|an.cons rfl<|an.cons rfl<|an.cons rfl<|an.cons rfl<|aQ rfl hb34<|an.nil _) (fun w hs=>St.br [1,2,3] rfl rfl hs))
  replace h86:=DT h86
  refine rS (FA 1 rfl eU rfl)<|rS (FA 1 rfl bU rfl)<|rS (L1 (Value.int .i64 o.bQ.Lo) 0 rfl bu rfl rfl)<|rS (FA 1 rfl eU rfl)<|rS (FA 2 rfl cd rfl)<|rS (L1 (Value.int .i64 x.bQ.Hi) 1 rfl bu rfl rfl)<|rS (BI rfl (da ⟨by omega,by omega⟩))<|rS (MV rfl)<|rS (BI rfl gl)<|rS (PK rfl) ?_
  refine rS (AG rfl)<|aP<|aK<|KK hK29<|ar<|rS (BI rfl (aZ ⟨by omega,by omega⟩))<|rS (MV rfl)<|aP ?_
  have hb33:(Value.int .i64 (((k+1):Nat):Int))=(Value.int .i64 (((k:Nat):Int)+1)):=by exact congrArg (Value.int .i64) (by omega)
  refine aO (hJ25 ⟨((k+1),(decide ((o.bQ.Lo-x.bQ.Hi)≤(F0 (vd (c.bJ*(vd (x.At-o.At)))) 1000000)))),⟨by omega,by first|exact (decide_eq_false fun h=>by have h2:=((hP ho).1 h).1; rw [hl1_1] at h75; exact absurd (decide_eq_true h2) (by rw [h75]; decide)).symm|exact (decide_eq_false fun h=>by have h2:=((hP ho).1 h).2; rw [hup] at h86; exact h86 h2.1).symm|exact decide_eq_decide.2 (by rw [hP ho,hup]; rw [hup] at h86; exact ⟨fun h=>⟨hro,h86,h⟩,fun h=>h.2.2⟩)⟩⟩ _ _ _ rfl (by first|omega|(simp; omega)) (an.cons rfl<|an.cons rfl<|an.cons rfl<|an.cons rfl<|an.cons rfl<|an.cons rfl<|an.cons rfl<|an.cons rfl<|an.cons rfl<|an.cons rfl<|an.cons rfl<|aQ rfl hb33<|an.nil _) (fun w hs=>St.br [1,2,3] rfl rfl hs))
 refine ar<|rS (MV rfl)<|rS (BI rfl (aZ ⟨by omega,by omega⟩))<|rS (FA 0 rfl js rfl)<|rS (L1 (Value.int .i64 x.At) 0 rfl bu rfl rfl)<|fp (xs:=[.tmp 34]) (cs:=[(Value.int .i64 x.At)]) rfl dY lK rfl rfl rfl rfl (by simp [Value.cells]) rfl rfl fun b23=>rS (CL (eH.eq (fu ((il c i)+1) 86400000 ([x.At]) (some ⟨b23,0,none⟩) 1 (by first|assumption|omega|(simp; done)|(simp; omega))) dq) (aM (bf 0 rfl rfl (by simp [bY]) rfl)<|ay) rfl)<|rS (MV rfl) ?_
 refine bH (t:=37) rfl (fun h37=>?_) (fun h37=>?_)
 rotate_left 1
 ·replace h37:=DF h37
  refine rS (OX rfl)<|rS (OX rfl)<|rS (OX rfl)<|rS (OX rfl)<|rS (OX rfl)<|rS (OX rfl)<|rS (OX rfl)<|rS (OX rfl)<|rS (PK rfl)<|rS (MV rfl) ?_
  refine rS (OX rfl)<|rS (OX rfl)<|rS (OX rfl)<|rS (OX rfl)<|rS (OX rfl)<|rS (OX rfl)<|rS (OX rfl)<|rS (PK rfl)<|rS (AG rfl)<|aP ?_
  have hb27:(decide (dx c i x))=false:=decide_eq_false (by unfold dx; omega)
  refine aO (e7 (an.cons rfl<|an.cons rfl<|an.cons rfl<|lf rfl hb27<|an.cons rfl<|an.cons rfl<|an.cons rfl<|an.cons rfl<|an.cons rfl<|an.nil _) (fun w hs=>St.br [1,2,3] rfl rfl hs) (hK22 ()))
 replace h37:=DT h37
 refine rS (FA 1 rfl eU rfl)<|rS (FA 1 rfl bU rfl)<|rS (L1 (Value.int .i64 x.bQ.Lo) 1 rfl bu rfl rfl)<|rS (FA 1 rfl eU rfl)<|rS (FA 2 rfl cd rfl)<|rS (L1 (Value.int .i64 x.bQ.Hi) 1 rfl bu rfl rfl)<|fp (xs:=[.tmp 40,.tmp 43]) (cs:=[(Value.int .i64 x.bQ.Lo),(Value.int .i64 x.bQ.Hi)]) rfl dY lK rfl rfl rfl rfl (by simp [Value.cells]) rfl rfl fun b24=>rS (CL (eH.eq (fu (-10000) 10000 ([x.bQ.Lo,x.bQ.Hi]) (some ⟨b24,0,none⟩) 2 (by first|assumption|omega|(simp; done)|(simp; omega))) ui) (aM (bf 0 rfl rfl (by simp [bY]) rfl)<|ay) rfl)<|rS (PK rfl)<|rS (MV rfl) ?_
 refine bH (t:=47) rfl (fun h47=>?_) (fun h47=>?_)
 rotate_left 1
 ·replace h47:=DF h47
  refine rS (OX rfl)<|rS (OX rfl)<|rS (OX rfl)<|rS (OX rfl)<|rS (OX rfl)<|rS (OX rfl)<|rS (OX rfl)<|rS (PK rfl)<|rS (AG rfl)<|aP ?_
  have hb26:(decide (dx c i x))=false:=decide_eq_false (by unfold dx; omega)
  refine aO (e7 (an.cons rfl<|an.cons rfl<|an.cons rfl<|lf rfl hb26<|an.cons rfl<|an.cons rfl<|an.cons rfl<|an.cons rfl<|an.cons rfl<|an.nil _) (fun w hs=>St.br [2,3,4] rfl rfl hs) (hK22 ()))
 replace h47:=DT h47
 refine rS (FA 1 rfl eU rfl)<|rS (FA 1 rfl bU rfl)<|rS (L1 (Value.int .i64 x.bQ.Lo) 2 rfl bu rfl rfl)<|rS (FA 1 rfl eU rfl)<|rS (FA 2 rfl cd rfl)<|rS (L1 (Value.int .i64 x.bQ.Hi) 2 rfl bu rfl rfl)<|rS (BI rfl gl)<|rS (PK rfl)<|rS (AG rfl)<|aP ?_
 have hb25:(decide (dx c i x))=(decide (x.bQ.Lo≤x.bQ.Hi)):=decide_eq_decide.2 (by unfold dx; omega)
 refine aO (e7 (an.cons rfl<|an.cons rfl<|an.cons rfl<|lf rfl hb25<|an.cons rfl<|an.cons rfl<|an.cons rfl<|an.cons rfl<|an.cons rfl<|an.nil _) (fun w hs=>St.br [2,3,4] rfl rfl hs) (hK22 ()))
set_option maxRecDepth 100000 in
set_option maxHeartbeats 400000 in
theorem FE (ms:List aj) (az:List RA) (k:Nat) (m:aj) (a:RA) (hm:ms[k]? =some m) (ha:az[k]? =some a) (hc:m.aB.length≤a.2∧m.aB.length≤1000000):
 eH Tryz.prog 109 [(Value.agg (bO.cells (bO.mk m.bJ (av.mk a.1 m.aB.length a.2))).toArray)] [(cZ (aL aj.dX ms az))] (Value.bool (!(decide (dP m)))):=by
 obtain ⟨hc1,hc2⟩:=hc
 refine bL F1 Tryz.func109 rfl rfl fun w0 Q hQ hN=>?_
 try dsimp only
 refine WS fun _ hK1=>fy rfl fun b2=>rS (AG rfl)<|RK hK1<|WS fun _ hK3=>rS (LW 0 rfl rq rfl rfl)<|rS (CL (DR m a.1 a.2 (by first|assumption|omega|(simp; done)|(simp; omega)) (by first|assumption|omega|(simp; done)|(simp; omega))) (aM (show jS _ (rd a.1 m.aB.length 3 (m.aB.map bD.cells)).holds from (eM 1 rfl (dc hm ha (by simp [aj.dX]))))<|ay) rfl)<|rS (NT rfl)<|rS (AG rfl)<|RK hK3 ?_
 refine aE ?_
 exact Q1 hQ rfl rfl rfl rfl
set_option maxRecDepth 100000 in
set_option maxHeartbeats 400000 in
theorem yJ (l:List aj) (az:List RA) (lA:Option Addr) (lC:Nat) (f:Value) (p:aj→Bool) (X:aA) (hf: ∀ (k:Nat) m a,l[k]? =some m→az[k]? =some a→Ap Tryz.prog f [.agg (aj.cells m a).toArray] [X] (.bool (p m))) (hlen:l.length≤1000000) (has:az.length=l.length):
 eH Tryz.prog 131 [(Value.slice lA l.length lC),f] [(rd lA l.length 2 (List.zipWith aj.cells l az)),(cZ (aL aj.dX l az)),X] (Value.int .i64 (pV p l)):=by
 refine bL Fm Tryz.func131 rfl rfl fun w0 Q hQ hN=>?_
 try dsimp only
 refine WS fun _ hK1=>rS (AG rfl)<|RK hK1<|aq fun _ hK2=>WS fun _ hK3=>rS (MV rfl)<|rS (LN rfl qy)<|rS (MV rfl)<|RK hK3<|aG ?_
 have hinit:(0≤l.length)∧((l.take 0).any p=false):=by simp
 refine cq (ι:={z:Nat // (z≤l.length)∧((l.take z).any p=false)}) (fun z=>[(0,(Value.slice lA l.length lC)),(1,f),(7,(Value.int .i64 ((l.length:Nat):Int))),(8,(Value.int .i64 ((z.1:Nat):Int)))]) (fun z=>[(rd lA l.length 2 (List.zipWith aj.cells l az)).ro,(cZ (aL aj.dX l az)).ro,X.ro]) (fun z=>l.length-z.1) ⟨0,hinit⟩ (an.cons rfl<|an.cons rfl<|an.cons rfl<|an.cons rfl<|an.nil _) (fun w hs=>St.br [0,1,2] rfl rfl hs) ?_
 clear hinit
 rintro ⟨i,⟨hl0_0,hl0_1⟩⟩ J4 hJ4
 try dsimp only
 refine WS fun _ hK5=>rS (BI rfl cv)<|RK hK5<|aq fun _ hK6=>?_
 refine bj rfl (fun h7=>?_) (fun h7=>?_)
 rotate_left 1
 ·replace h7:=DF h7
  refine bE<|ai<|ai<|aH<|KK hK2<|WS fun _ hK13=>rS (AG rfl)<|RK hK13<|aE<|Q1 hQ rfl rfl rfl ?_
  first|exact congrArg (Value.int .i64) (mc hx hp hl0_1).symm|exact congrArg (Value.int .i64) (j6 (by omega) hl0_1).symm
 replace h7:=DT h7
 refine WK hK6<|aq fun _ hK8=>aG<|WS fun _ hK9=>rS (MV rfl)<|rS (AG rfl)<|RK hK9<|WS fun _ hK10=>rS (MV rfl)<|rS (MV rfl) ?_
 refine rS (MV rfl) ?_
 obtain ⟨x,hx⟩: ∃ y_,l[i]? =some y_:=⟨l[i]'(by omega),List.getElem?_eq_getElem _⟩
 obtain ⟨xa,hxa⟩: ∃ y_,az[i]? =some y_:=⟨az[i]'(by omega),List.getElem?_eq_getElem _⟩
 have hxm:(List.zipWith aj.cells l az)[i]? =some (aj.cells x xa):=gM hx hxa
 refine rS (IA i rfl (aI 0 rfl) tI (by decide) (by omega) (by omega))<|rS (lF i 0 (bO.cells (bO.mk x.bJ (av.mk xa.1 x.aB.length xa.2))) rfl rq (aI 0 rfl) hxm rfl (by decide) rfl rfl)<|rS (SX (qL rfl rfl rfl (hf i x xa hx hxa) (ax 2 rfl rfl<|ay)) rfl rfl)<|RK hK10 ?_
 refine bj rfl (fun hp=>?_) (fun hp=>?_)
 ·refine WS fun _ hK11=>?_
  refine rS (MV rfl)<|rS (AG rfl)<|RK hK11<|aE<|Q1 hQ rfl rfl rfl ?_
  first|exact congrArg (Value.int .i64) (mc hx hp hl0_1).symm|exact congrArg (Value.int .i64) (j6 (by omega) hl0_1).symm
 refine cM<|aK<|KK hK8<|ar<|rS (BI rfl (aZ ⟨by omega,by omega⟩))<|rS (MV rfl)<|aP ?_
 have hb12:(Value.int .i64 (((i+1):Nat):Int))=(Value.int .i64 (((i:Nat):Int)+1)):=by exact congrArg (Value.int .i64) (by omega)
 refine aO (hJ4 ⟨(i+1),⟨by omega,sJ hx hl0_1 hp⟩⟩ _ _ _ rfl (by first|omega|(simp; omega)) (an.cons rfl<|an.cons rfl<|an.cons rfl<|aQ rfl hb12<|an.nil _) (fun w hs=>St.br [0,1,2] rfl rfl hs))
set_option maxRecDepth 100000 in
set_option maxHeartbeats 400000 in
theorem uX (l:List aj) (az:List RA) (lA:Option Addr) (lC:Nat) (f:Value) (p:aj→Bool) (X:aA) (hf: ∀ (k:Nat) m a,l[k]? =some m→az[k]? =some a→Ap Tryz.prog f [.agg (aj.cells m a).toArray] [X] (.bool (p m))) (hlen:l.length≤1000000) (has:az.length=l.length):
 eH Tryz.prog 108 [(Value.slice lA l.length lC),f] [(rd lA l.length 2 (List.zipWith aj.cells l az)),(cZ (aL aj.dX l az)),X] (Value.bool (l.any p)):=by
 refine bL Fq Tryz.func108 rfl rfl fun w0 Q hQ hN=>?_
 try dsimp only
 refine WS fun _ hK1=>rS (AG rfl)<|RK hK1<|WS fun _ hK2=>rS (MV rfl)<|rS (MV rfl)<|rS (CL (yJ l az lA lC f p X (by exact hf) hlen has) (G9 0 1 2 rfl rfl rfl rfl rfl rfl) rfl)<|rS (BI rfl kv)<|rS (AG rfl)<|RK hK2 ?_
 refine aE<|Q1 hQ rfl rfl rfl ?_
 exact congrArg Value.bool qf
set_option maxRecDepth 100000 in
set_option maxHeartbeats 400000 in
theorem zC (l:List aY) (lA:Option Addr) (lC:Nat) (f:Value) (p:aY→Bool) (X:aA) (hf: ∀ x0,x0∈l→Ap Tryz.prog f [.agg (aY.cells x0).toArray] [X] (.bool (p x0))) (hlen:l.length≤1000000):
 eH Tryz.prog 132 [(Value.slice lA l.length lC),f] [(rd lA l.length 4 (l.map aY.cells)),X] (Value.int .i64 (pV p l)):=by
 refine bL GF Tryz.func132 rfl rfl fun w0 Q hQ hN=>?_
 try dsimp only
 refine WS fun _ hK1=>rS (AG rfl)<|RK hK1<|aq fun _ hK2=>WS fun _ hK3=>rS (MV rfl)<|rS (LN rfl jL)<|rS (MV rfl)<|RK hK3<|aG ?_
 have hinit:(0≤l.length)∧((l.take 0).any p=false):=by simp
 refine cq (ι:={z:Nat // (z≤l.length)∧((l.take z).any p=false)}) (fun z=>[(0,(Value.slice lA l.length lC)),(1,f),(7,(Value.int .i64 ((l.length:Nat):Int))),(8,(Value.int .i64 ((z.1:Nat):Int)))]) (fun z=>[(rd lA l.length 4 (l.map aY.cells)).ro,X.ro]) (fun z=>l.length-z.1) ⟨0,hinit⟩ (an.cons rfl<|an.cons rfl<|an.cons rfl<|an.cons rfl<|an.nil _) (fun w hs=>St.br [0,1] rfl rfl hs) ?_
 clear hinit
 rintro ⟨i,⟨hl0_0,hl0_1⟩⟩ J4 hJ4
 try dsimp only
 refine WS fun _ hK5=>rS (BI rfl cv)<|RK hK5<|aq fun _ hK6=>?_
 refine bj rfl (fun h7=>?_) (fun h7=>?_)
 rotate_left 1
 ·replace h7:=DF h7
  refine bE<|ai<|ai<|aH<|KK hK2<|WS fun _ hK13=>rS (AG rfl)<|RK hK13<|aE<|Q1 hQ rfl rfl rfl ?_
  first|exact congrArg (Value.int .i64) (mc hx hp hl0_1).symm|exact congrArg (Value.int .i64) (j6 (by omega) hl0_1).symm
 replace h7:=DT h7
 refine WK hK6<|aq fun _ hK8=>aG<|WS fun _ hK9=>rS (MV rfl)<|rS (AG rfl)<|RK hK9<|WS fun _ hK10=>rS (MV rfl)<|rS (MV rfl) ?_
 refine rS (MV rfl) ?_
 obtain ⟨x,hx⟩: ∃ y_,l[i]? =some y_:=⟨l[i]'(by omega),List.getElem?_eq_getElem _⟩
 have hxm:(l.map aY.cells)[i]? =some (aY.cells x):=by rw [List.getElem?_map,hx]; rfl
 refine rS (IA i rfl (aI 0 rfl) qu (by decide) (by omega) (by omega))<|rS (lF i 0 (aY.cells x) rfl zX (aI 0 rfl) hxm rfl (by decide) rfl rfl)<|rS (SX (qL rfl rfl rfl (hf x (List.mem_of_getElem? hx)) (ax 1 rfl rfl<|ay)) rfl rfl)<|RK hK10 ?_
 refine bj rfl (fun hp=>?_) (fun hp=>?_)
 ·refine WS fun _ hK11=>?_
  refine rS (MV rfl)<|rS (AG rfl)<|RK hK11<|aE<|Q1 hQ rfl rfl rfl ?_
  first|exact congrArg (Value.int .i64) (mc hx hp hl0_1).symm|exact congrArg (Value.int .i64) (j6 (by omega) hl0_1).symm
 refine cM<|aK<|KK hK8<|ar<|rS (BI rfl (aZ ⟨by omega,by omega⟩))<|rS (MV rfl)<|aP ?_
 have hb12:(Value.int .i64 (((i+1):Nat):Int))=(Value.int .i64 (((i:Nat):Int)+1)):=by exact congrArg (Value.int .i64) (by omega)
 refine aO (hJ4 ⟨(i+1),⟨by omega,sJ hx hl0_1 hp⟩⟩ _ _ _ rfl (by first|omega|(simp; omega)) (an.cons rfl<|an.cons rfl<|an.cons rfl<|aQ rfl hb12<|an.nil _) (fun w hs=>St.br [0,1] rfl rfl hs))
set_option maxRecDepth 100000 in
set_option maxHeartbeats 400000 in
theorem uJ (l:List aY) (lA:Option Addr) (lC:Nat) (f:Value) (p:aY→Bool) (X:aA) (hf: ∀ x0,x0∈l→Ap Tryz.prog f [.agg (aY.cells x0).toArray] [X] (.bool (p x0))) (hlen:l.length≤1000000):
 eH Tryz.prog 112 [(Value.slice lA l.length lC),f] [(rd lA l.length 4 (l.map aY.cells)),X] (Value.bool (l.any p)):=by
 refine bL FY Tryz.func112 rfl rfl fun w0 Q hQ hN=>?_
 try dsimp only
 refine WS fun _ hK1=>rS (AG rfl)<|RK hK1<|WS fun _ hK2=>rS (MV rfl)<|rS (MV rfl)<|rS (CL (zC l lA lC f p X (by exact hf) hlen) (ax 0 rfl rfl<|ax 1 rfl rfl<|ay) rfl)<|rS (BI rfl kv)<|rS (AG rfl)<|RK hK2 ?_
 refine aE<|Q1 hQ rfl rfl rfl ?_
 exact congrArg Value.bool qf
end
section
open Go.RowKit
set_option linter.unusedVariables false
set_option maxRecDepth 100000 in
set_option maxHeartbeats 400000 in
theorem Eo (l:aU) (kA:Option Addr) (kC:Nat) (az:List RA) (cA:Option Addr) (cC:Nat) (bA:Option Addr) (bC:Nat) (hin:dC l az):
 eH Tryz.prog 106 [(Value.agg (aF.cells (aF.mk (au.mk (av.mk kA l.al.length kC)) l.bw (av.mk cA l.ag.length cC) (av.mk bA l.aa.length bC) l.aD l.aV l.aJ)).toArray)] [(rd kA l.al.length 9 (l.al.map ah.cells)),(rd cA l.ag.length 2 (List.zipWith aj.cells l.ag az)),(cZ (aL aj.dX l.ag az)),(rd bA l.aa.length 4 (l.aa.map aY.cells))] (Value.bool (decide (cS l))):=by
 have htk:=hin.nm
 have hck:=hin.nv
 have has:=hin.m_
 have hbm:=hin.nd
 refine bL GM Tryz.func106 rfl rfl fun w0 Q hQ hN=>?_
 try dsimp only
 refine WS fun _ hK1=>fy rfl fun b2=>rS (AG rfl)<|RK hK1<|WS fun _ hK3=>rS (FA 1 rfl n9 rfl)<|rS (L1 (Value.int .i64 l.bw) 0 rfl bu rfl rfl)<|fp (xs:=[.tmp 4]) (cs:=[(Value.int .i64 l.bw)]) rfl dY lK rfl rfl rfl rfl (by simp [Value.cells]) rfl rfl fun b4=>rS (CL (eH.eq (fu 1 5000 ([l.bw]) (some ⟨b4,0,none⟩) 1 (by first|assumption|omega|(simp; done)|(simp; omega))) dq) (aM (bf 0 rfl rfl (by simp [bY]) rfl)<|ay) rfl)<|rS (MV rfl) ?_
 refine bH (t:=7) rfl (fun h5=>?_) (fun h5=>?_)
 rotate_left 1
 ·replace h5:=DF h5
  refine rS (OX rfl)<|rS (OX rfl)<|rS (OX rfl)<|rS (OX rfl)<|rS (OX rfl)<|rS (PK rfl)<|rS (MV rfl)<|rS (OX rfl)<|rS (OX rfl)<|rS (OX rfl) ?_
  refine rS (OX rfl)<|rS (OX rfl)<|rS (PK rfl)<|rS (MV rfl)<|rS (OX rfl)<|rS (OX rfl)<|rS (OX rfl)<|rS (OX rfl)<|rS (OX rfl)<|rS (OX rfl) ?_
  refine rS (OX rfl)<|rS (OX rfl)<|rS (PK rfl)<|rS (MV rfl)<|rS (OX rfl)<|rS (OX rfl)<|rS (OX rfl)<|rS (OX rfl)<|rS (PK rfl)<|rS (MV rfl) ?_
  refine rS (OX rfl)<|rS (OX rfl)<|rS (OX rfl)<|rS (OX rfl)<|rS (PK rfl)<|rS (AG rfl)<|RK hK3<|aE<|Q1 hQ rfl rfl rfl ?_
  exact congrArg Value.bool (decide_eq_false (by unfold cS; omega)).symm
 replace h5:=DT h5
 refine rS (FA 2 rfl gu rfl)<|rS (L1 (Value.slice cA l.ag.length cC) 1 rfl lE rfl rfl)<|rS (LN rfl qy)<|fp (xs:=[.tmp 10]) (cs:=[(Value.int .i64 ((l.ag.length:Nat):Int))]) rfl dY lK rfl rfl rfl rfl (by simp [Value.cells]) rfl rfl fun b6=>rS (CL (eH.eq (fu 1 4 ([((l.ag.length:Nat):Int)]) (some ⟨b6,0,none⟩) 1 (by first|assumption|omega|(simp; done)|(simp; omega))) dq) (aM (bf 0 rfl rfl (by simp [bY]) rfl)<|ay) rfl)<|rS (PK rfl)<|rS (MV rfl) ?_
 refine bH (t:=14) rfl (fun h7=>?_) (fun h7=>?_)
 rotate_left 1
 ·replace h7:=DF h7
  refine rS (OX rfl)<|rS (OX rfl)<|rS (OX rfl)<|rS (OX rfl)<|rS (OX rfl)<|rS (PK rfl)<|rS (MV rfl)<|rS (OX rfl)<|rS (OX rfl)<|rS (OX rfl) ?_
  refine rS (OX rfl)<|rS (OX rfl)<|rS (OX rfl)<|rS (OX rfl)<|rS (OX rfl)<|rS (PK rfl)<|rS (MV rfl)<|rS (OX rfl)<|rS (OX rfl)<|rS (OX rfl) ?_
  refine rS (OX rfl)<|rS (PK rfl)<|rS (MV rfl)<|rS (OX rfl)<|rS (OX rfl)<|rS (OX rfl)<|rS (OX rfl)<|rS (PK rfl)<|rS (AG rfl)<|RK hK3 ?_
  refine aE<|Q1 hQ rfl rfl rfl ?_
  exact congrArg Value.bool (decide_eq_false (by unfold cS; omega)).symm
 replace h7:=DT h7
 refine rS (FA 3 rfl dy rfl)<|rS (L1 (Value.slice bA l.aa.length bC) 2 rfl g3 rfl rfl)<|rS (LN rfl jL)<|fp (xs:=[.tmp 17]) (cs:=[(Value.int .i64 ((l.aa.length:Nat):Int))]) rfl dY lK rfl rfl rfl rfl (by simp [Value.cells]) rfl rfl fun b8=>rS (CL (eH.eq (fu 1 6 ([((l.aa.length:Nat):Int)]) (some ⟨b8,0,none⟩) 1 (by first|assumption|omega|(simp; done)|(simp; omega))) dq) (aM (bf 0 rfl rfl (by simp [bY]) rfl)<|ay) rfl)<|rS (PK rfl)<|rS (MV rfl) ?_
 refine bH (t:=21) rfl (fun h9=>?_) (fun h9=>?_)
 rotate_left 1
 ·replace h9:=DF h9
  refine rS (OX rfl)<|rS (OX rfl)<|rS (OX rfl)<|rS (OX rfl)<|rS (OX rfl)<|rS (OX rfl)<|rS (OX rfl)<|rS (OX rfl)<|rS (PK rfl)<|rS (MV rfl) ?_
  refine rS (OX rfl)<|rS (OX rfl)<|rS (OX rfl)<|rS (OX rfl)<|rS (PK rfl)<|rS (MV rfl)<|rS (OX rfl)<|rS (OX rfl)<|rS (OX rfl)<|rS (OX rfl) ?_
  refine rS (PK rfl)<|rS (AG rfl)<|RK hK3<|aE<|Q1 hQ rfl rfl rfl ?_
  exact congrArg Value.bool (decide_eq_false (by unfold cS; omega)).symm
 replace h9:=DT h9
 refine rS (FA 3 rfl dy rfl)<|rS (L1 (Value.slice bA l.aa.length bC) 3 rfl g3 rfl rfl)<|rS (LN rfl jL)<|rS (BI rfl (da ⟨by omega,by omega⟩))<|rS (FA 4 rfl lV rfl)<|rS (L1 (Value.int .i64 l.aD) 3 rfl bu rfl rfl)<|fp (xs:=[.tmp 27]) (cs:=[(Value.int .i64 l.aD)]) rfl dY lK rfl rfl rfl rfl (by simp [Value.cells]) rfl rfl fun b10=>rS (CL (eH.eq (fu 0 (((l.aa.length:Nat):Int)-1) ([l.aD]) (some ⟨b10,0,none⟩) 1 (by first|assumption|omega|(simp; done)|(simp; omega))) dq) (aM (bf 0 rfl rfl (by simp [bY]) rfl)<|ay) rfl)<|rS (PK rfl)<|rS (MV rfl) ?_
 refine bH (t:=31) rfl (fun h11=>?_) (fun h11=>?_)
 rotate_left 1
 ·replace h11:=DF h11
  refine rS (OX rfl)<|rS (OX rfl)<|rS (OX rfl)<|rS (OX rfl)<|rS (PK rfl)<|rS (MV rfl)<|rS (OX rfl)<|rS (OX rfl)<|rS (OX rfl)<|rS (OX rfl) ?_
  refine rS (PK rfl)<|rS (AG rfl)<|RK hK3<|aE<|Q1 hQ rfl rfl rfl ?_
  exact congrArg Value.bool (decide_eq_false (by unfold cS; omega)).symm
 replace h11:=DT h11
 refine rS (FA 5 rfl qz rfl)<|rS (L1 (Value.int .i64 l.aV) 4 rfl bu rfl rfl)<|fp (xs:=[.tmp 33]) (cs:=[(Value.int .i64 l.aV)]) rfl dY lK rfl rfl rfl rfl (by simp [Value.cells]) rfl rfl fun b12=>rS (CL (eH.eq (fu 0 3 ([l.aV]) (some ⟨b12,0,none⟩) 1 (by first|assumption|omega|(simp; done)|(simp; omega))) dq) (aM (bf 0 rfl rfl (by simp [bY]) rfl)<|ay) rfl)<|rS (PK rfl)<|rS (MV rfl) ?_
 refine bH (t:=37) rfl (fun h13=>?_) (fun h13=>?_)
 rotate_left 1
 ·replace h13:=DF h13
  refine rS (OX rfl)<|rS (OX rfl)<|rS (OX rfl)<|rS (OX rfl)<|rS (PK rfl)<|rS (AG rfl)<|RK hK3<|aE<|Q1 hQ rfl rfl rfl ?_
  exact congrArg Value.bool (decide_eq_false (by unfold cS; omega)).symm
 replace h13:=DT h13
 refine rS (FA 6 rfl qK rfl)<|rS (L1 (Value.int .i64 l.aJ) 5 rfl bu rfl rfl)<|fp (xs:=[.tmp 39]) (cs:=[(Value.int .i64 l.aJ)]) rfl dY lK rfl rfl rfl rfl (by simp [Value.cells]) rfl rfl fun b14=>rS (CL (eH.eq (fu 0 3 ([l.aJ]) (some ⟨b14,0,none⟩) 1 (by first|assumption|omega|(simp; done)|(simp; omega))) dq) (aM (bf 0 rfl rfl (by simp [bY]) rfl)<|ay) rfl)<|rS (PK rfl)<|rS (AG rfl)<|RK hK3<|aE<|Q1 hQ rfl rfl rfl ?_
 exact congrArg Value.bool (decide_eq_decide.2 (by unfold cS; omega))
set_option maxRecDepth 100000 in
set_option maxHeartbeats 400000 in
theorem Eb (l:aU) (kA:Option Addr) (kC:Nat) (az:List RA) (cA:Option Addr) (cC:Nat) (bA:Option Addr) (bC:Nat) (hin:dC l az):
 eH Tryz.prog 107 [(Value.agg (aF.cells (aF.mk (au.mk (av.mk kA l.al.length kC)) l.bw (av.mk cA l.ag.length cC) (av.mk bA l.aa.length bC) l.aD l.aV l.aJ)).toArray)] [(rd kA l.al.length 9 (l.al.map ah.cells)),(rd cA l.ag.length 2 (List.zipWith aj.cells l.ag az)),(cZ (aL aj.dX l.ag az)),(rd bA l.aa.length 4 (l.aa.map aY.cells))] (Value.bool (decide (∀ c∈l.ag,dP c))):=by
 have htk:=hin.nm
 have hck:=hin.nv
 have has:=hin.m_
 have hbm:=hin.nd
 refine bL Fl Tryz.func107 rfl rfl fun w0 Q hQ hN=>?_
 try dsimp only
 refine WS fun _ hK1=>fy rfl fun b2=>rS (AG rfl)<|RK hK1<|WS fun _ hK3=>rS (FA 2 rfl gu rfl)<|rS (L1 (Value.slice cA l.ag.length cC) 0 rfl lE rfl rfl)<|rS (CL (uX l.ag az cA cC (Value.func (.func 109) [].toArray [].toArray) (fun m=>(!(decide (dP m)))) (cZ (aL aj.dX l.ag az)) (by intro k_ m a hm_ ha_; exact nG (fi:=[]) (ca:=[]) (FE l.ag az k_ m a (by exact hm_) (by exact ha_) (by exact hin.Fs _ _ _ hm_ ha_))) (by first|assumption|omega|(simp; done)|(simp; omega)) (by first|assumption|omega|(simp; done)|(simp; omega))) (G9 2 3 3 rfl rfl rfl rfl rfl rfl) rfl)<|rS (NT rfl)<|rS (AG rfl) ?_
 refine RK hK3<|aE<|Q1 hQ rfl rfl rfl ?_
 exact congrArg Value.bool (by rw [Bool.eq_iff_iff,decide_eq_true_eq]; exact xC)
set_option maxRecDepth 100000 in
set_option maxHeartbeats 400000 in
theorem DY (b:aY) (l:aU) (kA:Option Addr) (kC:Nat) (az:List RA) (cA:Option Addr) (cC:Nat) (bA:Option Addr) (bC:Nat) (g1:Nat) (hin:dC l az) (htr:cj l.al=true):
 eH Tryz.prog 113 [(Value.agg (aY.cells b).toArray),(Value.pointer (some ⟨g1,0,none⟩))] [(rd kA l.al.length 9 (l.al.map ah.cells)),(rd cA l.ag.length 2 (List.zipWith aj.cells l.ag az)),(cZ (aL aj.dX l.ag az)),(rd bA l.aa.length 4 (l.aa.map aY.cells)),(aT g1 28 (aF.cells (aF.mk (au.mk (av.mk kA l.al.length kC)) l.bw (av.mk cA l.ag.length cC) (av.mk bA l.aa.length bC) l.aD l.aV l.aJ)))] (Value.bool (!(decide (ic l b)))):=by
 have htk:=hin.nm
 have hck:=hin.nv
 have has:=hin.m_
 have hbm:=hin.nd
 have hsd:=hin.side
 refine bL Gt Tryz.func113 rfl rfl fun w0 Q hQ hN=>?_
 try dsimp only
 refine WS fun _ hK1=>fy rfl fun b2=>rS (AG rfl)<|RK hK1<|WS fun _ hK3=>rS (FA 0 rfl j4 rfl)<|rS (JE (au.cells (au.mk (av.mk kA l.al.length kC))) 5 rfl jn rfl rfl rfl)<|rS (FA 0 rfl mM rfl)<|rS (LP (bS.cells b.hU) 0 rfl kO rfl rfl rfl)<|rS (CL (FG l.al kA kC b.hU (by first|assumption|omega|(simp; done)|(simp; omega)) (by first|assumption|omega|(simp; done)|(simp; omega))) (ax 1 rfl rfl<|ay) rfl) ?_
 refine rS (MV rfl)<|rS (EX rfl)<|rS (EX rfl)<|AL rfl dF fun b4=>fO rfl cK rfl<|rS (AG rfl)<|RK hK3<|WS fun _ hK5=>rS (MV rfl)<|rS (BI rfl dB) ?_
 refine rS (MV rfl) ?_
 refine bH (t:=16) rfl (fun h16=>?_) (fun h16=>?_)
 ·replace h16:=XT h16
  refine rS (OX rfl)<|rS (OX rfl)<|rS (OX rfl)<|rS (OX rfl)<|rS (OX rfl)<|rS (OX rfl)<|rS (OX rfl)<|rS (OX rfl)<|rS (OX rfl)<|rS (PK rfl) ?_
  refine rS (AG rfl)<|RK hK5<|aE<|Q1 hQ rfl rfl rfl ?_
  first|(refine congrArg Value.bool ?_; rw [decide_eq_false (fun h:ic l b=>h16 ((rH htr).2 h.1))]; rfl)|(refine congrArg Value.bool ?_; refine congrArg Bool.not (decide_eq_decide.2 ⟨fun h=>⟨(rH htr).1 h16,by omega,by omega⟩,fun h=>by have:=h.2; omega⟩))
 replace h16:=XF h16
 refine rS (FA 2 rfl gu rfl)<|rS (ny (Value.slice cA l.ag.length cC) 6 rfl lE rfl rfl)<|rS (LN rfl qy)<|rS (BI rfl (da ⟨by omega,by omega⟩))<|rS (FA 3 rfl rv rfl)<|rS (L1 (Value.int .i64 b.gk) 1 rfl bu rfl rfl)<|fp (xs:=[.tmp 22]) (cs:=[(Value.int .i64 b.gk)]) rfl dY lK rfl rfl rfl rfl (by simp [Value.cells]) rfl rfl fun b6=>rS (CL (eH.eq (fu 0 (((l.ag.length:Nat):Int)-1) ([b.gk]) (some ⟨b6,0,none⟩) 1 (by first|assumption|omega|(simp; done)|(simp; omega))) dq) (aM (bf 0 rfl rfl (by simp [bY]) rfl)<|ay) rfl)<|rS (NT rfl)<|rS (PK rfl) ?_
 refine rS (AG rfl)<|RK hK5<|aE<|Q1 hQ rfl rfl rfl ?_
 first|(refine congrArg Value.bool ?_; rw [decide_eq_false (fun h:ic l b=>h16 ((rH htr).2 h.1))]; rfl)|(refine congrArg Value.bool ?_; refine congrArg Bool.not (decide_eq_decide.2 ⟨fun h=>⟨(rH htr).1 h16,by omega,by omega⟩,fun h=>by have:=h.2; omega⟩))
set_option maxRecDepth 100000 in
set_option maxHeartbeats 400000 in
theorem Ea (l:aU) (kA:Option Addr) (kC:Nat) (az:List RA) (cA:Option Addr) (cC:Nat) (bA:Option Addr) (bC:Nat) (hin:dC l az) (htr:cj l.al=true):
 eH Tryz.prog 111 [(Value.agg (aF.cells (aF.mk (au.mk (av.mk kA l.al.length kC)) l.bw (av.mk cA l.ag.length cC) (av.mk bA l.aa.length bC) l.aD l.aV l.aJ)).toArray)] [(rd kA l.al.length 9 (l.al.map ah.cells)),(rd cA l.ag.length 2 (List.zipWith aj.cells l.ag az)),(cZ (aL aj.dX l.ag az)),(rd bA l.aa.length 4 (l.aa.map aY.cells))] (Value.bool (decide (∀ b∈l.aa,ic l b))):=by
 have htk:=hin.nm
 have hck:=hin.nv
 have has:=hin.m_
 have hbm:=hin.nd
 refine bL Fk Tryz.func111 rfl rfl fun w0 Q hQ hN=>?_
 try dsimp only
 refine WS fun _ hK1=>fy rfl fun b2=>rS (AG rfl)<|RK hK1<|WS fun _ hK3=>rS (FA 3 rfl dy rfl)<|rS (L1 (Value.slice bA l.aa.length bC) 0 rfl g3 rfl rfl)<|rS (FU rfl)<|rS (CL (uJ l.aa bA bC (Value.func (.func 113) [].toArray [(Value.pointer (some ⟨b2,0,none⟩))].toArray) (fun u4=>(!(decide (ic l u4)))) (cZ [(rd kA l.al.length 9 (l.al.map ah.cells)),(rd cA l.ag.length 2 (List.zipWith aj.cells l.ag az)),(cZ (aL aj.dX l.ag az)),(rd bA l.aa.length 4 (l.aa.map aY.cells)),(aT b2 28 (aF.cells (aF.mk (au.mk (av.mk kA l.al.length kC)) l.bw (av.mk cA l.ag.length cC) (av.mk bA l.aa.length bC) l.aD l.aV l.aJ)))]) (by intro u4 _; exact nG (fi:=[]) (ca:=[(Value.pointer (some ⟨b2,0,none⟩))]) (mF (DY u4 l kA kC az cA cC bA bC b2 (by first|assumption|omega) (by first|assumption|omega)) (ax 0 rfl rfl<|ax 1 rfl rfl<|ax 2 rfl rfl<|ax 3 rfl rfl<|ax 4 rfl rfl<|ay))) (by first|assumption|omega|(simp; done)|(simp; omega))) (ax 4 rfl rfl<|aM (mW (ax 1 rfl rfl<|ax 2 rfl rfl<|ax 3 rfl rfl<|ax 4 rfl rfl<|ax 0 rfl rfl<|ay))<|ay) rfl)<|rS (NT rfl) ?_
 refine rS (AG rfl)<|RK hK3<|aE<|Q1 hQ rfl rfl rfl ?_
 exact congrArg Value.bool (by rw [Bool.eq_iff_iff,decide_eq_true_eq]; exact zc)
set_option maxRecDepth 100000 in
set_option maxHeartbeats 400000 in
theorem Ad (l:aU) (kA:Option Addr) (kC:Nat) (az:List RA) (cA:Option Addr) (cC:Nat) (bA:Option Addr) (bC:Nat) (n:Int) (hin:dC l az) (htr:cj l.al=true) (hbk: ∀ b∈l.aa,ic l b) (hn:0≤n∧n<(l.aa.length:Int)):
 eH Tryz.prog 59 [(Value.agg (aF.cells (aF.mk (au.mk (av.mk kA l.al.length kC)) l.bw (av.mk cA l.ag.length cC) (av.mk bA l.aa.length bC) l.aD l.aV l.aJ)).toArray),(Value.int .i64 n)] [(rd kA l.al.length 9 (l.al.map ah.cells)),(rd cA l.ag.length 2 (List.zipWith aj.cells l.ag az)),(cZ (aL aj.dX l.ag az)),(rd bA l.aa.length 4 (l.aa.map aY.cells))] (Value.int .i64 (kg l n.toNat)):=by
 have htk:=hin.nm
 have hck:=hin.nv
 have has:=hin.m_
 have hbm:=hin.nd
 have hsd:=hin.side
 refine bL Jc Tryz.func59 rfl rfl fun w0 Q hQ hN=>?_
 try dsimp only
 refine WS fun _ hK1=>fy rfl fun b2=>rS (AG rfl)<|RK hK1<|WS fun _ hK3=>rS (FA 3 rfl dy rfl)<|rS (L1 (Value.slice bA l.aa.length bC) 0 rfl g3 rfl rfl)<|rS (MV rfl) ?_
 obtain ⟨x,hx⟩: ∃ y_,l.aa[(n).toNat]? =some y_:=⟨l.aa[(n).toNat]'(by omega),List.getElem?_eq_getElem _⟩
 have hxm:(l.aa.map aY.cells)[(n).toNat]? =some (aY.cells x):=by rw [List.getElem?_map,hx]; rfl
 refine rS (IA ((n).toNat) rfl (aI 4 rfl) qu (by decide) (by omega) (by omega))<|rS (ou (((n).toNat)*4) rfl (aI 4 rfl) (Nat.mul_pos (by omega) (by decide)) mM rfl)<|rS (lF ((n).toNat) 0 (bS.cells x.hU) rfl kO (aI 4 rfl) hxm rfl (by decide) rfl rfl)<|AL rfl B1 fun b4=>fO rfl F7 rfl<|RK hK3<|WS fun _ hK5=>rS (FA 0 rfl j4 rfl)<|rS (LP (au.cells (au.mk (av.mk kA l.al.length kC))) 1 rfl jn rfl rfl rfl)<|rS (LW 0 rfl kO rfl rfl) ?_
 refine rS (CL (FG l.al kA kC x.hU (by first|assumption|omega|(simp; done)|(simp; omega)) (by first|assumption|omega|(simp; done)|(simp; omega))) (ax 2 rfl rfl<|ay) rfl)<|rS (MV rfl)<|rS (EX rfl)<|rS (EX rfl)<|AL rfl dF fun b6=>fO rfl cK rfl<|rS (AG rfl)<|RK hK5<|aq fun _ hK7=>WS fun _ hK8=>?_
 refine rS (MV rfl)<|rS (BI rfl fY)<|RK hK8 ?_
 refine bj rfl (fun h22=>?_) (fun h22=>?_)
 rotate_left 1
 ·replace h22:=DF h22
  refine WK hK7<|WS fun _ hK11=>rS (FA 0 rfl bU rfl)<|rS (L1 (Value.int .i64 ((vc l.al x.hU).Lo)) 0 rfl bu rfl rfl)<|rS (AG rfl)<|RK hK11<|aE<|Q1 hQ rfl rfl rfl ?_
  first|(refine congrArg (Value.int .i64) ?_; rw [pt (by omega) hx (by rw [show n.toNat-1=(n-1).toNat by omega]; exact hy),(cw htr ⟨(hbk _ (List.mem_of_getElem? hy)).1,(hbk _ (List.mem_of_getElem? hx)).1⟩).2])|(refine congrArg (Value.int .i64) ?_; rw [show n.toNat=0 by omega] at hx ⊢; rw [oc hx,(l8 htr (hbk _ (List.mem_of_getElem? hx)).1).2])
 replace h22:=DT h22
 refine er cG [0,1,2,3,4,5,6,7,8,9,10,11,12,13] [14] [false,false,false,false,false,false,false,false,false,false,false,false,false,false] [false] [(aT b4 99 (bS.cells x.hU)),(aT b2 28 (aF.cells (aF.mk (au.mk (av.mk kA l.al.length kC)) l.bw (av.mk cA l.ag.length cC) (av.mk bA l.aa.length bC) l.aD l.aV l.aJ))),(rd kA l.al.length 9 (l.al.map ah.cells)).ro,(rd cA l.ag.length 2 (List.zipWith aj.cells l.ag az)).ro,(cZ (aL aj.dX l.ag az)).ro,(rd bA l.aa.length 4 (l.aa.map aY.cells)).ro] [] (by kernel_rfl) (fun w hs=>St.br [1,2,3,4,5,6] rfl rfl hs) (fun w hs=>St.br [] rfl rfl hs)<|eS rfl (FA 0 rfl j4 rfl)<|eS rfl (LP (au.cells (au.mk (av.mk kA l.al.length kC))) 1 rfl jn rfl rfl rfl)<|eS rfl (FA 3 rfl dy rfl)<|eS rfl (L1 (Value.slice bA l.aa.length bC) 1 rfl g3 rfl rfl)<|eS rfl (MV rfl)<|eS rfl (BI rfl (da ⟨by omega,by omega⟩)) ?_
 obtain ⟨y,hy⟩: ∃ y_,l.aa[((n-1)).toNat]? =some y_:=⟨l.aa[((n-1)).toNat]'(by omega),List.getElem?_eq_getElem _⟩
 have hym:(l.aa.map aY.cells)[((n-1)).toNat]? =some (aY.cells y):=by rw [List.getElem?_map,hy]; rfl
 refine eS rfl (IA (((n-1)).toNat) rfl (aI 5 rfl) qu (by decide) (by omega) (by omega))<|eS rfl (ou ((((n-1)).toNat)*4) rfl (aI 5 rfl) (Nat.mul_pos (by omega) (by decide)) mM rfl)<|eS rfl (lF (((n-1)).toNat) 0 (bS.cells y.hU) rfl kO (aI 5 rfl) hym rfl (by decide) rfl rfl)<|eS rfl (LW 0 rfl kO rfl rfl)<|eS rfl (CL (CT l.al kA kC y.hU x.hU (by first|assumption|omega|(simp; done)|(simp; omega)) (by first|assumption|omega|(simp; done)|(simp; omega))) (ax 2 rfl rfl<|ay) rfl)<|eS rfl (MV rfl)<|eS rfl (EX rfl)<|eS rfl (EX rfl)<|fw rfl<|cL rfl fun T9 hT9=>?_
 refine fO rfl cK rfl<|RN hT9 [1,2,3,4,5,6] rfl rfl<|g_ rfl<|KK hK7<|WS fun _ hK10=>rS (FA 0 rfl bU rfl)<|rS (L1 (Value.int .i64 ((dJ l.al y.hU x.hU).Lo)) 0 rfl bu rfl rfl)<|rS (AG rfl)<|RK hK10<|aE ?_
 refine Q1 hQ rfl rfl rfl ?_
 first|(refine congrArg (Value.int .i64) ?_; rw [pt (by omega) hx (by rw [show n.toNat-1=(n-1).toNat by omega]; exact hy),(cw htr ⟨(hbk _ (List.mem_of_getElem? hy)).1,(hbk _ (List.mem_of_getElem? hx)).1⟩).2])|(refine congrArg (Value.int .i64) ?_; rw [show n.toNat=0 by omega] at hx ⊢; rw [oc hx,(l8 htr (hbk _ (List.mem_of_getElem? hx)).1).2])
set_option maxRecDepth 100000 in
set_option maxHeartbeats 400000 in
theorem EW (l:aU) (kA:Option Addr) (kC:Nat) (az:List RA) (cA:Option Addr) (cC:Nat) (bA:Option Addr) (bC:Nat) (hin:dC l az) (htr:cj l.al=true) (hbk: ∀ b∈l.aa,ic l b):
 eH Tryz.prog 114 [(Value.agg (aF.cells (aF.mk (au.mk (av.mk kA l.al.length kC)) l.bw (av.mk cA l.ag.length cC) (av.mk bA l.aa.length bC) l.aD l.aV l.aJ)).toArray)] [(rd kA l.al.length 9 (l.al.map ah.cells)),(rd cA l.ag.length 2 (List.zipWith aj.cells l.ag az)),(cZ (aL aj.dX l.ag az)),(rd bA l.aa.length 4 (l.aa.map aY.cells))] (Value.bool (decide (∀ i,i<l.aa.length→1≤kg l i))):=by
 have htk:=hin.nm
 have hck:=hin.nv
 have has:=hin.m_
 have hbm:=hin.nd
 refine bL FV Tryz.func114 rfl rfl fun w0 Q hQ hN=>?_
 try dsimp only
 refine WS fun _ hK1=>fy rfl fun b2=>rS (AG rfl)<|RK hK1<|aq fun _ hK3=>WS fun _ hK4=>rS (FA 3 rfl dy rfl)<|rS (L1 (Value.slice bA l.aa.length bC) 0 rfl g3 rfl rfl)<|rS (LN rfl jL)<|rS (MV rfl) ?_
 refine RK hK4<|aG ?_
 have hinit:(0≤l.aa.length)∧(∀ j,j<0→1≤kg l j):=by exact ⟨Nat.zero_le _,fun j hj=>absurd hj (Nat.not_lt_zero _)⟩
 refine cq (ι:={z:Nat // (z≤l.aa.length)∧(∀ j,j<z→1≤kg l j)}) (fun z=>[(1,(Value.pointer (some ⟨b2,0,none⟩))),(6,(Value.int .i64 ((l.aa.length:Nat):Int))),(7,(Value.int .i64 ((z.1:Nat):Int)))]) (fun z=>[(aT b2 28 (aF.cells (aF.mk (au.mk (av.mk kA l.al.length kC)) l.bw (av.mk cA l.ag.length cC) (av.mk bA l.aa.length bC) l.aD l.aV l.aJ))),(rd kA l.al.length 9 (l.al.map ah.cells)).ro,(rd cA l.ag.length 2 (List.zipWith aj.cells l.ag az)).ro,(cZ (aL aj.dX l.ag az)).ro,(rd bA l.aa.length 4 (l.aa.map aY.cells)).ro]) (fun z=>l.aa.length-z.1) ⟨0,hinit⟩ (an.cons rfl<|an.cons rfl<|an.cons rfl<|an.nil _) (fun w hs=>St.br [0,1,2,3,4] rfl rfl hs) ?_
 clear hinit
 rintro ⟨i,⟨hl0_0,hl0_1⟩⟩ J5 hJ5
 try dsimp only
 refine WS fun _ hK6=>rS (BI rfl cv)<|RK hK6<|aq fun _ hK7=>?_
 refine bj rfl (fun h8=>?_) (fun h8=>?_)
 rotate_left 1
 ·replace h8:=DF h8
  refine bE<|ai<|ai<|aH<|KK hK3<|WS fun _ hK14=>rS (AG rfl)<|RK hK14<|aE<|Q1 hQ rfl rfl rfl ?_
  first|exact congrArg Value.bool (decide_eq_false (fun h=>by have:=h i (by omega); simp only [Int.toNat_natCast] at h13; omega)).symm|exact congrArg Value.bool (decide_eq_true (fun j hj=>hl0_1 j (by omega))).symm
 replace h8:=DT h8
 refine WK hK7<|aq fun _ hK9=>aG<|WS fun _ hK10=>rS (MV rfl)<|rS (AG rfl)<|RK hK10<|WS fun _ hK11=>rS (LW 0 rfl eO rfl rfl)<|rS (MV rfl) ?_
 refine rS (CL (Ad l kA kC az cA cC bA bC ((i:Nat):Int) hin htr hbk (by first|assumption|omega|(simp; done)|(simp; omega))) (ax 1 rfl rfl<|ax 2 rfl rfl<|ax 3 rfl rfl<|ax 4 rfl rfl<|ay) rfl)<|rS (BI rfl cv)<|RK hK11 ?_
 refine bj rfl (fun h13=>?_) (fun h13=>?_)
 ·replace h13:=DT h13
  refine WS fun _ hK12=>rS (AG rfl)<|RK hK12<|aE<|Q1 hQ rfl rfl rfl ?_
  first|exact congrArg Value.bool (decide_eq_false (fun h=>by have:=h i (by omega); simp only [Int.toNat_natCast] at h13; omega)).symm|exact congrArg Value.bool (decide_eq_true (fun j hj=>hl0_1 j (by omega))).symm
 replace h13:=DF h13
 refine cM<|aK<|KK hK9<|ar<|rS (BI rfl (aZ ⟨by omega,by omega⟩))<|rS (MV rfl)<|aP ?_
 have hb13:(Value.int .i64 (((i+1):Nat):Int))=(Value.int .i64 (((i:Nat):Int)+1)):=by exact congrArg (Value.int .i64) (by omega)
 refine aO (hJ5 ⟨(i+1),⟨by omega,fun j hj=>by rcases Nat.lt_or_ge j i with q|q; exact hl0_1 j q; (obtain rfl:j=i:=by omega); simp only [Int.toNat_natCast] at h13; omega⟩⟩ _ _ _ rfl (by first|omega|(simp; omega)) (an.cons rfl<|an.cons rfl<|aQ rfl hb13<|an.nil _) (fun w hs=>St.br [0,1,2,3,4] rfl rfl hs))
end
section
open Go.RowKit
set_option linter.unusedVariables false
set_option maxRecDepth 100000 in
set_option maxHeartbeats 400000 in
theorem Eu:
 eH Tryz.prog 77 [] [] (Value.agg ((cW.cells (cW.mk (Value.func (.func 106) [].toArray [].toArray)))++(cW.cells (cW.mk (Value.func (.func 107) [].toArray [].toArray)))++(cW.cells (cW.mk (Value.func (.func 111) [].toArray [].toArray)))++(cW.cells (cW.mk (Value.func (.func 114) [].toArray [].toArray)))).toArray):=by
 refine bL I1 Tryz.func77 rfl rfl fun w0 Q hQ hN=>?_
 try dsimp only
 refine WS fun _ hK1=>AL rfl FJ fun b2=>RK hK1<|WS fun _ hK3=>rS (SX (bp (xs:=[(0,.func 106)]) (cs:=(cW.cells (cW.mk (Value.func (.func 106) [].toArray [].toArray)))) rfl rfl (bq x9 rfl)) rfl rfl)<|rS (SX (bp (xs:=[(0,.func 107)]) (cs:=(cW.cells (cW.mk (Value.func (.func 107) [].toArray [].toArray)))) rfl rfl (bq x9 rfl)) rfl rfl)<|rS (SX (bp (xs:=[(0,.func 111)]) (cs:=(cW.cells (cW.mk (Value.func (.func 111) [].toArray [].toArray)))) rfl rfl (bq x9 rfl)) rfl rfl)<|rS (SX (bp (xs:=[(0,.func 114)]) (cs:=(cW.cells (cW.mk (Value.func (.func 114) [].toArray [].toArray)))) rfl rfl (bq x9 rfl)) rfl rfl)<|rS (SX (bp (xs:=[(0,.tmp 1),(1,.tmp 2),(2,.tmp 3),(3,.tmp 4)]) (cs:=((cW.cells (cW.mk (Value.func (.func 106) [].toArray [].toArray)))++(cW.cells (cW.mk (Value.func (.func 107) [].toArray [].toArray)))++(cW.cells (cW.mk (Value.func (.func 111) [].toArray [].toArray)))++(cW.cells (cW.mk (Value.func (.func 114) [].toArray [].toArray))))) rfl rfl (bq GW rfl)) rfl rfl)<|fO rfl Ff rfl ?_
 refine RK hK3<|aE ?_
 refine hQ _ _ _ (bB (vs:=[(Value.agg ((cW.cells (cW.mk (Value.func (.func 106) [].toArray [].toArray)))++(cW.cells (cW.mk (Value.func (.func 107) [].toArray [].toArray)))++(cW.cells (cW.mk (Value.func (.func 111) [].toArray [].toArray)))++(cW.cells (cW.mk (Value.func (.func 114) [].toArray [].toArray)))).toArray)]) ⟨⟨_,rfl,.inl ⟨_,_,DK,cy (vs:=((cW.cells (cW.mk (Value.func (.func 106) [].toArray [].toArray)))++(cW.cells (cW.mk (Value.func (.func 107) [].toArray [].toArray)))++(cW.cells (cW.mk (Value.func (.func 111) [].toArray [].toArray)))++(cW.cells (cW.mk (Value.func (.func 114) [].toArray [].toArray))))) 0 rfl rfl,rfl,rfl⟩⟩,trivial⟩ fun w hs=>fq ?_ hs)
 show (Value.agg ((cW.cells (cW.mk (Value.func (.func 106) [].toArray [].toArray)))++(cW.cells (cW.mk (Value.func (.func 107) [].toArray [].toArray)))++(cW.cells (cW.mk (Value.func (.func 111) [].toArray [].toArray)))++(cW.cells (cW.mk (Value.func (.func 114) [].toArray [].toArray)))).toArray)=(Value.agg ((cW.cells (cW.mk (Value.func (.func 106) [].toArray [].toArray)))++(cW.cells (cW.mk (Value.func (.func 107) [].toArray [].toArray)))++(cW.cells (cW.mk (Value.func (.func 111) [].toArray [].toArray)))++(cW.cells (cW.mk (Value.func (.func 114) [].toArray [].toArray)))).toArray)
 clear hs w hQ hN hK3 hK1
 rfl
set_option maxRecDepth 100000 in
set_option maxHeartbeats 400000 in
theorem vE (l:aU) (kA:Option Addr) (kC:Nat) (az:List RA) (cA:Option Addr) (cC:Nat) (bA:Option Addr) (bC:Nat) (hin:dC l az):
 eH Tryz.prog 57 [(Value.agg (aF.cells (aF.mk (au.mk (av.mk kA l.al.length kC)) l.bw (av.mk cA l.ag.length cC) (av.mk bA l.aa.length bC) l.aD l.aV l.aJ)).toArray)] [(rd kA l.al.length 9 (l.al.map ah.cells)),(rd cA l.ag.length 2 (List.zipWith aj.cells l.ag az)),(cZ (aL aj.dX l.ag az)),(rd bA l.aa.length 4 (l.aa.map aY.cells))] (Value.int .i64 (dk l)):=by
 have htk:=hin.nm
 have hck:=hin.nv
 have has:=hin.m_
 have hbm:=hin.nd
 have hsd:=hin.side
 refine bL Hw Tryz.func57 rfl rfl fun w0 Q hQ hN=>?_
 try dsimp only
 refine WS fun _ hK1=>fy rfl fun b2=>rS (AG rfl)<|RK hK1<|aq fun _ hK3=>WS fun _ hK4=>rS (FA 0 rfl j4 rfl)<|rS (LP (au.cells (au.mk (av.mk kA l.al.length kC))) 0 rfl jn rfl rfl rfl)<|rS (CL (wu l.al kA kC (by first|assumption|omega|(simp; done)|(simp; omega)) (by first|assumption|omega|(simp; done)|(simp; omega))) (ax 1 rfl rfl<|ay) rfl)<|rS (AG rfl) ?_
 refine RK hK4<|WS fun _ hK5=>rS (MV rfl)<|rS (BI rfl dB)<|RK hK5 ?_
 refine bj rfl (fun h10=>?_) (fun h10=>?_)
 ·replace h10:=XT h10
  refine WS fun _ hK6=>rS (MV rfl)<|rS (AG rfl)<|RK hK6<|aE<|Q1 hQ rfl rfl rfl ?_
  first|(refine congrArg (Value.int .i64) ?_; rw [(g7 h10).2,iR (g7 h10).1])|exact congrArg (Value.int .i64) (dA htr fun h=>absurd h.head (by assumption)).symm|exact congrArg (Value.int .i64) (dA htr fun h=>absurd h.clock (by assumption)).symm|exact congrArg (Value.int .i64) (dA htr fun h=>absurd h.jT (by assumption)).symm|exact congrArg (Value.int .i64) (dA htr fun h=>absurd h.tx (by assumption)).symm|exact congrArg (Value.int .i64) (jP htr (eG (by assumption) (by assumption) (by assumption) (by assumption))).symm
 replace h10:=XF h10
 refine WK hK3<|aq fun _ hK7=>WS fun _ hK8=>?_
 have htr:=xJ h10
 refine rS (CL Eu (ay) rfl)<|rS (MV rfl)<|RK hK8<|aG<|pZ 5<|kJ fun R9 hR9=>WS fun _ hK10=>rS (SX (fK (r:= .bool true) rfl rfl rfl cv) rfl rfl)<|RK hK10<|aq fun _ hK11=>?_
 refine aX rfl<|WK hK11<|aq fun _ hK12=>aG<|WS fun _ hK13=>rS (SX (qa (vs:=(cW.cells (cW.mk (Value.func (.func 106) [].toArray [].toArray)))) 0 rfl rfl rfl yi vT rfl (by decide) rfl) rfl rfl)<|AL rfl yu fun b14=>fO rfl yb rfl<|RK hK13<|WS fun _ hK15=>?_
 refine rS (FA 0 rfl rF rfl)<|rS (L1 (Value.func (.func 106) [].toArray [].toArray) 0 rfl CV rfl rfl)<|rS (LW 1 rfl eO rfl rfl)<|rS (CL (Eo l kA kC az cA cC bA bC hin) (ax 2 rfl rfl<|ax 3 rfl rfl<|ax 4 rfl rfl<|ax 5 rfl rfl<|ay) rfl)<|rS (NT rfl)<|RK hK15 ?_
 refine bj rfl (fun h16=>?_) (fun h16=>?_)
 ·replace h16:=XT h16
  refine WS fun _ hK17=>rS (AG rfl)<|RK hK17<|aE<|Q1 hQ rfl rfl rfl ?_
  first|(refine congrArg (Value.int .i64) ?_; rw [(g7 h10).2,iR (g7 h10).1])|exact congrArg (Value.int .i64) (dA htr fun h=>absurd h.head (by assumption)).symm|exact congrArg (Value.int .i64) (dA htr fun h=>absurd h.clock (by assumption)).symm|exact congrArg (Value.int .i64) (dA htr fun h=>absurd h.jT (by assumption)).symm|exact congrArg (Value.int .i64) (dA htr fun h=>absurd h.tx (by assumption)).symm|exact congrArg (Value.int .i64) (jP htr (eG (by assumption) (by assumption) (by assumption) (by assumption))).symm
 replace h16:=XF h16
 refine cM<|aK<|KK hK12<|ar<|rS (SX (fK (r:= .int .i64 1) rfl rfl rfl (aZ ⟨by decide,by decide⟩)) rfl rfl)<|rS (MV rfl)<|RK hR9<|kJ fun R18 hR18=>WS fun _ hK19=>rS (SX (fK (r:= .bool true) rfl rfl rfl cv) rfl rfl) ?_
 refine RK hK19<|aq fun _ hK20=>aX rfl<|WK hK20<|aq fun _ hK21=>aG<|WS fun _ hK22=>rS (SX (qa (vs:=(cW.cells (cW.mk (Value.func (.func 107) [].toArray [].toArray)))) 1 rfl rfl rfl yi vT rfl (by decide) rfl) rfl rfl)<|AL rfl yu fun b23=>fO rfl yb rfl ?_
 refine RK hK22<|WS fun _ hK24=>rS (FA 0 rfl rF rfl)<|rS (L1 (Value.func (.func 107) [].toArray [].toArray) 0 rfl CV rfl rfl)<|rS (LW 2 rfl eO rfl rfl)<|rS (CL (Eb l kA kC az cA cC bA bC hin) (ax 3 rfl rfl<|ax 4 rfl rfl<|ax 5 rfl rfl<|ax 6 rfl rfl<|ay) rfl)<|rS (NT rfl)<|RK hK24 ?_
 refine bj rfl (fun h25=>?_) (fun h25=>?_)
 ·replace h25:=XT h25
  refine WS fun _ hK26=>rS (AG rfl)<|RK hK26<|aE<|Q1 hQ rfl rfl rfl ?_
  first|(refine congrArg (Value.int .i64) ?_; rw [(g7 h10).2,iR (g7 h10).1])|exact congrArg (Value.int .i64) (dA htr fun h=>absurd h.head (by assumption)).symm|exact congrArg (Value.int .i64) (dA htr fun h=>absurd h.clock (by assumption)).symm|exact congrArg (Value.int .i64) (dA htr fun h=>absurd h.jT (by assumption)).symm|exact congrArg (Value.int .i64) (dA htr fun h=>absurd h.tx (by assumption)).symm|exact congrArg (Value.int .i64) (jP htr (eG (by assumption) (by assumption) (by assumption) (by assumption))).symm
 replace h25:=XF h25
 refine cM<|aK<|KK hK21<|ar<|rS (SX (fK (r:= .int .i64 2) rfl rfl rfl (aZ ⟨by decide,by decide⟩)) rfl rfl)<|rS (MV rfl)<|RK hR18<|kJ fun R27 hR27=>WS fun _ hK28=>rS (SX (fK (r:= .bool true) rfl rfl rfl cv) rfl rfl) ?_
 refine RK hK28<|aq fun _ hK29=>aX rfl<|WK hK29<|aq fun _ hK30=>aG<|WS fun _ hK31=>rS (SX (qa (vs:=(cW.cells (cW.mk (Value.func (.func 111) [].toArray [].toArray)))) 2 rfl rfl rfl yi vT rfl (by decide) rfl) rfl rfl)<|AL rfl yu fun b32=>fO rfl yb rfl ?_
 refine RK hK31<|WS fun _ hK33=>rS (FA 0 rfl rF rfl)<|rS (L1 (Value.func (.func 111) [].toArray [].toArray) 0 rfl CV rfl rfl)<|rS (LW 3 rfl eO rfl rfl)<|rS (CL (Ea l kA kC az cA cC bA bC hin (by first|assumption|omega|(simp; done)|(simp; omega))) (ax 4 rfl rfl<|ax 5 rfl rfl<|ax 6 rfl rfl<|ax 7 rfl rfl<|ay) rfl)<|rS (NT rfl)<|RK hK33 ?_
 refine bj rfl (fun h34=>?_) (fun h34=>?_)
 ·replace h34:=XT h34
  refine WS fun _ hK35=>rS (AG rfl)<|RK hK35<|aE<|Q1 hQ rfl rfl rfl ?_
  first|(refine congrArg (Value.int .i64) ?_; rw [(g7 h10).2,iR (g7 h10).1])|exact congrArg (Value.int .i64) (dA htr fun h=>absurd h.head (by assumption)).symm|exact congrArg (Value.int .i64) (dA htr fun h=>absurd h.clock (by assumption)).symm|exact congrArg (Value.int .i64) (dA htr fun h=>absurd h.jT (by assumption)).symm|exact congrArg (Value.int .i64) (dA htr fun h=>absurd h.tx (by assumption)).symm|exact congrArg (Value.int .i64) (jP htr (eG (by assumption) (by assumption) (by assumption) (by assumption))).symm
 replace h34:=XF h34
 refine cM<|aK<|KK hK30<|ar<|rS (SX (fK (r:= .int .i64 3) rfl rfl rfl (aZ ⟨by decide,by decide⟩)) rfl rfl)<|rS (MV rfl)<|RK hR27<|kJ fun R36 hR36=>WS fun _ hK37=>rS (SX (fK (r:= .bool true) rfl rfl rfl cv) rfl rfl) ?_
 refine RK hK37<|aq fun _ hK38=>aX rfl<|WK hK38<|aq fun _ hK39=>aG<|WS fun _ hK40=>rS (SX (qa (vs:=(cW.cells (cW.mk (Value.func (.func 114) [].toArray [].toArray)))) 3 rfl rfl rfl yi vT rfl (by decide) rfl) rfl rfl)<|AL rfl yu fun b41=>fO rfl yb rfl ?_
 refine RK hK40<|WS fun _ hK42=>rS (FA 0 rfl rF rfl)<|rS (L1 (Value.func (.func 114) [].toArray [].toArray) 0 rfl CV rfl rfl)<|rS (LW 4 rfl eO rfl rfl)<|rS (CL (EW l kA kC az cA cC bA bC hin (by first|assumption|omega|(simp; done)|(simp; omega)) (by first|assumption|omega|(simp; done)|(simp; omega))) (ax 5 rfl rfl<|ax 6 rfl rfl<|ax 7 rfl rfl<|ax 8 rfl rfl<|ay) rfl)<|rS (NT rfl)<|RK hK42 ?_
 refine bj rfl (fun h43=>?_) (fun h43=>?_)
 ·replace h43:=XT h43
  refine WS fun _ hK44=>rS (AG rfl)<|RK hK44<|aE<|Q1 hQ rfl rfl rfl ?_
  first|(refine congrArg (Value.int .i64) ?_; rw [(g7 h10).2,iR (g7 h10).1])|exact congrArg (Value.int .i64) (dA htr fun h=>absurd h.head (by assumption)).symm|exact congrArg (Value.int .i64) (dA htr fun h=>absurd h.clock (by assumption)).symm|exact congrArg (Value.int .i64) (dA htr fun h=>absurd h.jT (by assumption)).symm|exact congrArg (Value.int .i64) (dA htr fun h=>absurd h.tx (by assumption)).symm|exact congrArg (Value.int .i64) (jP htr (eG (by assumption) (by assumption) (by assumption) (by assumption))).symm
 replace h43:=XF h43
 refine cM<|aK<|KK hK39<|ar<|rS (SX (fK (r:= .int .i64 4) rfl rfl rfl (aZ ⟨by decide,by decide⟩)) rfl rfl)<|rS (MV rfl)<|RK hR36<|kJ fun R45 hR45=>WS fun _ hK46=>rS (SX (fK (r:= .bool false) rfl rfl rfl cv) rfl rfl) ?_
 refine RK hK46<|aq fun _ hK47=>bV rfl<|bE<|ai<|ai<|aH<|KK hK7<|WS fun _ hK48=>rS (AG rfl) ?_
 refine RK hK48<|aE<|Q1 hQ rfl rfl rfl ?_
 first|(refine congrArg (Value.int .i64) ?_; rw [(g7 h10).2,iR (g7 h10).1])|exact congrArg (Value.int .i64) (dA htr fun h=>absurd h.head (by assumption)).symm|exact congrArg (Value.int .i64) (dA htr fun h=>absurd h.clock (by assumption)).symm|exact congrArg (Value.int .i64) (dA htr fun h=>absurd h.jT (by assumption)).symm|exact congrArg (Value.int .i64) (dA htr fun h=>absurd h.tx (by assumption)).symm|exact congrArg (Value.int .i64) (jP htr (eG (by assumption) (by assumption) (by assumption) (by assumption))).symm
set_option maxRecDepth 100000 in
set_option maxHeartbeats 400000 in
theorem vf (lo:Int) (hi:Int) (f:Value) (p:Int→Bool) (X:aA) (r:Int) (hf: ∀ x0,0≤x0∧x0<hi→Ap Tryz.prog f [.int .i64 x0] [X] (.bool (p x0))) (hb:0≤lo∧lo≤r∧r≤hi∧hi≤100000000) (hno: ∀ x,lo≤x→x<r→p x=false) (hyes: ∀ x,r≤x→x<hi→p x=true):
 eH Tryz.prog 80 [(Value.int .i64 lo),(Value.int .i64 hi),f] [X] (Value.int .i64 r):=by
 refine bL Ho Tryz.func80 rfl rfl fun w0 Q hQ hN=>?_
 try dsimp only
 refine WS fun _ hK1=>rS (AG rfl)<|RK hK1<|aq fun _ hK2=>aG ?_
 have hinit:(lo≤lo∧lo≤r)∧(r≤hi∧hi≤hi):=by first|trivial|omega|(refine ⟨?_,?_⟩<;>first|trivial|omega|simp)
 refine cq (ι:={z:Int×Int // (lo≤z.1∧z.1≤r)∧(r≤z.2∧z.2≤hi)}) (fun z=>[(0,(Value.int .i64 z.1.1)),(1,(Value.int .i64 z.1.2)),(2,f)]) (fun z=>[X.ro]) (fun z=>(z.1.2-z.1.1).toNat) ⟨(lo,hi),hinit⟩ (an.cons rfl<|an.cons rfl<|an.cons rfl<|an.nil _) (fun w hs=>St.br [0] rfl rfl hs) ?_
 clear hinit
 rintro ⟨⟨a,b⟩,⟨hl0_0,hl0_1⟩⟩ J3 hJ3
 try dsimp only at hl0_0 hl0_1
 try dsimp only
 refine aq fun _ hK4=>WS fun _ hK5=>rS (MV rfl)<|rS (MV rfl)<|rS (BI rfl cv)<|RK hK5 ?_
 refine bj rfl (fun h6=>?_) (fun h6=>?_)
 rotate_left 1
 ·replace h6:=DF h6
  refine bE<|ai<|ai<|aH<|KK hK2<|WS fun _ hK9=>rS (MV rfl)<|rS (AG rfl)<|RK hK9<|aE ?_
  refine Q1 hQ rfl rfl rfl ?_
  exact congrArg (Value.int .i64) (by omega)
 replace h6:=DT h6
 refine WK hK4<|aG<|WS fun _ hK7=>rS (MV rfl)<|rS (MV rfl)<|rS (MV rfl)<|rS (BI rfl (da ⟨by omega,by omega⟩))<|rS (BI rfl (sP (by omega) (by omega) (by omega)))<|rS (BI rfl (aZ ⟨by omega,by omega⟩))<|rS (AG rfl) ?_
 refine RK hK7<|WS fun _ hK8=>rS (MV rfl)<|rS (MV rfl)<|rS (SX (qL rfl rfl rfl (hf (a+((b-a)/2)) (by omega)) (ax 0 rfl rfl<|ay)) rfl rfl)<|RK hK8 ?_
 refine bj rfl (fun hp=>?_) (fun hp=>?_)
 ·refine ar ?_
  refine rS (MV rfl)<|rS (AG rfl)<|aP<|aK ?_
  refine aO (hJ3 ⟨(a,(a+((b-a)/2))),(by dsimp only; rcases Int.lt_or_le (a+(b-a)/2) r with q|q; (have q2:=hno _ (by omega) q; first|(refine ⟨⟨by omega,by omega⟩,by omega,by omega⟩)|(rw [q2] at hp; cases hp)); (have q2:=hyes _ q (by omega); first|(refine ⟨⟨by omega,by omega⟩,by omega,by omega⟩)|(rw [q2] at hp; cases hp)))⟩ _ _ _ rfl (by simp only []; omega) (an.cons rfl<|an.cons rfl<|an.cons rfl<|an.nil _) (fun w hs=>St.br [0] rfl rfl hs))
 refine ar<|rS (MV rfl)<|rS (BI rfl (aZ ⟨by omega,by omega⟩))<|rS (AG rfl)<|aP<|aK ?_
 refine aO (hJ3 ⟨(((a+((b-a)/2))+1),b),(by dsimp only; rcases Int.lt_or_le (a+(b-a)/2) r with q|q; (have q2:=hno _ (by omega) q; first|(refine ⟨⟨by omega,by omega⟩,by omega,by omega⟩)|(rw [q2] at hp; cases hp)); (have q2:=hyes _ q (by omega); first|(refine ⟨⟨by omega,by omega⟩,by omega,by omega⟩)|(rw [q2] at hp; cases hp)))⟩ _ _ _ rfl (by simp only []; omega) (an.cons rfl<|an.cons rfl<|an.cons rfl<|an.nil _) (fun w hs=>St.br [0] rfl rfl hs))
set_option maxRecDepth 100000 in
set_option maxHeartbeats 400000 in
theorem Bi (u:Int) (c:aj) (sA:Option Addr) (sC:Nat) (g1:Nat) (s:aw) (g2:Nat) (hc:dP c) (hu:0≤u∧u≤90000000):
 eH Tryz.prog 81 [(Value.int .i64 u),(Value.pointer (some ⟨g1,0,none⟩)),(Value.pointer (some ⟨g2,0,none⟩))] [(rd sA c.aB.length 3 (c.aB.map bD.cells)),(aT g1 63 (bO.cells (bO.mk c.bJ (av.mk sA c.aB.length sC)))),(aT g2 67 (aw.cells s))] (Value.bool (decide (s.Read≤u+(fx c u).Hi))):=by
 have hab:=nE hc hu
 refine bL Ie Tryz.func81 rfl rfl fun w0 Q hQ hN=>?_
 try dsimp only
 refine WS fun _ hK1=>rS (AG rfl)<|RK hK1<|aq fun _ hK2=>dm cG 10 (by kernel_rfl)<|dS (MV rfl)<|dS (Jp 1 rfl rq rfl rfl)<|dS (MV rfl)<|dS (CL (ym c sA sC u hc hu) (ax 0 rfl rfl<|ay) rfl)<|dS (SX (oB (v:=(Value.int .i64 ((fx c u).Hi))) rfl rfl cd Bj rfl) rfl rfl) ?_
 refine dS (BI rfl (aZ ⟨by omega,by omega⟩))<|dS (FA 1 rfl j7 rfl)<|dS (ny (Value.int .i64 s.Read) 2 rfl bu rfl rfl)<|dS (BI rfl kv)<|dS (AG rfl)<|cP<|RK hK2<|aE ?_
 exact Q1 hQ rfl rfl rfl rfl
set_option maxRecDepth 100000 in
set_option maxHeartbeats 400000 in
theorem Aw (u:Int) (c:aj) (sA:Option Addr) (sC:Nat) (g1:Nat) (s:aw) (g2:Nat) (hc:dP c) (hu:0≤u∧u≤90000000):
 eH Tryz.prog 82 [(Value.int .i64 u),(Value.pointer (some ⟨g1,0,none⟩)),(Value.pointer (some ⟨g2,0,none⟩))] [(rd sA c.aB.length 3 (c.aB.map bD.cells)),(aT g1 63 (bO.cells (bO.mk c.bJ (av.mk sA c.aB.length sC)))),(aT g2 67 (aw.cells s))] (Value.bool (decide (s.Read<u+(fx c u).Lo))):=by
 have hab:=nE hc hu
 refine bL He Tryz.func82 rfl rfl fun w0 Q hQ hN=>?_
 try dsimp only
 refine WS fun _ hK1=>rS (AG rfl)<|RK hK1<|aq fun _ hK2=>dm cG 10 (by kernel_rfl)<|dS (MV rfl)<|dS (Jp 1 rfl rq rfl rfl)<|dS (MV rfl)<|dS (CL (ym c sA sC u hc hu) (ax 0 rfl rfl<|ay) rfl)<|dS (SX (oB (v:=(Value.int .i64 ((fx c u).Lo))) rfl rfl bU Aq rfl) rfl rfl) ?_
 refine dS (BI rfl (aZ ⟨by omega,by omega⟩))<|dS (FA 1 rfl j7 rfl)<|dS (ny (Value.int .i64 s.Read) 2 rfl bu rfl rfl)<|dS (BI rfl fY)<|dS (AG rfl)<|cP<|RK hK2<|aE ?_
 exact Q1 hQ rfl rfl rfl rfl
set_option maxRecDepth 100000 in
set_option maxHeartbeats 400000 in
theorem uI (l:aU) (kA:Option Addr) (kC:Nat) (az:List RA) (cA:Option Addr) (cC:Nat) (bA:Option Addr) (bC:Nat) (s:aw) (hin:dC l az) (hok:kd l) (hs:(0≤s.cU∧s.cU≤(l.aa.length:Int)-1)∧0≤s.Read∧s.Read≤86400000):
 eH Tryz.prog 60 [(Value.agg (aF.cells (aF.mk (au.mk (av.mk kA l.al.length kC)) l.bw (av.mk cA l.ag.length cC) (av.mk bA l.aa.length bC) l.aD l.aV l.aJ)).toArray),(Value.agg (aw.cells s).toArray)] [(rd kA l.al.length 9 (l.al.map ah.cells)),(rd cA l.ag.length 2 (List.zipWith aj.cells l.ag az)),(cZ (aL aj.dX l.ag az)),(rd bA l.aa.length 4 (l.aa.map aY.cells))] (Value.agg (ae.cells (bT l s)).toArray):=by
 have htk:=hin.nm
 have hck:=hin.nv
 have has:=hin.m_
 have hbm:=hin.nd
 refine bL Jd Tryz.func60 rfl rfl fun w0 Q hQ hN=>?_
 try dsimp only
 refine WS fun _ hK1=>fy rfl fun b2=>fy rfl fun b3=>AL rfl dF fun b4=>RK hK1<|aq fun _ hK5=>er cG [0,1,2,3,4,5,6,7,8,9,10] [11,12] [false,false,false,false,false,false,false,false,false,false,false] [false,false] [(aT b4 47 (ae.cells (ae.mk 0 0))),(aT b3 67 (aw.cells s)),(aT b2 28 (aF.cells (aF.mk (au.mk (av.mk kA l.al.length kC)) l.bw (av.mk cA l.ag.length cC) (av.mk bA l.aa.length bC) l.aD l.aV l.aJ))),(rd kA l.al.length 9 (l.al.map ah.cells)).ro,(rd cA l.ag.length 2 (List.zipWith aj.cells l.ag az)).ro,(cZ (aL aj.dX l.ag az)).ro,(rd bA l.aa.length 4 (l.aa.map aY.cells)).ro] [] (by kernel_rfl) (fun w hs=>St.br [0,1,2,3,4,5,6] rfl rfl hs) (fun w hs=>St.br [] rfl rfl hs)<|eS rfl (FA 2 rfl gu rfl)<|eS rfl (L1 (Value.slice cA l.ag.length cC) 2 rfl lE rfl rfl)<|eS rfl (FA 3 rfl dy rfl) ?_
 refine eS rfl (L1 (Value.slice bA l.aa.length bC) 2 rfl g3 rfl rfl)<|eS rfl (FA 0 rfl gr rfl)<|eS rfl (L1 (Value.int .i64 s.cU) 1 rfl bu rfl rfl) ?_
 obtain ⟨y,hy⟩: ∃ y_,l.aa[(s.cU).toNat]? =some y_:=⟨l.aa[(s.cU).toNat]'(by omega),List.getElem?_eq_getElem _⟩
 have hym:(l.aa.map aY.cells)[(s.cU).toNat]? =some (aY.cells y):=by rw [List.getElem?_map,hy]; rfl
 refine eS rfl (IA ((s.cU).toNat) rfl (aI 6 rfl) qu (by decide) (by omega) (by omega))<|eS rfl (ou ((((s.cU).toNat)*4)+3) rfl (aI 6 rfl) (Nat.mul_pos (by omega) (by decide)) rv rfl)<|eS rfl (iX ((s.cU).toNat) 3 (Value.int .i64 y.gk) rfl bu (aI 6 rfl) hym rfl (by decide) rfl) ?_
 have hyb:=(hok.jT _ (List.mem_of_getElem? hy)).2
 obtain ⟨x,hx⟩: ∃ y_,l.ag[(y.gk).toNat]? =some y_:=⟨l.ag[(y.gk).toNat]'(by omega),List.getElem?_eq_getElem _⟩
 obtain ⟨xa,hxa⟩: ∃ y_,az[(y.gk).toNat]? =some y_:=⟨az[(y.gk).toNat]'(by omega),List.getElem?_eq_getElem _⟩
 have hxm:(List.zipWith aj.cells l.ag az)[(y.gk).toNat]? =some (aj.cells x xa):=gM hx hxa
 refine eS rfl (IA ((y.gk).toNat) rfl (aI 4 rfl) tI (by decide) (by omega) (by omega))<|eS rfl (lF ((y.gk).toNat) 0 (bO.cells (bO.mk x.bJ (av.mk xa.1 x.aB.length xa.2))) rfl rq (aI 4 rfl) hxm rfl (by decide) rfl rfl)<|fw rfl<|cL rfl fun T6 hT6=>AL rfl yW fun b7=>RN hT6 [1,2,3,4,5,6,7] rfl rfl<|cL rfl fun T8 hT8=>fO rfl zr rfl<|RN hT8 [1,2,3,4,5,6,7] rfl rfl<|g_ rfl ?_
 refine KK hK5<|WS fun _ hK9=>?_
 have hxo:=hok.clock _ (List.mem_of_getElem? hx)
 have hfl:=gI (p:=eT x s.Read) (n:=86400001)
 have hfh:=gI (p:=eQ x s.Read) (n:=86400001)
 refine rS (FU rfl)<|rS (CL (vf 0 86400001 (Value.func (.func 81) [].toArray [(Value.pointer (some ⟨b7,0,none⟩)),(Value.pointer (some ⟨b3,0,none⟩))].toArray) (fun u10=>(decide (s.Read≤u10+(fx x u10).Hi))) (cZ [(rd xa.1 x.aB.length 3 (x.aB.map bD.cells)),(aT b7 63 (bO.cells (bO.mk x.bJ (av.mk xa.1 x.aB.length xa.2)))),(aT b3 67 (aw.cells s))]) (dN (eT x s.Read) 86400001) (by intro u10 _; exact nG (fi:=[]) (ca:=[(Value.pointer (some ⟨b7,0,none⟩)),(Value.pointer (some ⟨b3,0,none⟩))]) (mF (Bi u10 x xa.1 xa.2 b7 s b3 (by first|assumption|omega) (by first|assumption|omega)) (G9 0 1 2 rfl rfl rfl rfl rfl rfl))) (by first|assumption|omega|(simp; done)|(simp; omega)) (by intro z h0 hz; exact (jz hxo h0 (by omega)).1 hz) (by intro z hz h1; exact (jz hxo (by omega) h1).2.1 hz)) (aM (mW (aM (show jS _ (rd xa.1 x.aB.length 3 (x.aB.map bD.cells)).holds from (eM 6 rfl (dc hx hxa (by simp [aj.dX]))))<|ax 0 rfl rfl<|ax 2 rfl rfl<|ay))<|ay) rfl)<|rS (FU rfl)<|rS (CL (vf 0 86400001 (Value.func (.func 82) [].toArray [(Value.pointer (some ⟨b7,0,none⟩)),(Value.pointer (some ⟨b3,0,none⟩))].toArray) (fun u11=>(decide (s.Read<u11+(fx x u11).Lo))) (cZ [(rd xa.1 x.aB.length 3 (x.aB.map bD.cells)),(aT b7 63 (bO.cells (bO.mk x.bJ (av.mk xa.1 x.aB.length xa.2)))),(aT b3 67 (aw.cells s))]) (dN (eQ x s.Read) 86400001) (by intro u11 _; exact nG (fi:=[]) (ca:=[(Value.pointer (some ⟨b7,0,none⟩)),(Value.pointer (some ⟨b3,0,none⟩))]) (mF (Aw u11 x xa.1 xa.2 b7 s b3 (by first|assumption|omega) (by first|assumption|omega)) (G9 0 1 2 rfl rfl rfl rfl rfl rfl))) (by first|assumption|omega|(simp; done)|(simp; omega)) (by intro z h0 hz; exact (jz hxo h0 (by omega)).2.2.1 hz) (by intro z hz h1; exact (jz hxo (by omega) h1).2.2.2 hz)) (aM (mW (aM (show jS _ (rd xa.1 x.aB.length 3 (x.aB.map bD.cells)).holds from (eM 6 rfl (dc hx hxa (by simp [aj.dX]))))<|ax 0 rfl rfl<|ax 2 rfl rfl<|ay))<|ay) rfl)<|rS (BI rfl (da ⟨by omega,by omega⟩))<|rS (SX (bp (xs:=[(0,.tmp 18),(1,.tmp 21)]) (cs:=(ae.cells (ae.mk (dN (eT x s.Read) 86400001) ((dN (eQ x s.Read) 86400001)-1)))) rfl rfl (bq fI rfl)) rfl rfl)<|nk rfl cK rfl<|RK hK9<|aE ?_
 refine hQ _ _ _ (bB (vs:=[(Value.agg (ae.cells (ae.mk (dN (eT x s.Read) 86400001) ((dN (eQ x s.Read) 86400001)-1))).toArray)]) ⟨⟨_,rfl,.inl ⟨_,_,cp,cy (vs:=(ae.cells (ae.mk (dN (eT x s.Read) 86400001) ((dN (eQ x s.Read) 86400001)-1)))) 1 rfl rfl,rfl,rfl⟩⟩,trivial⟩ fun w hs=>fq ?_ hs)
 show (Value.agg (ae.cells (ae.mk (dN (eT x s.Read) 86400001) ((dN (eQ x s.Read) 86400001)-1))).toArray)=(Value.agg (ae.cells (bT l s)).toArray)
 clear hs w hQ hN hK9 hT8 T8 hT6 T6 hK5 hK1
 unfold bT vv; rw [sY hy hx]
end
section
open Go.RowKit
set_option linter.unusedVariables false
set_option maxRecDepth 100000 in
set_option maxHeartbeats 400000 in
theorem oT (ln:aF) (ri:aS) (e:List Int) (tms:List TM) (e_A:Option Addr) (e_C:Nat) (tb:List Nat) (t_A:Option Addr) (t_C:Nat) (fA:Option Addr) (fN:Nat) (fC:Nat) (bA:Option Addr) (bN:Nat) (bC:Nat) (gw:Nat) (b:Nat) (g1:Nat) (g2:Nat) (hb:b<tms.length) (htb:tb.length=tms.length):
 CB Tryz.prog 87 [] [(Value.pointer (some ⟨g1,0,none⟩)),(Value.pointer (some ⟨g2,0,none⟩))] [(rd e_A e.length 1 (e.map iC)),(rd t_A tms.length 1 (List.zipWith cl tms tb)),(cZ (aL ib tms tb)),(aT gw 117 (aN.cells (aN.mk ln ri (av.mk e_A e.length e_C) (av.mk t_A tms.length t_C) (av.mk fA fN fC) (av.mk bA bN bC)))),(aT g1 77 [(Value.pointer (some ⟨gw,0,none⟩))]),(aT g2 3 [(Value.int .i64 ((b:Nat):Int))])] ([]:List (Int×ae)) (fun ys x ys'=> ∃ o,o∈gj (bP ln ri e tms) b∧x=Dl o∧ys'=ys++[o]) (fun ys=> ∀ o∈gj (bP ln ri e tms) b,o∈ys):=by
 refine ye Ik Tryz.func87 rfl rfl fun l J Z A0 w0 Q hY hJ0 hF0 hQ hN=>?_
 try dsimp only
 refine aq fun _ hK1=>aq fun _ hK2=>dm cG 12 (by kernel_rfl)<|dS (MV rfl)<|dS (tS 5 rfl jJ rfl)<|dS (SX (cx rfl rfl) rfl rfl)<|dS (FA 7 rfl oI rfl)<|dS (FA 7 rfl jr rfl)<|dS (ny (Value.int .i64 ri.Start) 4 rfl bu rfl rfl)<|dS (tS 5 rfl jJ rfl) ?_
 refine dS (SX (cx rfl rfl) rfl rfl)<|dS (FA 7 rfl oI rfl)<|dS (FA 8 rfl lY rfl)<|dS (ny (Value.int .i64 ri.cI) 4 rfl bu rfl rfl)<|dS (SX (bp (xs:=[(0,.tmp 11),(1,.tmp 16)]) (cs:=(ae.cells (ae.mk ri.Start ri.cI))) rfl rfl (bq fI rfl)) rfl rfl)<|cP ?_
 refine sw (k:=([]:List (Int×ae))) (k':=(([]:List (Int×ae))++[((-1),(ae.mk ri.Start ri.cI))])) 0 (by first|exact hsz|exact Nat.le_refl _) hY hJ0 hF0 rfl rfl rfl (by exact ⟨(-1,⟨ri.Start,ri.cI⟩),List.mem_cons_self ..,rfl,rfl⟩) rfl rfl (fun B3 hJ4 hF5=>?_) (fun B3 hJ4 hF5=>?_)
 rotate_left 1
 ·refine rS (NT rfl) ?_
  refine RK hK2<|aX rfl<|aE ?_
  refine hQ _ _ _ (bB (vs:=[]) trivial fun w hs=>Bz 0 rfl hJ4 hF5 hs)
 refine rS (NT rfl)<|RK hK2<|bV rfl<|WK hK1<|aq fun _ hK6=>dm cG 7 (by kernel_rfl)<|dS (tS 5 rfl jJ rfl)<|dS (SX (cx rfl rfl) rfl rfl)<|dS (FA 11 rfl mP rfl)<|dS (ny (Value.slice t_A tms.length t_C) 4 rfl tm rfl rfl) ?_
 refine dS (tS 6 rfl bu rfl) ?_
 obtain ⟨x,hx⟩: ∃ y_,tms[b]? =some y_:=⟨tms[b]'(by omega),List.getElem?_eq_getElem _⟩
 obtain ⟨xa,hxa⟩: ∃ y_,tb[b]? =some y_:=⟨tb[b]'(by omega),List.getElem?_eq_getElem _⟩
 have hxm:(List.zipWith cl tms tb)[b]? =some (cl x xa):=gM hx hxa
 refine dS (IA b rfl (aI 2 rfl) rY (by decide) (by omega) (by omega))<|dS (iX b 0 (Value.map (some xa)) rfl tQ (aI 2 rfl) hxm rfl (by decide) rfl)<|cP<|mU (kV:=iV) (m:=bG lS x) 3 rfl rfl vC rfl ⟨⟨(kD iV xa (bG lS x)),(dc hx hxa (by simp [ib])),rfl⟩,fun h=>h⟩ (show jS _ (kD iV xa (bG lS x)).holds from eM 3 rfl (dc hx hxa (by simp [ib]))) rfl fun r7=>?_
 try dsimp only
 refine RK hK6<|aG ?_
 have hinit:(∀ o∈x,o∈x∨o∈(([]:List (Int×ae))++[((-1),(ae.mk ri.Start ri.cI))]))∧(∀ o∈x,o∈x)∧(J (([]:List (Int×ae))++[((-1),(ae.mk ri.Start ri.cI))]) B3)∧(Fo A0 w0 B3)∧((-1,(⟨ri.Start,ri.cI⟩:ae))∈(([]:List (Int×ae))++[((-1),(ae.mk ri.Start ri.cI))])):=by exact ⟨fun o ho=> .inl ho,fun o ho=>ho,by assumption,by assumption,by simp⟩
 refine cq (ι:={z:TM×(List (Int×ae))×aA // (∀ o∈x,o∈z.1∨o∈z.2.1)∧(∀ o∈z.1,o∈x)∧(J z.2.1 z.2.2)∧(Fo A0 w0 z.2.2)∧((-1,(⟨ri.Start,ri.cI⟩:ae))∈z.2.1)}) (fun z=>[(0,(Value.func (.yield l) #[] #[])),(1,(Value.pointer (some ⟨g1,0,none⟩))),(2,(Value.pointer (some ⟨g2,0,none⟩))),(27,(Value.pointer (some ⟨r7,0,none⟩)))]) (fun z=>[(pv iV r7 xa (bG lS x) (bG lS z.1.1) none),z.1.2.2,(rd e_A e.length 1 (e.map iC)).ro,(rd t_A tms.length 1 (List.zipWith cl tms tb)).ro,(cZ (aL ib tms tb)).ro,(aT g1 77 [(Value.pointer (some ⟨gw,0,none⟩))]).ro,(aT g2 3 [(Value.int .i64 ((b:Nat):Int))]).ro]) (fun z=>z.1.1.length) ⟨(x,(([]:List (Int×ae))++[((-1),(ae.mk ri.Start ri.cI))]),B3),hinit⟩ (an.cons rfl<|an.cons rfl<|an.cons rfl<|an.cons rfl<|an.nil _) (fun w hs=>St.br [0,1,2,3,4,6,7] rfl rfl hs) ?_
 clear hinit
 rintro ⟨⟨left,ys,A⟩,⟨hl2_0,hl2_1,hl2_2,hl2_3,hl2_4⟩⟩ J8 hJ8
 try dsimp only at hl2_0 hl2_1 hl2_2 hl2_3 hl2_4
 try dsimp only
 refine WS fun _ hK9=>?_
 refine lH (ku qY).inj (f:=lS) 0 rfl rfl rfl rfl (fun h28=>?_) (fun i z hm hn=>?_)
 ·refine rS (EX rfl) ?_
  refine RK hK9<|aq fun _ hK10=>bV rfl<|bE<|ai<|ai<|aH ?_
  refine hN _ _ _ (bB (vs:=[]) trivial fun w hs=>F2 1 rfl (by exact zp hx hl2_0 h28 hl2_4) hl2_2 hl2_3 hs)
 try dsimp only
 refine rS (EX rfl)<|RK hK9<|aq fun _ hK11=>aX rfl<|WK hK11<|aG<|WS fun _ hK12=>rS (SX (lL 0 rfl rfl rfl) rfl rfl)<|rS (EX rfl)<|rS (EX rfl) ?_
 refine AL rfl dF fun b13=>rS (AG rfl)<|fO rfl cK rfl<|RK hK12<|WS fun _ hK14=>rS (MV rfl)<|rS (MV rfl)<|rS (LW 0 rfl cp rfl rfl) ?_
 refine sw (k:=ys) (k':=(ys++[(i,z)])) 2 (by first|exact hsz|exact Nat.le_refl _) hY hl2_2 hl2_3 rfl rfl rfl (by exact ⟨(i,z),(sj hx).2 (.inr (hl2_1 _ hm)),rfl,rfl⟩) rfl rfl (fun B15 hJ16 hF17=>?_) (fun B15 hJ16 hF17=>?_)
 rotate_left 1
 ·refine rS (NT rfl) ?_
  refine RK hK14<|aX rfl<|aE ?_
  refine hQ _ _ _ (bB (vs:=[]) trivial fun w hs=>Bz 2 rfl hJ16 hF17 hs)
 refine rS (NT rfl)<|RK hK14<|bV rfl<|cM<|aK<|n7 (C':=[(aT b13 47 (ae.cells z)),(pv iV r7 xa (bG lS x) (bG lS (cV left i)) none),B15,(rd e_A e.length 1 (e.map iC)).ro,(rd t_A tms.length 1 (List.zipWith cl tms tb)).ro,(cZ (aL ib tms tb)).ro,(aT g1 77 [(Value.pointer (some ⟨gw,0,none⟩))]).ro,(aT g2 3 [(Value.int .i64 ((b:Nat):Int))]).ro]) 1 rfl mm rfl ?_
 refine aO (hJ8 ⟨((cV left i),(ys++[(i,z)]),B15),⟨zi hn hm hl2_0,kB hl2_1,by assumption,by assumption,by simp [hl2_4]⟩⟩ _ _ _ rfl (jG hm) (an.cons rfl<|an.cons rfl<|an.cons rfl<|an.cons rfl<|an.nil _) (fun w hs=>St.br [1,2,3,4,5,6,7] rfl rfl hs))
set_option maxRecDepth 100000 in
set_option maxHeartbeats 400000 in
theorem qB (gw:Nat) (b:Nat):
 rp Tryz.prog 68 [(Value.pointer (some ⟨gw,0,none⟩)),(Value.int .i64 ((b:Nat):Int))] [] (fun (x:Nat×Nat)=>(Value.func (.func 87) [].toArray [(Value.pointer (some ⟨x.1,0,none⟩)),(Value.pointer (some ⟨x.2,0,none⟩))].toArray)) (fun (x:Nat×Nat)=>True) (fun (x:Nat×Nat)=>[(aT x.1 77 [(Value.pointer (some ⟨gw,0,none⟩))]),(aT x.2 3 [(Value.int .i64 ((b:Nat):Int))])]):=by
 refine gp Jk Tryz.func68 rfl rfl fun w0 Q hQ hN=>?_
 try dsimp only
 refine WS fun _ hK1=>yn rfl rfl fun b2=>yn rfl rfl fun b3=>rS (AG rfl)<|RK hK1<|WS fun _ hK4=>rS (FU rfl)<|rS (AG rfl)<|RK hK4<|aE ?_
 refine hQ _ _ _ (bB (vs:=[(Value.func (.func 87) [].toArray [(Value.pointer (some ⟨b2,0,none⟩)),(Value.pointer (some ⟨b3,0,none⟩))].toArray)]) ⟨rfl,trivial⟩ fun w hs=>fB (b2,b3) [1,0] ?_ ?_ rfl rfl rfl hs)
 ·rfl
 ·trivial
set_option maxRecDepth 100000 in
set_option maxHeartbeats 400000 in
theorem th (gw:Nat) (b:Nat):
 rp Tryz.prog 40 [(Value.pointer (some ⟨gw,0,none⟩)),(Value.int .i64 ((b:Nat):Int))] [] (fun (x:Nat×Nat)=>(Value.func (.func 67) [].toArray [(Value.pointer (some ⟨x.1,0,none⟩)),(Value.pointer (some ⟨x.2,0,none⟩))].toArray)) (fun (x:Nat×Nat)=>True) (fun (x:Nat×Nat)=>[(aT x.1 77 [(Value.pointer (some ⟨gw,0,none⟩))]),(aT x.2 3 [(Value.int .i64 ((b:Nat):Int))])]):=by
 refine gp Hn Tryz.func40 rfl rfl fun w0 Q hQ hN=>?_
 try dsimp only
 refine WS fun _ hK1=>yn rfl rfl fun b2=>yn rfl rfl fun b3=>rS (AG rfl)<|RK hK1<|WS fun _ hK4=>rS (FU rfl)<|rS (AG rfl)<|RK hK4<|aE ?_
 refine hQ _ _ _ (bB (vs:=[(Value.func (.func 67) [].toArray [(Value.pointer (some ⟨b2,0,none⟩)),(Value.pointer (some ⟨b3,0,none⟩))].toArray)]) ⟨rfl,trivial⟩ fun w hs=>fB (b2,b3) [1,0] ?_ ?_ rfl rfl rfl hs)
 ·rfl
 ·trivial
end
section
open Go.RowKit
set_option linter.unusedVariables false
set_option maxRecDepth 100000 in
set_option maxHeartbeats 1600000 in
theorem vq (ln:aF) (ri:aS) (e:List Int) (tms:List TM) (e_A:Option Addr) (e_C:Nat) (tb:List Nat) (t_A:Option Addr) (t_C:Nat) (gw:Nat) (hw:zV (bP ln ri e tms)) (hn:ln.aa.n=e.length) (htb:tb.length=tms.length):
 CY Tryz.prog 61 [(Value.pointer (some ⟨gw,0,none⟩))] [(rd e_A e.length 1 (e.map iC)),(rd t_A tms.length 1 (List.zipWith cl tms tb)),(cZ (aL ib tms tb))] (aT gw 117 (aN.cells (aN.mk ln ri (av.mk e_A e.length e_C) (av.mk t_A tms.length t_C) (av.mk none 0 0) (av.mk none 0 0)))) (fun (x:(List FM)×(List Nat)×(Option Addr)×Nat×(List FM)×(List Nat)×(Option Addr)×Nat)=>(Value.tuple [].toArray)) (fun (x:(List FM)×(List Nat)×(Option Addr)×Nat×(List FM)×(List Nat)×(Option Addr)×Nat)=>qZ (bP ln ri e tms) x.1∧oZ (bP ln ri e tms) x.2.2.2.2.1∧x.2.1.length=x.1.length∧x.2.2.2.2.2.1.length=x.2.2.2.2.1.length) (fun (x:(List FM)×(List Nat)×(Option Addr)×Nat×(List FM)×(List Nat)×(Option Addr)×Nat)=>(a5 [(aT gw 117 (aN.cells (aN.mk ln ri (av.mk e_A e.length e_C) (av.mk t_A tms.length t_C) (av.mk x.2.2.1 x.1.length x.2.2.2.1) (av.mk x.2.2.2.2.2.2.1 x.2.2.2.2.1.length x.2.2.2.2.2.2.2)))),(own x.2.2.1 x.2.2.2.1 122 1 (List.zipWith cl x.1 x.2.1)),(a5 (aL fW x.1 x.2.1)),(own x.2.2.2.2.2.2.1 x.2.2.2.2.2.2.2 122 1 (List.zipWith cl x.2.2.2.2.1 x.2.2.2.2.2.1)),(a5 (aL fW x.2.2.2.2.1 x.2.2.2.2.2.1))])):=by
 have hw6:e.length≤6:=hw.n
 have hwt:tms.length=e.length:=hw.times
 refine sM Iy Tryz.func61 rfl rfl fun w0 Q hQ hN=>?_
 try dsimp only
 refine WS fun _ hK1=>yn rfl rfl fun b2=>RK hK1<|WS fun _ hK3=>rS (j8 0 rfl jJ rfl)<|rS (SX (cx rfl rfl) rfl rfl)<|rS (FA 0 rfl rD rfl)<|rS (FA 3 rfl dy rfl)<|rS (L1 (Value.slice ln.aa.a ln.aa.n ln.aa.c) 1 rfl g3 rfl rfl)<|rS (LN rfl jL) ?_
 refine rS (AG rfl)<|RK hK3 ?_
 refine mT (ι:={z:(Option Addr)×(Option Addr) // True}) (fun z=>[(0,(Value.pointer (some ⟨gw,0,none⟩))),(1,(Value.pointer (some ⟨b2,0,none⟩))),(2,(Value.int .i64 ((ln.aa.n:Nat):Int)))]) (fun z=>[(own z.1.1 (ln.aa.n+1) 122 1 (List.map oC (List.replicate (ln.aa.n+1) (none:Option Nat)))),(own z.1.2 (ln.aa.n+1) 122 1 (List.map oC (List.replicate (ln.aa.n+1) (none:Option Nat)))),(aT b2 77 [(Value.pointer (some ⟨gw,0,none⟩))]),(aT gw 117 (aN.cells (aN.mk ln ri (av.mk e_A e.length e_C) (av.mk t_A tms.length t_C) (av.mk z.1.1 (ln.aa.n+1) (ln.aa.n+1)) (av.mk z.1.2 (ln.aa.n+1) (ln.aa.n+1))))),(rd e_A e.length 1 (e.map iC)).ro,(rd t_A tms.length 1 (List.zipWith cl tms tb)).ro,(cZ (aL ib tms tb)).ro]) ?_ fun K4 hK4=>?_
 ·rintro ⟨⟨fA,bA⟩,_⟩
  try dsimp only
  refine wb 3 rfl rfl fun wz Sz hz=>?_
  have hl0:(List.replicate (ln.aa.n+1) (none:Option Nat)).length=(ln.aa.n+1):=List.length_replicate
  try dsimp only
  refine mT (ι:={z:Nat // True}) (fun z=>[(0,(Value.pointer (some ⟨gw,0,none⟩))),(1,(Value.pointer (some ⟨b2,0,none⟩))),(2,(Value.int .i64 ((ln.aa.n:Nat):Int)))]) (fun z=>[(a5 (aL fW [[((ao.mk 0 0),ri.Start)]] [z.1])),(aT gw 117 (aN.cells (aN.mk ln ri (av.mk e_A e.length e_C) (av.mk t_A tms.length t_C) (av.mk fA (ln.aa.n+1) (ln.aa.n+1)) (av.mk bA (ln.aa.n+1) (ln.aa.n+1))))).ro,(own fA (ln.aa.n+1) 122 1 (List.map oC (cg [z.1] (ln.aa.n+1)))),(own bA (ln.aa.n+1) 122 1 (List.map oC (List.replicate (ln.aa.n+1) (none:Option Nat)))),(aT b2 77 [(Value.pointer (some ⟨gw,0,none⟩))]),(rd e_A e.length 1 (e.map iC)).ro,(rd t_A tms.length 1 (List.zipWith cl tms tb)).ro,(cZ (aL ib tms tb)).ro]) ?_ fun K5 hK5=>?_
  ·rintro ⟨ga,_⟩
   try dsimp only
   refine aq fun _ hK6=>WS fun _ hK7=>rS (MV rfl)<|rS (MV rfl)<|RK hK7<|aG<|nT ?_
   have hinit:(0≤ln.aa.n)∧(([[((ao.mk 0 0),ri.Start)]]).length=0+1)∧(([ga]).length=0+1)∧(nj (bP ln ri e tms) ([[((ao.mk 0 0),ri.Start)]])):=by exact ⟨Nat.zero_le _,rfl,rfl,nj.first⟩
   refine oj (ι:={z:Nat×(List FM)×(List Nat)×(List Nat) // (z.1≤ln.aa.n)∧(z.2.1.length=z.1+1)∧(z.2.2.1.length=z.1+1)∧(nj (bP ln ri e tms) z.2.1)}) (fun z=>z.1.2.2.2.map jD) (fun z=>[(0,(Value.pointer (some ⟨gw,0,none⟩))),(1,(Value.pointer (some ⟨b2,0,none⟩))),(2,(Value.int .i64 ((ln.aa.n:Nat):Int))),(52,(Value.int .i64 ((ln.aa.n:Nat):Int))),(53,(Value.int .i64 ((z.1.1:Nat):Int)))]) (fun z=>[(a5 (z.1.2.2.2.map gE)),(a5 (aL fW z.1.2.1 z.1.2.2.1)),(aT gw 117 (aN.cells (aN.mk ln ri (av.mk e_A e.length e_C) (av.mk t_A tms.length t_C) (av.mk fA (ln.aa.n+1) (ln.aa.n+1)) (av.mk bA (ln.aa.n+1) (ln.aa.n+1))))).ro,(own fA (ln.aa.n+1) 122 1 (List.map oC (cg z.1.2.2.1 (ln.aa.n+1)))),(own bA (ln.aa.n+1) 122 1 (List.map oC (List.replicate (ln.aa.n+1) (none:Option Nat)))),(aT b2 77 [(Value.pointer (some ⟨gw,0,none⟩))]),(rd e_A e.length 1 (e.map iC)).ro,(rd t_A tms.length 1 (List.zipWith cl tms tb)).ro,(cZ (aL ib tms tb)).ro]) (fun z=>ln.aa.n-z.1.1) ⟨(0,[[((ao.mk 0 0),ri.Start)]],[ga],([]:List Nat)),hinit⟩ rfl (an.cons rfl<|an.cons rfl<|an.cons rfl<|an.cons rfl<|an.cons rfl<|an.nil _) (fun w hs=>St.br [0,1,2,3,4,5,6,7,8] rfl rfl hs) ?_
   clear hinit
   rintro ⟨⟨b,fs,fb,rs5⟩,⟨hl5_0,hl5_1,hl5_2,hl5_3⟩⟩ J8 hJ8
   try dsimp only at hl5_0 hl5_1 hl5_2 hl5_3
   try dsimp only
   have hlf:(cg fb (ln.aa.n+1)).length=(ln.aa.n+1):=kS (by omega)
   refine WS fun _ hK9=>rS (BI rfl cv)<|RK hK9<|aq fun _ hK10=>?_
   refine bj rfl (fun h11=>?_) (fun h11=>?_)
   ·replace h11:=DT h11
    refine WK hK10<|aq fun _ hK12=>aG<|WS fun _ hK13=>rS (MV rfl)<|AL rfl lK fun b14=>BT rfl yN rfl rfl<|RK hK13<|aq fun _ hK15=>er cG [0,1,2,3,4,5,7] [6,8] [false,false,false,false,false,false,true] [true,false] [(aT b14 3 [(Value.int .i64 ((b:Nat):Int))]),(a5 (rs5.map gE)),(a5 (aL fW fs fb)),(aT gw 117 (aN.cells (aN.mk ln ri (av.mk e_A e.length e_C) (av.mk t_A tms.length t_C) (av.mk fA (ln.aa.n+1) (ln.aa.n+1)) (av.mk bA (ln.aa.n+1) (ln.aa.n+1))))).ro,(own bA (ln.aa.n+1) 122 1 (List.map oC (List.replicate (ln.aa.n+1) (none:Option Nat)))),(aT b2 77 [(Value.pointer (some ⟨gw,0,none⟩))]),(rd e_A e.length 1 (e.map iC)).ro,(rd t_A tms.length 1 (List.zipWith cl tms tb)).ro,(cZ (aL ib tms tb)).ro] [(aT b14 3 [(Value.int .i64 ((b:Nat):Int))]),(a5 (rs5.map gE)),(a5 (aL fW fs fb)),(aT gw 117 (aN.cells (aN.mk ln ri (av.mk e_A e.length e_C) (av.mk t_A tms.length t_C) (av.mk fA (ln.aa.n+1) (ln.aa.n+1)) (av.mk bA (ln.aa.n+1) (ln.aa.n+1))))).ro,(own fA (ln.aa.n+1) 122 1 (List.map oC (cg fb (ln.aa.n+1)))),(own bA (ln.aa.n+1) 122 1 (List.map oC (List.replicate (ln.aa.n+1) (none:Option Nat)))),(aT b2 77 [(Value.pointer (some ⟨gw,0,none⟩))]),(rd e_A e.length 1 (e.map iC)).ro,(rd t_A tms.length 1 (List.zipWith cl tms tb)).ro,(cZ (aL ib tms tb)).ro] (by kernel_rfl) (fun w hs=>St.br [0,1,2,3,5,6,7,8,9] rfl rfl hs) (fun w hs=>St.br [0,1,2,3,4,5,6,7,8,9] rfl rfl hs) ?_
    refine eS rfl (j8 5 rfl jJ rfl)<|eS rfl (SX (cx rfl rfl) rfl rfl)<|eS rfl (FA 12 rfl kL rfl)<|eS rfl (ny (Value.slice fA (ln.aa.n+1) (ln.aa.n+1)) 3 rfl kX rfl rfl)<|eS rfl (j8 0 rfl bu rfl)<|eS rfl (BI rfl (aZ ⟨by omega,by omega⟩)) ?_
    obtain ⟨x16,hx17⟩: ∃ y_,(cg fb (ln.aa.n+1))[(b+1)]? =some y_:=⟨(cg fb (ln.aa.n+1))[(b+1)]'(by omega),List.getElem?_eq_getElem _⟩
    have hx17m:(List.map oC (cg fb (ln.aa.n+1)))[(b+1)]? =some (oC x16):=by rw [List.getElem?_map,hx17]; rfl
    refine fS rfl (IA (b+1) rfl (aC (n:=(ln.aa.n+1)) 4 rfl (by first|(simp; done)|(simp; omega))) lI (by decide) (by omega) (by omega))<|fw rfl<|jm rfl fun T18 hT18=>ml (kV:=cm) rfl rfl fun b19=>?_
    try dsimp only
    refine aP (hT18 _ _ (fun w hs=>St.br [1,2,3,4,6,7,8,9,10] rfl rfl hs) (fun w hs=>St.br [1,2,3,4,5,6,7,8,9,10] rfl rfl hs) ?_)
    refine cL rfl fun T20 hT20=>?_
    have hb21:((cg fb (ln.aa.n+1)).set (b+1) (some b19))=(cg (fb++[b19]) (ln.aa.n+1)):=by exact oG (by omega) (by omega)
    refine fP (k:=(b+1)) (o:=0) (vs:=[(Value.map (some b19))]) (es':=(List.map oC (cg (fb++[b19]) (ln.aa.n+1)))) (C':=[_,_,_,_,_,(own fA (ln.aa.n+1) 122 1 (List.map oC (cg (fb++[b19]) (ln.aa.n+1)))),_,_,_,_,_]) 5 rfl rfl rfl AI rfl rfl rfl rfl hx17m rfl (by decide) (by exact (List.map_set (f:=oC) (l:=(cg fb (ln.aa.n+1))) (i:=(b+1)) (a:=(some b19))).symm.trans (congrArg _ hb21)) rfl<|RN hT20 [1,2,3,4,6,7,8,9,10] rfl rfl<|g_ rfl<|KK hK15<|aq fun _ hK22=>?_
    have hlq23:(cg (fb++[b19]) (ln.aa.n+1)).length=(ln.aa.n+1):=kS (by simp; omega)
    obtain ⟨mb,hmb⟩: ∃ y_,fs[b]? =some y_:=⟨fs[b]'(by omega),List.getElem?_eq_getElem _⟩
    obtain ⟨ga,hga⟩: ∃ y_,fb[b]? =some y_:=⟨fb[b]'(by omega),List.getElem?_eq_getElem _⟩
    refine tT 3 hmb hga rfl rfl rfl ?_
    try dsimp only
    refine dm cG 7 (by kernel_rfl)<|dS (j8 8 rfl jJ rfl)<|dS (SX (cx rfl rfl) rfl rfl)<|dS (FA 12 rfl kL rfl)<|dS (ny (Value.slice fA (ln.aa.n+1) (ln.aa.n+1)) 5 rfl kX rfl rfl)<|dS (j8 3 rfl bu rfl) ?_
    have hk24:(List.map oC (cg (fb++[b19]) (ln.aa.n+1)))[b]? =some (oC (some ga)):=nu (kr (Bh hga))
    refine dS (IA b rfl (aC (n:=(ln.aa.n+1)) 6 rfl (by first|(simp; done)|(simp; omega))) lI (by decide) (by omega) (by omega))<|dS (iX b 0 (Value.map (some ga)) rfl nt (aC (n:=(cg (fb++[b19]) (ln.aa.n+1)).length) 6 rfl (by simp)) hk24 rfl (by decide) rfl)<|cP<|qH 0 rfl rfl l5 rfl rfl fun r25=>?_
    try dsimp only
    refine RK hK22<|aG ?_
    have hinit:(∀ p∈mb,p∈mb)∧(rT (bP ln ri e tms) b ([]:FM))∧(iK (bP ln ri e tms) b mb ([]:FM) mb):=by exact ⟨fun p hp=>hp,rT.start,iK.start⟩
    refine oj (ι:={z:FM×FM×(List Nat) // (∀ p∈z.1,p∈mb)∧(rT (bP ln ri e tms) b z.2.1)∧(iK (bP ln ri e tms) b mb z.2.1 z.1)}) (fun z=>z.1.2.2.map jD) (fun z=>[(0,(Value.pointer (some ⟨gw,0,none⟩))),(1,(Value.pointer (some ⟨b2,0,none⟩))),(2,(Value.int .i64 ((ln.aa.n:Nat):Int))),(3,(Value.pointer (some ⟨b14,0,none⟩))),(52,(Value.int .i64 ((ln.aa.n:Nat):Int))),(53,(Value.int .i64 ((b:Nat):Int))),(71,(Value.pointer (some ⟨r25,0,none⟩)))]) (fun z=>[(rl cm r25 ga (bG iV mb) (bG iV z.1.1) none),(a5 (fD fW fs fb b)),(kD cm b19 (bG iV z.1.2.1)),(aT b14 3 [(Value.int .i64 ((b:Nat):Int))]),(a5 (z.1.2.2.map gE)),(aT gw 117 (aN.cells (aN.mk ln ri (av.mk e_A e.length e_C) (av.mk t_A tms.length t_C) (av.mk fA (ln.aa.n+1) (ln.aa.n+1)) (av.mk bA (ln.aa.n+1) (ln.aa.n+1))))).ro,(own fA (ln.aa.n+1) 122 1 (List.map oC (cg (fb++[b19]) (ln.aa.n+1)))),(own bA (ln.aa.n+1) 122 1 (List.map oC (List.replicate (ln.aa.n+1) (none:Option Nat)))),(aT b2 77 [(Value.pointer (some ⟨gw,0,none⟩))]),(rd e_A e.length 1 (e.map iC)).ro,(rd t_A tms.length 1 (List.zipWith cl tms tb)).ro,(cZ (aL ib tms tb)).ro]) (fun z=>z.1.1.length) ⟨(mb,([]:FM),rs5),hinit⟩ rfl (an.cons rfl<|an.cons rfl<|an.cons rfl<|an.cons rfl<|an.cons rfl<|an.cons rfl<|an.cons rfl<|an.nil _) (fun w hs=>St.br [0,1,2,3,4,5,6,7,8,9,10,11] rfl rfl hs) ?_
    clear hinit
    rintro ⟨⟨left,m,rs9⟩,⟨hl9_0,hl9_1,hl9_2⟩⟩ J26 hJ26
    try dsimp only at hl9_0 hl9_1 hl9_2
    try dsimp only
    refine WS fun _ hK27=>?_
    refine oU l4.inj (f:=iV) 0 rfl rfl rfl rfl (fun h72=>?_) (fun t v hm hnd=>?_)
    ·refine rS (EX rfl) ?_
     refine RK hK27<|aq fun _ hK28=>bV rfl<|bE<|ai<|ai<|aH<|aK<|KK hK12<|ar ?_
     refine rS (BI rfl (aZ ⟨by omega,by omega⟩))<|rS (MV rfl)<|aP<|n7 (C':=[(kD cm ga (bG iV mb)),(a5 (fD fW fs fb b)),(kD cm b19 (bG iV m)),(aT b14 3 [(Value.int .i64 ((b:Nat):Int))]),(a5 (rs9.map gE)),(aT gw 117 (aN.cells (aN.mk ln ri (av.mk e_A e.length e_C) (av.mk t_A tms.length t_C) (av.mk fA (ln.aa.n+1) (ln.aa.n+1)) (av.mk bA (ln.aa.n+1) (ln.aa.n+1))))).ro,(own fA (ln.aa.n+1) 122 1 (List.map oC (cg (fb++[b19]) (ln.aa.n+1)))),(own bA (ln.aa.n+1) 122 1 (List.map oC (List.replicate (ln.aa.n+1) (none:Option Nat)))),(aT b2 77 [(Value.pointer (some ⟨gw,0,none⟩))]),(rd e_A e.length 1 (e.map iC)).ro,(rd t_A tms.length 1 (List.zipWith cl tms tb)).ro,(cZ (aL ib tms tb)).ro]) 0 rfl Bq rfl<|BD 1 0 hmb hga rfl rfl rfl ?_
     try dsimp only
     refine wG (X':=aL fW (fs++[m]) (fb++[b19])) 0 1 rfl rfl (ub (by omega) rfl) ?_
     try dsimp only
     have hb29:(Value.int .i64 (((b+1):Nat):Int))=(Value.int .i64 (((b:Nat):Int)+1)):=by exact congrArg (Value.int .i64) (by omega)
     refine aO (hJ8 ⟨((b+1),(fs++[m]),(fb++[b19]),rs9),⟨by omega,by simp; omega,by simp; omega,hl5_3.add hl5_1 hmb hl9_1 hl9_2 h72⟩⟩ _ _ _ rfl (by first|omega|(simp; omega)) (an.cons rfl<|an.cons rfl<|an.cons rfl<|an.cons rfl<|aQ rfl hb29<|an.nil _) (fun w hs=>St.br [2,0,3,4,5,6,7,8,9] rfl rfl hs))
    try dsimp only
    refine rS (EX rfl)<|RK hK27<|aq fun _ hK30=>aX rfl<|WK hK30<|aG<|WS fun _ hK31=>rS (SX (o4 0 rfl rfl rfl) rfl rfl)<|rS (EX rfl)<|rS (EX rfl) ?_
    refine AL rfl pB fun b32=>AL rfl lK fun b33=>nk rfl oO rfl<|BT rfl yN rfl rfl<|RK hK31<|WS fun _ hK34=>rS (j8 10 rfl jJ rfl)<|rS (j8 5 rfl bu rfl)<|cX (qB gw b) (ay) rfl fun y35 hy36=>?_
    obtain ⟨x137,x238⟩:=y35
    try dsimp only
    refine RK hK34<|aG<|mh 13 rfl (by exact fun _ h=>h)<|mh 15 rfl (by exact fun _ h=>h)<|mh 17 rfl (by exact fun _ h=>h)<|mh 12 rfl (by exact fun _ h=>h) ?_
    refine mx (L0:=[(0,(Value.pointer (some ⟨gw,0,none⟩))),(1,(Value.pointer (some ⟨b2,0,none⟩))),(2,(Value.int .i64 ((ln.aa.n:Nat):Int))),(3,(Value.pointer (some ⟨b14,0,none⟩))),(4,(Value.pointer (some ⟨b32,0,none⟩))),(5,(Value.pointer (some ⟨b33,0,none⟩))),(52,(Value.int .i64 ((ln.aa.n:Nat):Int))),(53,(Value.int .i64 ((b:Nat):Int))),(71,(Value.pointer (some ⟨r25,0,none⟩)))]) (F:=[(rd e_A e.length 1 (e.map iC)).ro,(rd t_A tms.length 1 (List.zipWith cl tms tb)).ro,(cZ (aL ib tms tb)).ro,(aT gw 117 (aN.cells (aN.mk ln ri (av.mk e_A e.length e_C) (av.mk t_A tms.length t_C) (av.mk fA (ln.aa.n+1) (ln.aa.n+1)) (av.mk bA (ln.aa.n+1) (ln.aa.n+1))))).ro,(aT x137 77 [(Value.pointer (some ⟨gw,0,none⟩))]),(aT x238 3 [(Value.int .i64 ((b:Nat):Int))])]) (fun k (y:FM)=>(kZ (bP ln ri e tms) b mb left y (t,v) k)) (fun k y=>[(aT b33 3 [(Value.int .i64 v)]),(aT b32 124 (ao.cells t)),(rl cm r25 ga (bG iV mb) (bG iV (cV left t)) (some (t,(Value.int .i64 v)))),(a5 (fD fW fs fb b)),(kD cm b19 (bG iV y)),(aT b14 3 [(Value.int .i64 ((b:Nat):Int))]),(a5 (rs9.map gE)),(aT gw 117 (aN.cells (aN.mk ln ri (av.mk e_A e.length e_C) (av.mk t_A tms.length t_C) (av.mk fA (ln.aa.n+1) (ln.aa.n+1)) (av.mk bA (ln.aa.n+1) (ln.aa.n+1))))).ro,(own fA (ln.aa.n+1) 122 1 (List.map oC (cg (fb++[b19]) (ln.aa.n+1)))),(own bA (ln.aa.n+1) 122 1 (List.map oC (List.replicate (ln.aa.n+1) (none:Option Nat)))),(aT b2 77 [(Value.pointer (some ⟨gw,0,none⟩))]),(rd e_A e.length 1 (e.map iC)).ro,(rd t_A tms.length 1 (List.zipWith cl tms tb)).ro,(cZ (aL ib tms tb)).ro]) (fun _ (_:Unit)=>False) (fun _ _=>[]) [6,7,8,9,10,11,12,13,14,15,16,17,18,19] [3,2,1,0,4,5] m rfl rfl (oT ln ri e tms e_A e_C tb t_A t_C fA (ln.aa.n+1) (ln.aa.n+1) bA (ln.aa.n+1) (ln.aa.n+1) gw b x137 x238 (by omega) (by omega)) rfl rfl rfl (by exact kZ.start hl9_1 hl9_2) (by simp only [List.forall_mem_cons,List.not_mem_nil,false_imp_iff,implies_true,and_true]; exact ⟨⟨_,List.mem_of_getElem? (i:=0) rfl,(fM (ck _))⟩,⟨_,List.mem_of_getElem? (i:=1) rfl,(fM (ck _))⟩,⟨_,List.mem_of_getElem? (i:=2) rfl,(fM (ck _))⟩,⟨_,List.mem_of_getElem? (i:=3) rfl,(fM (ck _))⟩,⟨_,List.mem_of_getElem? (i:=4) rfl,(ck _)⟩,⟨_,List.mem_of_getElem? (i:=5) rfl,(ck _)⟩⟩) (by rintro k x k2 ⟨o,_,rfl,_⟩; rfl) rfl (an.cons rfl<|an.cons rfl<|an.cons rfl<|an.cons rfl<|an.cons rfl<|an.cons rfl<|an.cons rfl<|an.cons rfl<|an.cons rfl<|an.nil _) ?_ ?_ (fun _ _ _ h=>h.elim) (fun _ _ h=>h.elim)
    rotate_left 1
    ·rintro r53 k m2 hfin hin54
     have hr0:=hin54
     try dsimp only
     refine aK<|aK<|sE (X:=rs9.map gE) 13 0 rfl rfl ?_
     try dsimp only
     refine n7 (C':=[(a5 ((r53::rs9).map gE)),(rd e_A e.length 1 (e.map iC)).ro,(rd t_A tms.length 1 (List.zipWith cl tms tb)).ro,(cZ (aL ib tms tb)).ro,(aT gw 117 (aN.cells (aN.mk ln ri (av.mk e_A e.length e_C) (av.mk t_A tms.length t_C) (av.mk fA (ln.aa.n+1) (ln.aa.n+1)) (av.mk bA (ln.aa.n+1) (ln.aa.n+1))))).ro,(aT x137 77 [(Value.pointer (some ⟨gw,0,none⟩))]),(aT x238 3 [(Value.int .i64 ((b:Nat):Int))]),(aT b33 3 [(Value.int .i64 v)]),(aT b32 124 (ao.cells t)),(rl cm r25 ga (bG iV mb) (bG iV (cV left t)) none),(a5 (fD fW fs fb b)),(kD cm b19 (bG iV m2)),(aT b14 3 [(Value.int .i64 ((b:Nat):Int))]),(aT gw 117 (aN.cells (aN.mk ln ri (av.mk e_A e.length e_C) (av.mk t_A tms.length t_C) (av.mk fA (ln.aa.n+1) (ln.aa.n+1)) (av.mk bA (ln.aa.n+1) (ln.aa.n+1))))).ro,(own fA (ln.aa.n+1) 122 1 (List.map oC (cg (fb++[b19]) (ln.aa.n+1)))),(own bA (ln.aa.n+1) 122 1 (List.map oC (List.replicate (ln.aa.n+1) (none:Option Nat)))),(aT b2 77 [(Value.pointer (some ⟨gw,0,none⟩))]),(rd e_A e.length 1 (e.map iC)).ro,(rd t_A tms.length 1 (List.zipWith cl tms tb)).ro,(cZ (aL ib tms tb)).ro]) 9 rfl tk rfl ?_
     refine aO (hJ26 ⟨((cV left t),m2,(r53::rs9)),⟨kB hl9_0,hr0.on,hr0.next hnd hm hfin⟩⟩ _ _ _ rfl (jG hm) (an.cons rfl<|an.cons rfl<|an.cons rfl<|an.cons rfl<|an.cons rfl<|an.cons rfl<|an.cons rfl<|an.nil _) (fun w hs=>St.br [9,10,11,12,0,4,14,15,16,1,2,3] rfl rfl hs))
    rintro k x k2 m2 l ra rb S w1 K39 Qr40 hsz hx hin41 hK39 hQr40 xQr40 yQr40
    obtain ⟨o,ho,rfl,rfl⟩:=hx
    have hr0:=hin41
    try dsimp only
    refine WS fun _ hK42=>rS (AG rfl)<|RK hK42<|ar<|AL rfl dF fun b43=>fO rfl cK rfl<|aP<|e7 (fun _ _ h=>h) (fun w hs=>St.br [1,0,2,3,4,5,6,7,8,9,10,11,12,13,14,15] rfl rfl hs) ?_
    refine aO (hK39 _ _ ?_)
    refine aG<|aq fun _ hK44=>er cG [0,1,2,3,4,5,6,7,8,9,10,11,12,13,14,15,17] [16,18] [false,false,false,false,false,false,false,false,false,false,false,false,false,false,false,false,false] [false,false] [(iM l (.loop rb)),(aT b43 47 (ae.cells o.2)),(aT b33 3 [(Value.int .i64 v)]),(aT b32 124 (ao.cells t)),(rl cm r25 ga (bG iV mb) (bG iV (cV left t)) (some (t,(Value.int .i64 v)))),(a5 (fD fW fs fb b)),(kD cm b19 (bG iV m2)),(aT b14 3 [(Value.int .i64 ((b:Nat):Int))]),(a5 (rs9.map gE)),(aT gw 117 (aN.cells (aN.mk ln ri (av.mk e_A e.length e_C) (av.mk t_A tms.length t_C) (av.mk fA (ln.aa.n+1) (ln.aa.n+1)) (av.mk bA (ln.aa.n+1) (ln.aa.n+1))))).ro,(own fA (ln.aa.n+1) 122 1 (List.map oC (cg (fb++[b19]) (ln.aa.n+1)))),(own bA (ln.aa.n+1) 122 1 (List.map oC (List.replicate (ln.aa.n+1) (none:Option Nat)))),(aT b2 77 [(Value.pointer (some ⟨gw,0,none⟩))]),(rd e_A e.length 1 (e.map iC)).ro,(rd t_A tms.length 1 (List.zipWith cl tms tb)).ro,(cZ (aL ib tms tb)).ro] [] (by kernel_rfl) (fun w hs=>St.br [0,1,2,3,4,5,6,7,8,9,10,11,12,13,14,15] rfl rfl hs) (fun w hs=>St.br [] rfl rfl hs)<|eS rfl (j8 2 rfl bu rfl)<|eS rfl (j8 12 rfl jJ rfl)<|eS rfl (SX (cx rfl rfl) rfl rfl)<|eS rfl (FA 10 rfl m0 rfl)<|eS rfl (ny (Value.slice e_A e.length e_C) 9 rfl nZ rfl rfl)<|eS rfl (j8 7 rfl bu rfl) ?_
    obtain ⟨y,hy⟩: ∃ y_,e[b]? =some y_:=⟨e[b]'(by omega),List.getElem?_eq_getElem _⟩
    have hym:(e.map iC)[b]? =some (iC y):=by rw [List.getElem?_map,hy]; rfl
    refine eS rfl (IA b rfl (aI 13 rfl) dY (by decide) (by omega) (by omega))<|eS rfl (iX b 0 (Value.int .i64 y) rfl bu (aI 13 rfl) hym rfl (by decide) rfl) ?_
    have hlb:=hw.least y (List.mem_of_getElem? hy)
    have hp:=hl5_3.mem hmb (hl9_0 _ hm)
    have hfp:=Ar hw _ _ hp
    have ho1:=qw o.1
    have hob:=hw.opt ho
    have hnw:=hw.now
    dsimp only at hfp
    refine eS rfl (BI rfl (aZ ⟨by omega,by omega⟩))<|eS rfl (FA 0 rfl bU rfl)<|eS rfl (L1 (Value.int .i64 o.2.Lo) 1 rfl bu rfl rfl)<|eS rfl (MX rfl)<|eS rfl (LW 3 rfl k6 rfl rfl)<|eS rfl (MV rfl)<|eS rfl (CL (Bx o.1) (ay) rfl)<|eS rfl (CL (rN t (dQ o.1) (by first|assumption|omega|(simp; done)|(simp; omega)) (by first|assumption|omega|(simp; done)|(simp; omega))) (ay) rfl)<|eS rfl (AG rfl)<|fw rfl ?_
    refine cL rfl fun T45 hT45=>AL rfl pB fun b46=>RN hT45 [1,2,3,4,5,6,7,8,9,10,11,12,13,14,15,16] rfl rfl<|cL rfl fun T47 hT47=>fO rfl oO rfl<|RN hT47 [1,2,3,4,5,6,7,8,9,10,11,12,13,14,15,16] rfl rfl<|g_ rfl<|KK hK44<|aq fun _ hK48=>dm cG 15 (by kernel_rfl) ?_
    refine dS (j8 13 rfl jJ rfl)<|dS (SX (cx rfl rfl) rfl rfl)<|dS (FA 12 rfl kL rfl)<|dS (ny (Value.slice fA (ln.aa.n+1) (ln.aa.n+1)) 10 rfl kX rfl rfl)<|dS (j8 8 rfl bu rfl)<|dS (BI rfl (aZ ⟨by omega,by omega⟩)) ?_
    have hk49:(List.map oC (cg (fb++[b19]) (ln.aa.n+1)))[(b+1)]? =some (oC (some b19)):=nu (kr (uZ (by omega)))
    refine dS (IA (b+1) rfl (aC (n:=(ln.aa.n+1)) 11 rfl (by first|(simp; done)|(simp; omega))) lI (by decide) (by omega) (by omega))<|dS (iX (b+1) 0 (Value.map (some b19)) rfl nt (aC (n:=(cg (fb++[b19]) (ln.aa.n+1)).length) 11 rfl (by simp)) hk49 rfl (by decide) rfl)<|dS (LW 0 rfl k6 rfl rfl)<|dS (SX (sn (kV:=cm) (x:=(cO t (dQ o.1))) (l:=m2) (f:=iV) (z:=0) rfl rfl rfl l5 l4 Js (by exact aI 7 rfl)) rfl rfl)<|dS (MV rfl)<|dS (EX rfl)<|dS (EX rfl)<|dS (AG rfl)<|dS (AG rfl)<|cP ?_
    refine RK hK48<|aq fun _ hK50=>dm cG 19 (by kernel_rfl)<|dS (MV rfl)<|dS (FA 1 rfl cd rfl)<|dS (L1 (Value.int .i64 o.2.Hi) 2 rfl bu rfl rfl)<|dS (j8 13 rfl jJ rfl)<|dS (SX (cx rfl rfl) rfl rfl)<|dS (FA 7 rfl oI rfl)<|dS (FA 8 rfl lY rfl) ?_
    refine dS (ny (Value.int .i64 ri.cI) 10 rfl bu rfl rfl)<|dS (MN rfl)<|dS (BI rfl gl)<|dS (MV rfl) ?_
    refine e9 (t:=121) rfl (fun h121=>?_) (fun h121=>?_)
    rotate_left 1
    ·replace h121:=DF h121
     refine dS (OX rfl)<|dS (OX rfl)<|dS (OX rfl)<|dS (OX rfl)<|dS (OX rfl)<|dS (OX rfl)<|dS (OX rfl)<|dS (PK rfl)<|cP<|RK hK50 ?_
     refine bV rfl<|cM<|aK ?_
     exact hQr40 m2 _ _ (by first|exact hr0.skip (pK hy h121)|exact hr0.j2 (ji hy h121) (by simpa using h124) h129|exact hr0.set hp ho (ji hy h121) (.inl (by simpa using h124))|exact hr0.set hp ho (ji hy h121) (.inr h129)) (fun w hs=>St.br [1,3,4,5,6,7,8,9,10,11,12,13,14,15,16] rfl rfl hs)
    replace h121:=DT h121
    refine dS (MV rfl)<|dS (NT rfl)<|dS (MV rfl) ?_
    refine e9 (t:=124) rfl (fun h124=>?_) (fun h124=>?_)
    ·rw [Bool.not_eq_true'] at h124
     refine dS (OX rfl)<|dS (OX rfl)<|dS (OX rfl)<|dS (PK rfl)<|dS (PK rfl)<|cP<|RK hK50<|aX rfl<|dm cG 10 (by kernel_rfl)<|dS (j8 13 rfl jJ rfl) ?_
     refine dS (SX (cx rfl rfl) rfl rfl)<|dS (FA 12 rfl kL rfl)<|dS (ny (Value.slice fA (ln.aa.n+1) (ln.aa.n+1)) 10 rfl kX rfl rfl)<|dS (j8 8 rfl bu rfl)<|dS (BI rfl (aZ ⟨by omega,by omega⟩)) ?_
     have hk51:(List.map oC (cg (fb++[b19]) (ln.aa.n+1)))[(b+1)]? =some (oC (some b19)):=nu (kr (uZ (by omega)))
     refine dS (IA (b+1) rfl (aC (n:=(ln.aa.n+1)) 11 rfl (by first|(simp; done)|(simp; omega))) lI (by decide) (by omega) (by omega))<|dS (iX (b+1) 0 (Value.map (some b19)) rfl nt (aC (n:=(cg (fb++[b19]) (ln.aa.n+1)).length) 11 rfl (by simp)) hk51 rfl (by decide) rfl)<|dS (LW 0 rfl k6 rfl rfl)<|dS (MV rfl)<|cP<|iQ (kV:=cm) (x:=(cO t (dQ o.1))) (C':=[_,_,_,_,_,_,_,(kD cm b19 (bG iV (dV m2 (cO t (dQ o.1)) (max (v+y) o.2.Lo)))),_,_,_,_,_,_,_,_,_]) 7 rfl rfl rfl rfl l5 l4 rfl (gf _ _ _ _).symm rfl<|aP<|aK ?_
     exact hQr40 (dV m2 (cO t (dQ o.1)) (max (v+y) o.2.Lo)) _ _ (by first|exact hr0.skip (pK hy h121)|exact hr0.j2 (ji hy h121) (by simpa using h124) h129|exact hr0.set hp ho (ji hy h121) (.inl (by simpa using h124))|exact hr0.set hp ho (ji hy h121) (.inr h129)) (fun w hs=>St.br [1,3,4,5,6,7,8,9,10,11,12,13,14,15,16] rfl rfl hs)
    rw [Bool.not_eq_false'] at h124
    refine dS (MV rfl)<|dS (MV rfl)<|dS (BI rfl cv)<|dS (PK rfl)<|dS (PK rfl)<|cP<|RK hK50 ?_
    refine bj rfl (fun h129=>?_) (fun h129=>?_)
    rotate_left 1
    ·replace h129:=DF h129
     refine cM<|aK ?_
     exact hQr40 m2 _ _ (by first|exact hr0.skip (pK hy h121)|exact hr0.j2 (ji hy h121) (by simpa using h124) h129|exact hr0.set hp ho (ji hy h121) (.inl (by simpa using h124))|exact hr0.set hp ho (ji hy h121) (.inr h129)) (fun w hs=>St.br [1,3,4,5,6,7,8,9,10,11,12,13,14,15,16] rfl rfl hs)
    replace h129:=DT h129
    refine dm cG 10 (by kernel_rfl)<|dS (j8 13 rfl jJ rfl)<|dS (SX (cx rfl rfl) rfl rfl)<|dS (FA 12 rfl kL rfl)<|dS (ny (Value.slice fA (ln.aa.n+1) (ln.aa.n+1)) 10 rfl kX rfl rfl)<|dS (j8 8 rfl bu rfl)<|dS (BI rfl (aZ ⟨by omega,by omega⟩)) ?_
    have hk52:(List.map oC (cg (fb++[b19]) (ln.aa.n+1)))[(b+1)]? =some (oC (some b19)):=nu (kr (uZ (by omega)))
    refine dS (IA (b+1) rfl (aC (n:=(ln.aa.n+1)) 11 rfl (by first|(simp; done)|(simp; omega))) lI (by decide) (by omega) (by omega))<|dS (iX (b+1) 0 (Value.map (some b19)) rfl nt (aC (n:=(cg (fb++[b19]) (ln.aa.n+1)).length) 11 rfl (by simp)) hk52 rfl (by decide) rfl)<|dS (LW 0 rfl k6 rfl rfl)<|dS (MV rfl)<|cP<|iQ (kV:=cm) (x:=(cO t (dQ o.1))) (C':=[_,_,_,_,_,_,_,(kD cm b19 (bG iV (dV m2 (cO t (dQ o.1)) (max (v+y) o.2.Lo)))),_,_,_,_,_,_,_,_,_]) 7 rfl rfl rfl rfl l5 l4 rfl (gf _ _ _ _).symm rfl<|aP<|aK ?_
    exact hQr40 (dV m2 (cO t (dQ o.1)) (max (v+y) o.2.Lo)) _ _ (by first|exact hr0.skip (pK hy h121)|exact hr0.j2 (ji hy h121) (by simpa using h124) h129|exact hr0.set hp ho (ji hy h121) (.inl (by simpa using h124))|exact hr0.set hp ho (ji hy h121) (.inr h129)) (fun w hs=>St.br [1,3,4,5,6,7,8,9,10,11,12,13,14,15,16] rfl rfl hs)
   replace h11:=DF h11
   refine bE<|ai<|ai<|aH<|KK hK6<|WS fun _ hK55=>rS (MV rfl)<|AL rfl lK fun b56=>BT rfl yN rfl rfl<|RK hK55 ?_
   refine aG ?_
   rw [zu]
   refine nT ?_
   have hinit:(0≤ln.aa.n+1)∧(([]:List FM).length=0)∧(([]:List Nat).length=0)∧(fc (bP ln ri e tms) (ln.aa.n+1-0) ([]:List FM)):=by exact ⟨Nat.zero_le _,rfl,rfl,fc.none_⟩
   refine oj (ι:={z:Nat×(List FM)×(List Nat)×Nat×(List Nat) // (z.1≤ln.aa.n+1)∧(z.2.1.length=z.1)∧(z.2.2.1.length=z.1)∧(fc (bP ln ri e tms) (ln.aa.n+1-z.1) z.2.1)}) (fun z=>z.1.2.2.2.2.map jD) (fun z=>[(0,(Value.pointer (some ⟨gw,0,none⟩))),(1,(Value.pointer (some ⟨b2,0,none⟩))),(2,(Value.int .i64 ((ln.aa.n:Nat):Int))),(12,(Value.pointer (some ⟨z.1.2.2.2.1,0,none⟩)))]) (fun z=>[(a5 (aL fW z.1.2.1 z.1.2.2.1)),(aT z.1.2.2.2.1 3 [(Value.int .i64 (((ln.aa.n:Nat):Int)-((z.1.1:Nat):Int)))]),(a5 (z.1.2.2.2.2.map gE)),(a5 (aL fW fs fb)),(aT gw 117 (aN.cells (aN.mk ln ri (av.mk e_A e.length e_C) (av.mk t_A tms.length t_C) (av.mk fA (ln.aa.n+1) (ln.aa.n+1)) (av.mk bA (ln.aa.n+1) (ln.aa.n+1))))).ro,(own fA (ln.aa.n+1) 122 1 (List.map oC (cg fb (ln.aa.n+1)))),(own bA (ln.aa.n+1) 122 1 (List.map oC (eX z.1.2.2.1 (ln.aa.n+1)))),(aT b2 77 [(Value.pointer (some ⟨gw,0,none⟩))]),(rd e_A e.length 1 (e.map iC)).ro,(rd t_A tms.length 1 (List.zipWith cl tms tb)).ro,(cZ (aL ib tms tb)).ro]) (fun z=>ln.aa.n+1-z.1.1) ⟨(0,([]:List FM),([]:List Nat),b56,rs5),hinit⟩ rfl (an.cons rfl<|an.cons rfl<|an.cons rfl<|an.cons rfl<|an.nil _) (fun w hs=>St.br [0,1,2,3,4,5,6,7,8,9,10] rfl rfl hs) ?_
   clear hinit
   rintro ⟨⟨j,bs,bb,gq,rs20⟩,⟨hl20_0,hl20_1,hl20_2,hl20_3⟩⟩ J57 hJ57
   try dsimp only at hl20_0 hl20_1 hl20_2 hl20_3
   try dsimp only
   refine aq fun _ hK58=>WS fun _ hK59=>rS (j8 1 rfl bu rfl)<|rS (BI rfl kv)<|RK hK59 ?_
   refine bj rfl (fun h143=>?_) (fun h143=>?_)
   rotate_left 1
   ·replace h143:=DF h143
    refine bE<|ai<|ai<|aH ?_
    rw [show (List.map oC (cg fb (ln.aa.n+1)))=(List.zipWith cl fs fb) from by rw [tR (by omega)]; exact (uL (by omega)).symm]
    rw [show (List.map oC (eX bb (ln.aa.n+1)))=(List.zipWith cl bs bb) from by rw [yF (by omega)]; exact (uL (by omega)).symm]
    refine uQ (C1:=[(own fA (ln.aa.n+1) 122 1 (List.zipWith cl fs fb)),(a5 (aL fW fs fb)),(own bA (ln.aa.n+1) 122 1 (List.zipWith cl bs bb)),(a5 (aL fW bs bb)),(a5 (rs20.map gE))]) hz [5,3,6,0,2] rfl rfl (by simp only [List.all_cons,List.all_nil,iF,Cl,Bool.and_true]; rfl) ?_
    rw [show (aT gw 117 (aN.cells (aN.mk ln ri (av.mk e_A e.length e_C) (av.mk t_A tms.length t_C) (av.mk fA (ln.aa.n+1) (ln.aa.n+1)) (av.mk bA (ln.aa.n+1) (ln.aa.n+1)))))=(aT gw 117 (aN.cells (aN.mk ln ri (av.mk e_A e.length e_C) (av.mk t_A tms.length t_C) (av.mk fA fs.length (ln.aa.n+1)) (av.mk bA bs.length (ln.aa.n+1))))) from by rw [show fs.length=(ln.aa.n+1) from by omega,show bs.length=(ln.aa.n+1) from by omega]]
    refine Ef [(aT gw 117 (aN.cells (aN.mk ln ri (av.mk e_A e.length e_C) (av.mk t_A tms.length t_C) (av.mk fA fs.length (ln.aa.n+1)) (av.mk bA bs.length (ln.aa.n+1))))),(own fA (ln.aa.n+1) 122 1 (List.zipWith cl fs fb)),(a5 (aL fW fs fb)),(own bA (ln.aa.n+1) 122 1 (List.zipWith cl bs bb)),(a5 (aL fW bs bb))] [(a5 (rs20.map gE))] ?_
    refine hN _ _ _ (sH 1 rfl rfl<|bB (vs:=[]) trivial fun w hs=>xO (fs,fb,fA,(ln.aa.n+1),bs,bb,bA,(ln.aa.n+1)) 0 ?_ ?_ rfl (by show List.all _ _=true; simp only [List.all_cons,List.all_nil,iF,Bool.and_true]; rfl) hs)
    ·clear hs w hQ hN hK59 hK58 hK55 hK10 hK9 hK7 hK6 hK3 hK1; rfl
    ·clear hs w hQ hN hK59 hK58 hK55 hK10 hK9 hK7 hK6 hK3 hK1; exact ⟨hl5_3.ok (by show fs.length=e.length+1; omega),fc.ok (by have:=hl20_3; rwa [show ln.aa.n+1-j=0 by omega] at this) (by show bs.length=e.length+1; omega),by dsimp only; omega,by dsimp only; omega⟩
   replace h143:=DT h143
   refine WK hK58<|aq fun _ hK60=>aG<|aq fun _ hK61=>?_
   obtain ⟨b,hbj⟩: ∃ b:Nat,b+j=ln.aa.n:=⟨ln.aa.n-j,by omega⟩
   rw [show ((ln.aa.n:Nat):Int)-((j:Nat):Int)=((b:Nat):Int) from by omega]
   have hlb0:(eX bb (ln.aa.n+1)).length=(ln.aa.n+1):=uv (by omega)
   refine er cG [0,1,2,3,4,6,7,8,9,10,11,14] [5,12,13,15] [false,false,false,false,false,false,false,false,false,false,false,true] [true,true,true,false] [(a5 (aL fW bs bb)),(aT gq 3 [(Value.int .i64 ((b:Nat):Int))]),(a5 (rs20.map gE)),(a5 (aL fW fs fb)),(aT gw 117 (aN.cells (aN.mk ln ri (av.mk e_A e.length e_C) (av.mk t_A tms.length t_C) (av.mk fA (ln.aa.n+1) (ln.aa.n+1)) (av.mk bA (ln.aa.n+1) (ln.aa.n+1))))).ro,(own fA (ln.aa.n+1) 122 1 (List.map oC (cg fb (ln.aa.n+1)))),(aT b2 77 [(Value.pointer (some ⟨gw,0,none⟩))]),(rd e_A e.length 1 (e.map iC)).ro,(rd t_A tms.length 1 (List.zipWith cl tms tb)).ro,(cZ (aL ib tms tb)).ro] [(a5 (aL fW bs bb)),(aT gq 3 [(Value.int .i64 ((b:Nat):Int))]),(a5 (rs20.map gE)),(a5 (aL fW fs fb)),(aT gw 117 (aN.cells (aN.mk ln ri (av.mk e_A e.length e_C) (av.mk t_A tms.length t_C) (av.mk fA (ln.aa.n+1) (ln.aa.n+1)) (av.mk bA (ln.aa.n+1) (ln.aa.n+1))))).ro,(own fA (ln.aa.n+1) 122 1 (List.map oC (cg fb (ln.aa.n+1)))),(own bA (ln.aa.n+1) 122 1 (List.map oC (eX bb (ln.aa.n+1)))),(aT b2 77 [(Value.pointer (some ⟨gw,0,none⟩))]),(rd e_A e.length 1 (e.map iC)).ro,(rd t_A tms.length 1 (List.zipWith cl tms tb)).ro,(cZ (aL ib tms tb)).ro] (by kernel_rfl) (fun w hs=>St.br [0,1,2,3,4,5,7,8,9,10] rfl rfl hs) (fun w hs=>St.br [0,1,2,3,4,5,6,7,8,9,10] rfl rfl hs)<|eS rfl (j8 6 rfl jJ rfl)<|eS rfl (SX (cx rfl rfl) rfl rfl)<|eS rfl (FA 13 rfl mI rfl)<|eS rfl (ny (Value.slice bA (ln.aa.n+1) (ln.aa.n+1)) 4 rfl kX rfl rfl)<|eS rfl (j8 1 rfl bu rfl)<|eS rfl (SX (bp (xs:=[]) (cs:=(ao.cells (ao.mk 0 0))) rfl rfl (bq vG rfl)) rfl rfl)<|eS rfl (j8 6 rfl jJ rfl)<|eS rfl (SX (cx rfl rfl) rfl rfl)<|eS rfl (FA 7 rfl oI rfl) ?_
   refine eS rfl (FA 8 rfl lY rfl)<|eS rfl (ny (Value.int .i64 ri.cI) 4 rfl bu rfl rfl) ?_
   obtain ⟨x62,hx63⟩: ∃ y_,(eX bb (ln.aa.n+1))[b]? =some y_:=⟨(eX bb (ln.aa.n+1))[b]'(by omega),List.getElem?_eq_getElem _⟩
   have hx63m:(List.map oC (eX bb (ln.aa.n+1)))[b]? =some (oC x62):=by rw [List.getElem?_map,hx63]; rfl
   refine fS rfl (IA b rfl (aC (n:=(ln.aa.n+1)) 6 rfl (by first|(simp; done)|(simp; omega))) lI (by decide) (by omega) (by omega))<|fw rfl<|jm rfl fun T64 hT64=>ml (kV:=cm) rfl rfl fun b65=>?_
   try dsimp only
   refine aP (hT64 _ _ (fun w hs=>St.br [1,2,3,4,5,6,8,9,10,11] rfl rfl hs) (fun w hs=>St.br [1,2,3,4,5,6,7,8,9,10,11] rfl rfl hs) ?_)
   refine jm rfl fun T66 hT66=>?_
   have hb67:(dV ([]:List (ao×Int)) (ao.mk 0 0) ri.cI)=[((ao.mk 0 0),ri.cI)]:=by rfl
   refine uq (kV:=cm) (x:=(ao.mk 0 0)) (C':=[(kD cm b65 (bG iV ([((ao.mk 0 0),ri.cI)]))),_,_,_,_,_,_,_,_,_,_,_]) 0 rfl rfl rfl rfl l5 l4 rfl ((gf _ _ _ _).symm.trans (congrArg _ hb67)) rfl ?_
   refine aP (hT66 _ _ (fun w hs=>St.br [1,2,3,4,5,6,8,9,10,11] rfl rfl hs) (fun w hs=>St.br [1,2,3,4,5,6,7,8,9,10,11] rfl rfl hs) ?_)
   refine jm rfl fun T68 hT68=>rS (MV rfl) ?_
   refine aP (hT68 _ _ (fun w hs=>St.br [1,2,3,4,5,6,8,9,10,11] rfl rfl hs) (fun w hs=>St.br [1,2,3,4,5,6,7,8,9,10,11] rfl rfl hs) ?_)
   refine cL rfl fun T69 hT69=>?_
   have hb70:((eX bb (ln.aa.n+1)).set b (some b65))=(eX (b65::bb) (ln.aa.n+1)):=by exact zl (by omega)
   refine fP (k:=b) (o:=0) (vs:=[(Value.map (some b65))]) (es':=(List.map oC (eX (b65::bb) (ln.aa.n+1)))) (C':=[_,_,_,_,_,_,_,(own bA (ln.aa.n+1) 122 1 (List.map oC (eX (b65::bb) (ln.aa.n+1)))),_,_,_,_]) 7 rfl rfl rfl AI rfl rfl rfl rfl hx63m rfl (by decide) (by exact (List.map_set (f:=oC) (l:=(eX bb (ln.aa.n+1))) (i:=b) (a:=(some b65))).symm.trans (congrArg _ hb70)) rfl<|RN hT69 [1,2,3,4,5,6,8,9,10,11] rfl rfl<|g_ rfl<|KK hK61<|aq fun _ hK71=>WS fun _ hK72=>rS (j8 2 rfl bu rfl)<|rS (MV rfl)<|rS (BI rfl g0)<|RK hK72 ?_
   refine bj rfl (fun h162=>?_) (fun h162=>?_)
   ·replace h162:=DT h162
    refine bE<|ai<|aH<|KK hK60<|aq fun _ hK73=>WS fun _ hK74=>rS (j8 2 rfl bu rfl)<|RK hK74<|ar<|AL rfl lK fun b75=>?_
    refine BT rfl yN rfl rfl<|RK hK73<|ar<|rS (j8 0 rfl bu rfl)<|rS (BI rfl (da ⟨by omega,by omega⟩))<|BT rfl yN rfl rfl<|aP ?_
    rw [show ((b:Nat):Int)-1=((ln.aa.n:Nat):Int)-(((j+1):Nat):Int) from by omega]
    refine uf (ms:=bs) (m:=[((ao.mk 0 0),ri.cI)]) (a:=b65) 2 1 rfl rfl rfl ?_
    try dsimp only
    refine aO (hJ57 ⟨((j+1),([((ao.mk 0 0),ri.cI)]::bs),(b65::bb),b75,rs20),⟨by omega,by simp; omega,by simp; omega,by first|exact fc.end_ (b:=b) hl20_3 (by omega) (by omega) (by show e.length≤b; omega)|exact fc.more (b:=b) hl20_3 (by omega) (by omega) (by show b<e.length; omega) hmb hl25_1 hl25_2 h172⟩⟩ _ _ _ rfl (by first|omega|(simp; omega)) (an.cons rfl<|an.cons rfl<|an.cons rfl<|an.cons rfl<|an.nil _) (fun w hs=>St.br [0,1,3,4,5,6,7,8,9,10,11] rfl rfl hs))
   replace h162:=DF h162
   refine WK hK71<|aq fun _ hK76=>?_
   have hlq77:(eX (b65::bb) (ln.aa.n+1)).length=(ln.aa.n+1):=uv (by simp; omega)
   obtain ⟨mb,hmb⟩: ∃ y_,bs[0]? =some y_:=⟨bs[0]'(by omega),List.getElem?_eq_getElem _⟩
   obtain ⟨ga,hga⟩: ∃ y_,bb[0]? =some y_:=⟨bb[0]'(by omega),List.getElem?_eq_getElem _⟩
   refine tT 1 hmb hga rfl rfl rfl ?_
   try dsimp only
   refine dm cG 8 (by kernel_rfl)<|dS (j8 9 rfl jJ rfl)<|dS (SX (cx rfl rfl) rfl rfl)<|dS (FA 13 rfl mI rfl)<|dS (ny (Value.slice bA (ln.aa.n+1) (ln.aa.n+1)) 6 rfl kX rfl rfl)<|dS (j8 3 rfl bu rfl)<|dS (BI rfl (aZ ⟨by omega,by omega⟩)) ?_
   have hk78:(List.map oC (eX (b65::bb) (ln.aa.n+1)))[(b+1)]? =some (oC (some ga)):=nu (p8 (i:=1) (by simpa using hga) (by simp; omega))
   refine dS (IA (b+1) rfl (aC (n:=(ln.aa.n+1)) 8 rfl (by first|(simp; done)|(simp; omega))) lI (by decide) (by omega) (by omega))<|dS (iX (b+1) 0 (Value.map (some ga)) rfl nt (aC (n:=(eX (b65::bb) (ln.aa.n+1)).length) 8 rfl (by simp)) hk78 rfl (by decide) rfl)<|cP<|qH 0 rfl rfl l5 rfl rfl fun r79=>?_
   try dsimp only
   refine RK hK76<|aG ?_
   have hinit:(∀ p∈mb,p∈mb)∧(rn (bP ln ri e tms) b ([((ao.mk 0 0),ri.cI)]))∧(ij (bP ln ri e tms) b mb ([((ao.mk 0 0),ri.cI)]) mb):=by exact ⟨fun p hp=>hp,rn.start (by show b<e.length; omega),ij.start⟩
   refine oj (ι:={z:FM×FM×(List Nat) // (∀ p∈z.1,p∈mb)∧(rn (bP ln ri e tms) b z.2.1)∧(ij (bP ln ri e tms) b mb z.2.1 z.1)}) (fun z=>z.1.2.2.map jD) (fun z=>[(0,(Value.pointer (some ⟨gw,0,none⟩))),(1,(Value.pointer (some ⟨b2,0,none⟩))),(2,(Value.int .i64 ((ln.aa.n:Nat):Int))),(12,(Value.pointer (some ⟨gq,0,none⟩))),(171,(Value.pointer (some ⟨r79,0,none⟩)))]) (fun z=>[(rl cm r79 ga (bG iV mb) (bG iV z.1.1) none),(a5 (fD fW bs bb 0)),(kD cm b65 (bG iV z.1.2.1)),(aT gq 3 [(Value.int .i64 ((b:Nat):Int))]),(a5 (z.1.2.2.map gE)),(a5 (aL fW fs fb)),(aT gw 117 (aN.cells (aN.mk ln ri (av.mk e_A e.length e_C) (av.mk t_A tms.length t_C) (av.mk fA (ln.aa.n+1) (ln.aa.n+1)) (av.mk bA (ln.aa.n+1) (ln.aa.n+1))))).ro,(own fA (ln.aa.n+1) 122 1 (List.map oC (cg fb (ln.aa.n+1)))),(own bA (ln.aa.n+1) 122 1 (List.map oC (eX (b65::bb) (ln.aa.n+1)))),(aT b2 77 [(Value.pointer (some ⟨gw,0,none⟩))]),(rd e_A e.length 1 (e.map iC)).ro,(rd t_A tms.length 1 (List.zipWith cl tms tb)).ro,(cZ (aL ib tms tb)).ro]) (fun z=>z.1.1.length) ⟨(mb,[((ao.mk 0 0),ri.cI)],rs20),hinit⟩ rfl (an.cons rfl<|an.cons rfl<|an.cons rfl<|an.cons rfl<|an.cons rfl<|an.nil _) (fun w hs=>St.br [0,1,2,3,4,5,6,7,8,9,10,11,12] rfl rfl hs) ?_
   clear hinit
   rintro ⟨⟨left,m,rs25⟩,⟨hl25_0,hl25_1,hl25_2⟩⟩ J80 hJ80
   try dsimp only at hl25_0 hl25_1 hl25_2
   try dsimp only
   refine WS fun _ hK81=>?_
   refine oU l4.inj (f:=iV) 0 rfl rfl rfl rfl (fun h172=>?_) (fun t v hm hnd=>?_)
   ·refine rS (EX rfl) ?_
    refine RK hK81<|aq fun _ hK82=>bV rfl<|bE<|ai<|ai<|aH<|aK<|KK hK60<|aq fun _ hK83=>?_
    refine WS fun _ hK84=>rS (j8 3 rfl bu rfl)<|RK hK84<|ar<|AL rfl lK fun b85=>BT rfl yN rfl rfl<|RK hK83<|ar<|rS (j8 0 rfl bu rfl)<|rS (BI rfl (da ⟨by omega,by omega⟩)) ?_
    refine BT rfl yN rfl rfl<|aP<|n7 (C':=[(aT b85 3 [(Value.int .i64 (((b:Nat):Int)-1))]),(kD cm ga (bG iV mb)),(a5 (fD fW bs bb 0)),(kD cm b65 (bG iV m)),(aT gq 3 [(Value.int .i64 ((b:Nat):Int))]),(a5 (rs25.map gE)),(a5 (aL fW fs fb)),(aT gw 117 (aN.cells (aN.mk ln ri (av.mk e_A e.length e_C) (av.mk t_A tms.length t_C) (av.mk fA (ln.aa.n+1) (ln.aa.n+1)) (av.mk bA (ln.aa.n+1) (ln.aa.n+1))))).ro,(own fA (ln.aa.n+1) 122 1 (List.map oC (cg fb (ln.aa.n+1)))),(own bA (ln.aa.n+1) 122 1 (List.map oC (eX (b65::bb) (ln.aa.n+1)))),(aT b2 77 [(Value.pointer (some ⟨gw,0,none⟩))]),(rd e_A e.length 1 (e.map iC)).ro,(rd t_A tms.length 1 (List.zipWith cl tms tb)).ro,(cZ (aL ib tms tb)).ro]) 1 rfl Bq rfl<|BD 2 1 hmb hga rfl rfl rfl ?_
    try dsimp only
    rw [show ((b:Nat):Int)-1=((ln.aa.n:Nat):Int)-(((j+1):Nat):Int) from by omega]
    refine uf (ms:=bs) (m:=m) (a:=b65) 0 2 rfl rfl rfl ?_
    try dsimp only
    refine aO (hJ57 ⟨((j+1),(m::bs),(b65::bb),b85,rs25),⟨by omega,by simp; omega,by simp; omega,by first|exact fc.end_ (b:=b) hl20_3 (by omega) (by omega) (by show e.length≤b; omega)|exact fc.more (b:=b) hl20_3 (by omega) (by omega) (by show b<e.length; omega) hmb hl25_1 hl25_2 h172⟩⟩ _ _ _ rfl (by first|omega|(simp; omega)) (an.cons rfl<|an.cons rfl<|an.cons rfl<|an.cons rfl<|an.nil _) (fun w hs=>St.br [0,1,3,4,5,6,7,8,9,10,11] rfl rfl hs))
   try dsimp only
   refine rS (EX rfl)<|RK hK81<|aq fun _ hK86=>aX rfl<|WK hK86<|aG<|WS fun _ hK87=>rS (SX (o4 0 rfl rfl rfl) rfl rfl)<|rS (EX rfl)<|rS (EX rfl) ?_
   refine AL rfl pB fun b88=>AL rfl lK fun b89=>nk rfl oO rfl<|BT rfl yN rfl rfl<|RK hK87<|WS fun _ hK90=>rS (j8 11 rfl jJ rfl)<|rS (j8 5 rfl bu rfl)<|cX (qB gw b) (ay) rfl fun y91 hy92=>?_
   obtain ⟨x193,x294⟩:=y91
   try dsimp only
   refine RK hK90<|aG<|mh 14 rfl (by exact fun _ h=>h)<|mh 16 rfl (by exact fun _ h=>h)<|mh 18 rfl (by exact fun _ h=>h)<|mh 13 rfl (by exact fun _ h=>h) ?_
   refine mx (L0:=[(0,(Value.pointer (some ⟨gw,0,none⟩))),(1,(Value.pointer (some ⟨b2,0,none⟩))),(2,(Value.int .i64 ((ln.aa.n:Nat):Int))),(12,(Value.pointer (some ⟨gq,0,none⟩))),(13,(Value.pointer (some ⟨b88,0,none⟩))),(14,(Value.pointer (some ⟨b89,0,none⟩))),(171,(Value.pointer (some ⟨r79,0,none⟩)))]) (F:=[(rd e_A e.length 1 (e.map iC)).ro,(rd t_A tms.length 1 (List.zipWith cl tms tb)).ro,(cZ (aL ib tms tb)).ro,(aT gw 117 (aN.cells (aN.mk ln ri (av.mk e_A e.length e_C) (av.mk t_A tms.length t_C) (av.mk fA (ln.aa.n+1) (ln.aa.n+1)) (av.mk bA (ln.aa.n+1) (ln.aa.n+1))))).ro,(aT x193 77 [(Value.pointer (some ⟨gw,0,none⟩))]),(aT x294 3 [(Value.int .i64 ((b:Nat):Int))])]) (fun k (y:FM)=>(ld (bP ln ri e tms) b mb left y (t,v) k)) (fun k y=>[(aT b89 3 [(Value.int .i64 v)]),(aT b88 124 (ao.cells t)),(rl cm r79 ga (bG iV mb) (bG iV (cV left t)) (some (t,(Value.int .i64 v)))),(a5 (fD fW bs bb 0)),(kD cm b65 (bG iV y)),(aT gq 3 [(Value.int .i64 ((b:Nat):Int))]),(a5 (rs25.map gE)),(a5 (aL fW fs fb)),(aT gw 117 (aN.cells (aN.mk ln ri (av.mk e_A e.length e_C) (av.mk t_A tms.length t_C) (av.mk fA (ln.aa.n+1) (ln.aa.n+1)) (av.mk bA (ln.aa.n+1) (ln.aa.n+1))))).ro,(own fA (ln.aa.n+1) 122 1 (List.map oC (cg fb (ln.aa.n+1)))),(own bA (ln.aa.n+1) 122 1 (List.map oC (eX (b65::bb) (ln.aa.n+1)))),(aT b2 77 [(Value.pointer (some ⟨gw,0,none⟩))]),(rd e_A e.length 1 (e.map iC)).ro,(rd t_A tms.length 1 (List.zipWith cl tms tb)).ro,(cZ (aL ib tms tb)).ro]) (fun _ (_:Unit)=>False) (fun _ _=>[]) [6,7,8,9,10,11,12,13,14,15,16,17,18,19,20] [3,2,1,0,4,5] m rfl rfl (oT ln ri e tms e_A e_C tb t_A t_C fA (ln.aa.n+1) (ln.aa.n+1) bA (ln.aa.n+1) (ln.aa.n+1) gw b x193 x294 (by omega) (by omega)) rfl rfl rfl (by exact ld.start hl25_1 hl25_2) (by simp only [List.forall_mem_cons,List.not_mem_nil,false_imp_iff,implies_true,and_true]; exact ⟨⟨_,List.mem_of_getElem? (i:=0) rfl,(fM (ck _))⟩,⟨_,List.mem_of_getElem? (i:=1) rfl,(fM (ck _))⟩,⟨_,List.mem_of_getElem? (i:=2) rfl,(fM (ck _))⟩,⟨_,List.mem_of_getElem? (i:=3) rfl,(fM (ck _))⟩,⟨_,List.mem_of_getElem? (i:=4) rfl,(ck _)⟩,⟨_,List.mem_of_getElem? (i:=5) rfl,(ck _)⟩⟩) (by rintro k x k2 ⟨o,_,rfl,_⟩; rfl) rfl (an.cons rfl<|an.cons rfl<|an.cons rfl<|an.cons rfl<|an.cons rfl<|an.cons rfl<|an.cons rfl<|an.nil _) ?_ ?_ (fun _ _ _ h=>h.elim) (fun _ _ h=>h.elim)
   rotate_left 1
   ·rintro r109 k m2 hfin hin110
    have hr0:=hin110
    try dsimp only
    refine aK<|aK<|sE (X:=rs25.map gE) 13 0 rfl rfl ?_
    try dsimp only
    refine n7 (C':=[(a5 ((r109::rs25).map gE)),(rd e_A e.length 1 (e.map iC)).ro,(rd t_A tms.length 1 (List.zipWith cl tms tb)).ro,(cZ (aL ib tms tb)).ro,(aT gw 117 (aN.cells (aN.mk ln ri (av.mk e_A e.length e_C) (av.mk t_A tms.length t_C) (av.mk fA (ln.aa.n+1) (ln.aa.n+1)) (av.mk bA (ln.aa.n+1) (ln.aa.n+1))))).ro,(aT x193 77 [(Value.pointer (some ⟨gw,0,none⟩))]),(aT x294 3 [(Value.int .i64 ((b:Nat):Int))]),(aT b89 3 [(Value.int .i64 v)]),(aT b88 124 (ao.cells t)),(rl cm r79 ga (bG iV mb) (bG iV (cV left t)) none),(a5 (fD fW bs bb 0)),(kD cm b65 (bG iV m2)),(aT gq 3 [(Value.int .i64 ((b:Nat):Int))]),(a5 (aL fW fs fb)),(aT gw 117 (aN.cells (aN.mk ln ri (av.mk e_A e.length e_C) (av.mk t_A tms.length t_C) (av.mk fA (ln.aa.n+1) (ln.aa.n+1)) (av.mk bA (ln.aa.n+1) (ln.aa.n+1))))).ro,(own fA (ln.aa.n+1) 122 1 (List.map oC (cg fb (ln.aa.n+1)))),(own bA (ln.aa.n+1) 122 1 (List.map oC (eX (b65::bb) (ln.aa.n+1)))),(aT b2 77 [(Value.pointer (some ⟨gw,0,none⟩))]),(rd e_A e.length 1 (e.map iC)).ro,(rd t_A tms.length 1 (List.zipWith cl tms tb)).ro,(cZ (aL ib tms tb)).ro]) 9 rfl tk rfl ?_
    refine aO (hJ80 ⟨((cV left t),m2,(r109::rs25)),⟨kB hl25_0,hr0.on,hr0.next hnd hm hfin⟩⟩ _ _ _ rfl (jG hm) (an.cons rfl<|an.cons rfl<|an.cons rfl<|an.cons rfl<|an.cons rfl<|an.nil _) (fun w hs=>St.br [9,10,11,12,0,13,4,15,16,17,1,2,3] rfl rfl hs))
   rintro k x k2 m2 l ra rb S w1 K95 Qr96 hsz hx hin97 hK95 hQr96 xQr96 yQr96
   obtain ⟨o,ho,rfl,rfl⟩:=hx
   have hr0:=hin97
   try dsimp only
   refine WS fun _ hK98=>rS (AG rfl)<|RK hK98<|ar<|AL rfl dF fun b99=>fO rfl cK rfl<|aP<|e7 (fun _ _ h=>h) (fun w hs=>St.br [1,0,2,3,4,5,6,7,8,9,10,11,12,13,14,15,16] rfl rfl hs) ?_
   refine aO (hK95 _ _ ?_)
   refine aG<|aq fun _ hK100=>er cG [0,1,2,3,4,5,6,7,8,9,10,11,12,13,14,15,17] [16,18] [false,false,false,false,false,false,false,false,false,false,false,false,false,false,false,false,false] [false,false] [(iM l (.loop rb)),(aT b99 47 (ae.cells o.2)),(aT b89 3 [(Value.int .i64 v)]),(aT b88 124 (ao.cells t)),(rl cm r79 ga (bG iV mb) (bG iV (cV left t)) (some (t,(Value.int .i64 v)))),(a5 (fD fW bs bb 0)),(kD cm b65 (bG iV m2)),(aT gq 3 [(Value.int .i64 ((b:Nat):Int))]),(a5 (rs25.map gE)),(a5 (aL fW fs fb)),(aT gw 117 (aN.cells (aN.mk ln ri (av.mk e_A e.length e_C) (av.mk t_A tms.length t_C) (av.mk fA (ln.aa.n+1) (ln.aa.n+1)) (av.mk bA (ln.aa.n+1) (ln.aa.n+1))))).ro,(own fA (ln.aa.n+1) 122 1 (List.map oC (cg fb (ln.aa.n+1)))),(own bA (ln.aa.n+1) 122 1 (List.map oC (eX (b65::bb) (ln.aa.n+1)))),(aT b2 77 [(Value.pointer (some ⟨gw,0,none⟩))]),(rd e_A e.length 1 (e.map iC)).ro,(rd t_A tms.length 1 (List.zipWith cl tms tb)).ro,(cZ (aL ib tms tb)).ro] [] (by kernel_rfl) (fun w hs=>St.br [0,1,2,3,4,5,6,7,8,9,10,11,12,13,14,15,16] rfl rfl hs) (fun w hs=>St.br [] rfl rfl hs)<|eS rfl (j8 2 rfl bu rfl)<|eS rfl (FA 1 rfl cd rfl)<|eS rfl (L1 (Value.int .i64 o.2.Hi) 1 rfl bu rfl rfl) ?_
   have hp:=hl20_3.IB (b:=b) (by omega) hmb (hl25_0 _ hm)
   have hbp:=AT hw hp
   have ho1:=qw o.1
   have hob:=hw.opt ho
   dsimp only at hbp
   refine eS rfl (MN rfl)<|eS rfl (j8 13 rfl jJ rfl)<|eS rfl (SX (cx rfl rfl) rfl rfl)<|eS rfl (FA 10 rfl m0 rfl)<|eS rfl (ny (Value.slice e_A e.length e_C) 10 rfl nZ rfl rfl)<|eS rfl (j8 7 rfl bu rfl) ?_
   obtain ⟨y,hy⟩: ∃ y_,e[b]? =some y_:=⟨e[b]'(by omega),List.getElem?_eq_getElem _⟩
   have hym:(e.map iC)[b]? =some (iC y):=by rw [List.getElem?_map,hy]; rfl
   refine eS rfl (IA b rfl (aI 14 rfl) dY (by decide) (by omega) (by omega))<|eS rfl (iX b 0 (Value.int .i64 y) rfl bu (aI 14 rfl) hym rfl (by decide) rfl) ?_
   have hlb:=hw.least y (List.mem_of_getElem? hy)
   refine eS rfl (BI rfl (da ⟨by omega,by omega⟩))<|eS rfl (LW 3 rfl k6 rfl rfl)<|eS rfl (MV rfl)<|eS rfl (CL (Bx o.1) (ay) rfl)<|eS rfl (CL (rN t (dQ o.1) (by first|assumption|omega|(simp; done)|(simp; omega)) (by first|assumption|omega|(simp; done)|(simp; omega))) (ay) rfl)<|eS rfl (AG rfl)<|fw rfl<|cL rfl fun T101 hT101=>AL rfl pB fun b102=>RN hT101 [1,2,3,4,5,6,7,8,9,10,11,12,13,14,15,16,17] rfl rfl ?_
   refine cL rfl fun T103 hT103=>fO rfl oO rfl<|RN hT103 [1,2,3,4,5,6,7,8,9,10,11,12,13,14,15,16,17] rfl rfl<|g_ rfl<|KK hK100<|aq fun _ hK104=>dm cG 14 (by kernel_rfl)<|dS (j8 14 rfl jJ rfl)<|dS (SX (cx rfl rfl) rfl rfl)<|dS (FA 13 rfl mI rfl) ?_
   refine dS (ny (Value.slice bA (ln.aa.n+1) (ln.aa.n+1)) 11 rfl kX rfl rfl)<|dS (j8 8 rfl bu rfl) ?_
   have hk105:(List.map oC (eX (b65::bb) (ln.aa.n+1)))[b]? =some (oC (some b65)):=nu (p8 (i:=0) rfl (by simp; omega))
   refine dS (IA b rfl (aC (n:=(ln.aa.n+1)) 13 rfl (by first|(simp; done)|(simp; omega))) lI (by decide) (by omega) (by omega))<|dS (iX b 0 (Value.map (some b65)) rfl nt (aC (n:=(eX (b65::bb) (ln.aa.n+1)).length) 13 rfl (by simp)) hk105 rfl (by decide) rfl)<|dS (LW 0 rfl k6 rfl rfl)<|dS (SX (sn (kV:=cm) (x:=(cO t (dQ o.1))) (l:=m2) (f:=iV) (z:=0) rfl rfl rfl l5 l4 Js (by exact aI 7 rfl)) rfl rfl)<|dS (MV rfl)<|dS (EX rfl)<|dS (EX rfl)<|dS (AG rfl)<|dS (AG rfl)<|cP ?_
   refine RK hK104<|WS fun _ hK106=>rS (j8 3 rfl bu rfl)<|rS (FA 1 rfl cd rfl)<|rS (L1 (Value.int .i64 o.2.Hi) 2 rfl bu rfl rfl)<|rS (MN rfl)<|rS (FA 0 rfl bU rfl)<|rS (L1 (Value.int .i64 o.2.Lo) 2 rfl bu rfl rfl)<|rS (BI rfl kv)<|rS (MV rfl) ?_
   refine bH (t:=217) rfl (fun h217=>?_) (fun h217=>?_)
   rotate_left 1
   ·replace h217:=DF h217
    refine rS (OX rfl)<|rS (OX rfl)<|rS (OX rfl)<|rS (OX rfl)<|rS (OX rfl)<|rS (OX rfl)<|rS (OX rfl)<|rS (PK rfl)<|RK hK106<|bV rfl ?_
    refine cM<|aK ?_
    exact hQr96 m2 _ _ (by first|exact hr0.skip (rG h217)|exact hr0.j2 (jk hy h217) (by simpa using h220) h225|exact hr0.set (by show b<e.length; omega) hp ho (jk hy h217) (.inl (by simpa using h220))|exact hr0.set (by show b<e.length; omega) hp ho (jk hy h217) (.inr h225)) (fun w hs=>St.br [1,3,4,5,6,7,8,9,10,11,12,13,14,15,16,17] rfl rfl hs)
   replace h217:=DT h217
   refine rS (MV rfl)<|rS (NT rfl)<|rS (MV rfl) ?_
   refine bH (t:=220) rfl (fun h220=>?_) (fun h220=>?_)
   ·rw [Bool.not_eq_true'] at h220
    refine rS (OX rfl)<|rS (OX rfl)<|rS (OX rfl)<|rS (PK rfl)<|rS (PK rfl)<|RK hK106<|aX rfl<|dm cG 9 (by kernel_rfl)<|dS (j8 14 rfl jJ rfl)<|dS (SX (cx rfl rfl) rfl rfl) ?_
    refine dS (FA 13 rfl mI rfl)<|dS (ny (Value.slice bA (ln.aa.n+1) (ln.aa.n+1)) 11 rfl kX rfl rfl)<|dS (j8 8 rfl bu rfl) ?_
    have hk107:(List.map oC (eX (b65::bb) (ln.aa.n+1)))[b]? =some (oC (some b65)):=nu (p8 (i:=0) rfl (by simp; omega))
    refine dS (IA b rfl (aC (n:=(ln.aa.n+1)) 13 rfl (by first|(simp; done)|(simp; omega))) lI (by decide) (by omega) (by omega))<|dS (iX b 0 (Value.map (some b65)) rfl nt (aC (n:=(eX (b65::bb) (ln.aa.n+1)).length) 13 rfl (by simp)) hk107 rfl (by decide) rfl)<|dS (LW 0 rfl k6 rfl rfl)<|dS (MV rfl)<|cP<|iQ (kV:=cm) (x:=(cO t (dQ o.1))) (C':=[_,_,_,_,_,_,_,(kD cm b65 (bG iV (dV m2 (cO t (dQ o.1)) ((min v o.2.Hi)-y)))),_,_,_,_,_,_,_,_,_,_]) 7 rfl rfl rfl rfl l5 l4 rfl (gf _ _ _ _).symm rfl<|aP<|aK ?_
    exact hQr96 (dV m2 (cO t (dQ o.1)) ((min v o.2.Hi)-y)) _ _ (by first|exact hr0.skip (rG h217)|exact hr0.j2 (jk hy h217) (by simpa using h220) h225|exact hr0.set (by show b<e.length; omega) hp ho (jk hy h217) (.inl (by simpa using h220))|exact hr0.set (by show b<e.length; omega) hp ho (jk hy h217) (.inr h225)) (fun w hs=>St.br [1,3,4,5,6,7,8,9,10,11,12,13,14,15,16,17] rfl rfl hs)
   rw [Bool.not_eq_false'] at h220
   refine rS (MV rfl)<|rS (MV rfl)<|rS (BI rfl fY)<|rS (PK rfl)<|rS (PK rfl)<|RK hK106 ?_
   refine bj rfl (fun h225=>?_) (fun h225=>?_)
   rotate_left 1
   ·replace h225:=DF h225
    refine cM<|aK ?_
    exact hQr96 m2 _ _ (by first|exact hr0.skip (rG h217)|exact hr0.j2 (jk hy h217) (by simpa using h220) h225|exact hr0.set (by show b<e.length; omega) hp ho (jk hy h217) (.inl (by simpa using h220))|exact hr0.set (by show b<e.length; omega) hp ho (jk hy h217) (.inr h225)) (fun w hs=>St.br [1,3,4,5,6,7,8,9,10,11,12,13,14,15,16,17] rfl rfl hs)
   replace h225:=DT h225
   refine dm cG 9 (by kernel_rfl)<|dS (j8 14 rfl jJ rfl)<|dS (SX (cx rfl rfl) rfl rfl)<|dS (FA 13 rfl mI rfl)<|dS (ny (Value.slice bA (ln.aa.n+1) (ln.aa.n+1)) 11 rfl kX rfl rfl)<|dS (j8 8 rfl bu rfl) ?_
   have hk108:(List.map oC (eX (b65::bb) (ln.aa.n+1)))[b]? =some (oC (some b65)):=nu (p8 (i:=0) rfl (by simp; omega))
   refine dS (IA b rfl (aC (n:=(ln.aa.n+1)) 13 rfl (by first|(simp; done)|(simp; omega))) lI (by decide) (by omega) (by omega))<|dS (iX b 0 (Value.map (some b65)) rfl nt (aC (n:=(eX (b65::bb) (ln.aa.n+1)).length) 13 rfl (by simp)) hk108 rfl (by decide) rfl)<|dS (LW 0 rfl k6 rfl rfl)<|dS (MV rfl)<|cP<|iQ (kV:=cm) (x:=(cO t (dQ o.1))) (C':=[_,_,_,_,_,_,_,(kD cm b65 (bG iV (dV m2 (cO t (dQ o.1)) ((min v o.2.Hi)-y)))),_,_,_,_,_,_,_,_,_,_]) 7 rfl rfl rfl rfl l5 l4 rfl (gf _ _ _ _).symm rfl<|aP<|aK ?_
   exact hQr96 (dV m2 (cO t (dQ o.1)) ((min v o.2.Hi)-y)) _ _ (by first|exact hr0.skip (rG h217)|exact hr0.j2 (jk hy h217) (by simpa using h220) h225|exact hr0.set (by show b<e.length; omega) hp ho (jk hy h217) (.inl (by simpa using h220))|exact hr0.set (by show b<e.length; omega) hp ho (jk hy h217) (.inr h225)) (fun w hs=>St.br [1,3,4,5,6,7,8,9,10,11,12,13,14,15,16,17] rfl rfl hs)
  refine er cG [0,1,2,3,5,6,7,8,9,10,13] [4,11,12,14] [false,false,false,false,false,false,false,false,false,false,true] [true,true,true,false] [(aT gw 117 (aN.cells (aN.mk ln ri (av.mk e_A e.length e_C) (av.mk t_A tms.length t_C) (av.mk fA (ln.aa.n+1) (ln.aa.n+1)) (av.mk bA (ln.aa.n+1) (ln.aa.n+1))))).ro,(own bA (ln.aa.n+1) 122 1 (List.map oC (List.replicate (ln.aa.n+1) (none:Option Nat)))),(aT b2 77 [(Value.pointer (some ⟨gw,0,none⟩))]),(rd e_A e.length 1 (e.map iC)).ro,(rd t_A tms.length 1 (List.zipWith cl tms tb)).ro,(cZ (aL ib tms tb)).ro] [(aT gw 117 (aN.cells (aN.mk ln ri (av.mk e_A e.length e_C) (av.mk t_A tms.length t_C) (av.mk fA (ln.aa.n+1) (ln.aa.n+1)) (av.mk bA (ln.aa.n+1) (ln.aa.n+1))))).ro,(own fA (ln.aa.n+1) 122 1 (List.map oC (List.replicate (ln.aa.n+1) (none:Option Nat)))),(own bA (ln.aa.n+1) 122 1 (List.map oC (List.replicate (ln.aa.n+1) (none:Option Nat)))),(aT b2 77 [(Value.pointer (some ⟨gw,0,none⟩))]),(rd e_A e.length 1 (e.map iC)).ro,(rd t_A tms.length 1 (List.zipWith cl tms tb)).ro,(cZ (aL ib tms tb)).ro] (by kernel_rfl) (fun w hs=>St.br [0,2,3,4,5,6] rfl rfl hs) (fun w hs=>St.br [0,1,2,3,4,5,6] rfl rfl hs)<|eS rfl (j8 2 rfl jJ rfl)<|eS rfl (SX (cx rfl rfl) rfl rfl)<|eS rfl (FA 12 rfl kL rfl)<|eS rfl (ny (Value.slice fA (ln.aa.n+1) (ln.aa.n+1)) 0 rfl kX rfl rfl)<|eS rfl (SX (bp (xs:=[]) (cs:=(ao.cells (ao.mk 0 0))) rfl rfl (bq vG rfl)) rfl rfl)<|eS rfl (j8 2 rfl jJ rfl)<|eS rfl (SX (cx rfl rfl) rfl rfl)<|eS rfl (FA 7 rfl oI rfl)<|eS rfl (FA 7 rfl jr rfl) ?_
  refine eS rfl (ny (Value.int .i64 ri.Start) 0 rfl bu rfl rfl) ?_
  obtain ⟨x6,hx7⟩: ∃ y_,(List.replicate (ln.aa.n+1) (none:Option Nat))[0]? =some y_:=⟨(List.replicate (ln.aa.n+1) (none:Option Nat))[0]'(by omega),List.getElem?_eq_getElem _⟩
  have hx7m:(List.map oC (List.replicate (ln.aa.n+1) (none:Option Nat)))[0]? =some (oC x6):=by rw [List.getElem?_map,hx7]; rfl
  refine fS rfl (IA 0 rfl (aC (n:=(ln.aa.n+1)) 1 rfl (by first|(simp; done)|(simp; omega))) lI (by decide) rfl (by omega))<|fw rfl<|jm rfl fun T8 hT8=>ml (kV:=cm) rfl rfl fun b9=>?_
  try dsimp only
  refine aP (hT8 _ _ (fun w hs=>St.br [1,3,4,5,6,7] rfl rfl hs) (fun w hs=>St.br [1,2,3,4,5,6,7] rfl rfl hs) ?_)
  refine jm rfl fun T10 hT10=>?_
  have hb11:(dV ([]:List (ao×Int)) (ao.mk 0 0) ri.Start)=[((ao.mk 0 0),ri.Start)]:=by rfl
  refine uq (kV:=cm) (x:=(ao.mk 0 0)) (C':=[(kD cm b9 (bG iV ([((ao.mk 0 0),ri.Start)]))),_,_,_,_,_,_,_]) 0 rfl rfl rfl rfl l5 l4 rfl ((gf _ _ _ _).symm.trans (congrArg _ hb11)) rfl ?_
  refine aP (hT10 _ _ (fun w hs=>St.br [1,3,4,5,6,7] rfl rfl hs) (fun w hs=>St.br [1,2,3,4,5,6,7] rfl rfl hs) ?_)
  refine jm rfl fun T12 hT12=>rS (MV rfl) ?_
  refine aP (hT12 _ _ (fun w hs=>St.br [1,3,4,5,6,7] rfl rfl hs) (fun w hs=>St.br [1,2,3,4,5,6,7] rfl rfl hs) ?_)
  refine cL rfl fun T13 hT13=>?_
  have hb14:((List.replicate (ln.aa.n+1) (none:Option Nat)).set 0 (some b9))=(cg [b9] (ln.aa.n+1)):=by rw [qe]; exact oG rfl (by simp)
  refine fP (k:=0) (o:=0) (vs:=[(Value.map (some b9))]) (es':=(List.map oC (cg [b9] (ln.aa.n+1)))) (C':=[_,_,(own fA (ln.aa.n+1) 122 1 (List.map oC (cg [b9] (ln.aa.n+1)))),_,_,_,_,_]) 2 rfl rfl rfl AI rfl rfl rfl rfl hx7m rfl (by decide) (by exact (List.map_set (f:=oC) (l:=(List.replicate (ln.aa.n+1) (none:Option Nat))) (i:=0) (a:=(some b9))).symm.trans (congrArg _ hb14)) rfl<|RN hT13 [1,3,4,5,6,7] rfl rfl<|g_ rfl<|xw<|wG (X:=[]) (X':=aL fW [[((ao.mk 0 0),ri.Start)]] [b9]) 0 1 rfl rfl rfl ?_
  try dsimp only
  refine aO (e7 (an.cons rfl<|an.cons rfl<|an.cons rfl<|an.nil _) (fun w hs=>St.br [0,1,2,3,4,5,6,7] rfl rfl hs) (hK5 ⟨b9,trivial⟩))
 refine lJ cG [0,1,2,3,5,6,8,9,11,12] [4,7,10,13] [false,false,false,false,false,false,false,false,false,false] [] [(aT b2 77 [(Value.pointer (some ⟨gw,0,none⟩))]),(rd e_A e.length 1 (e.map iC)).ro,(rd t_A tms.length 1 (List.zipWith cl tms tb)).ro,(cZ (aL ib tms tb)).ro] [] (by kernel_rfl) (fun w hs=>St.br [0,2,3,4] rfl rfl hs) (fun w hs=>St.br [] rfl rfl hs)<|eS rfl (j8 0 rfl jJ rfl)<|eS rfl (j8 0 rfl jJ rfl)<|eS rfl (MV rfl)<|eS rfl (BI rfl (aZ ⟨by omega,by omega⟩))<|eS rfl (MV rfl)<|eS rfl (BI rfl (aZ ⟨by omega,by omega⟩))<|eS rfl (SX (cx rfl rfl) rfl rfl)<|eS rfl (FA 12 rfl kL rfl)<|eS rfl (SX (cx rfl rfl) rfl rfl) ?_
 refine eS rfl (FA 13 rfl mI rfl)<|fw rfl ?_
 refine hO [4,7] (by kernel_rfl) (dI ?_<|dI ?_<|jM)
 rotate_left 1
 ·refine NO rfl rfl [4,10,13] fun T5 hT5=>?_
  refine qT (n:=(ln.aa.n+1)) (es:=(List.map oC (List.replicate (ln.aa.n+1) (none:Option Nat)))) rfl rfl rfl wD (by omega) (by omega) (by simp only [maxLen]; omega) (by rw [List.map_replicate]; rfl) rfl fun b6=>?_
  try dsimp only
  refine RN hT5 [1,3,4,5] rfl rfl<|N1 4<|NO rfl rfl [10,13] fun T7 hT7=>qT (n:=(ln.aa.n+1)) (es:=(List.map oC (List.replicate (ln.aa.n+1) (none:Option Nat)))) rfl rfl rfl wD (by omega) (by omega) (by simp only [maxLen]; omega) (by rw [List.map_replicate]; rfl) rfl fun b8=>?_
  try dsimp only
  refine RN hT7 [2,4,5,6] rfl rfl<|N1 10<|NO rfl rfl [13] fun T9 hT9=>Dq (aN.cells (aN.mk ln ri (av.mk e_A e.length e_C) (av.mk t_A tms.length t_C) (av.mk (some ⟨b8,0,none⟩) (ln.aa.n+1) (ln.aa.n+1)) (av.mk none 0 0))) rfl tY rfl rfl<|RN hT9 [2,4,5,6] rfl rfl<|N1 13<|NO rfl rfl [] fun T10 hT10=>Dq (aN.cells (aN.mk ln ri (av.mk e_A e.length e_C) (av.mk t_A tms.length t_C) (av.mk (some ⟨b8,0,none⟩) (ln.aa.n+1) (ln.aa.n+1)) (av.mk (some ⟨b6,0,none⟩) (ln.aa.n+1) (ln.aa.n+1)))) rfl tY rfl rfl<|RN hT10 [2,4,5,6] rfl rfl<|g8 ?_
  refine aO (e7 (an.cons rfl<|an.cons rfl<|an.cons rfl<|an.nil _) (fun w hs=>St.br [0,1,2,3,4,5,6] rfl rfl hs) (hK4 ⟨((some ⟨b8,0,none⟩),(some ⟨b6,0,none⟩)),trivial⟩))
 refine NO rfl rfl [7,10,13] fun T5 hT5=>qT (n:=(ln.aa.n+1)) (es:=(List.map oC (List.replicate (ln.aa.n+1) (none:Option Nat)))) rfl rfl rfl wD (by omega) (by omega) (by simp only [maxLen]; omega) (by rw [List.map_replicate]; rfl) rfl fun b6=>?_
 try dsimp only
 refine RN hT5 [1,3,4,5] rfl rfl ?_
 refine hO [7,10] (by kernel_rfl) (dI ?_<|dI ?_<|jM)
 rotate_left 1
 ·refine NO rfl rfl [7,13] fun T7 hT7=>?_
  refine G6 (aN.cells (aN.mk ln ri (av.mk e_A e.length e_C) (av.mk t_A tms.length t_C) (av.mk (some ⟨b6,0,none⟩) (ln.aa.n+1) (ln.aa.n+1)) (av.mk none 0 0))) rfl tY rfl rfl<|RN hT7 [1,3,4,5] rfl rfl<|N1 7<|NO rfl rfl [13] fun T8 hT8=>qT (n:=(ln.aa.n+1)) (es:=(List.map oC (List.replicate (ln.aa.n+1) (none:Option Nat)))) rfl rfl rfl wD (by omega) (by omega) (by simp only [maxLen]; omega) (by rw [List.map_replicate]; rfl) rfl fun b9=>?_
  try dsimp only
  refine RN hT8 [2,4,5,6] rfl rfl<|N1 13<|NO rfl rfl [] fun T10 hT10=>Dq (aN.cells (aN.mk ln ri (av.mk e_A e.length e_C) (av.mk t_A tms.length t_C) (av.mk (some ⟨b6,0,none⟩) (ln.aa.n+1) (ln.aa.n+1)) (av.mk (some ⟨b9,0,none⟩) (ln.aa.n+1) (ln.aa.n+1)))) rfl tY rfl rfl<|RN hT10 [2,4,5,6] rfl rfl<|g8 ?_
  refine aO (e7 (an.cons rfl<|an.cons rfl<|an.cons rfl<|an.nil _) (fun w hs=>St.br [1,0,2,3,4,5,6] rfl rfl hs) (hK4 ⟨((some ⟨b6,0,none⟩),(some ⟨b9,0,none⟩)),trivial⟩))
 refine NO rfl rfl [10,13] fun T7 hT7=>qT (n:=(ln.aa.n+1)) (es:=(List.map oC (List.replicate (ln.aa.n+1) (none:Option Nat)))) rfl rfl rfl wD (by omega) (by omega) (by simp only [maxLen]; omega) (by rw [List.map_replicate]; rfl) rfl fun b8=>?_
 try dsimp only
 refine RN hT7 [2,4,5,6] rfl rfl<|N1 10<|NO rfl rfl [13] fun T9 hT9=>Dq (aN.cells (aN.mk ln ri (av.mk e_A e.length e_C) (av.mk t_A tms.length t_C) (av.mk (some ⟨b6,0,none⟩) (ln.aa.n+1) (ln.aa.n+1)) (av.mk none 0 0))) rfl tY rfl rfl<|RN hT9 [2,4,5,6] rfl rfl<|N1 13<|NO rfl rfl [] fun T10 hT10=>Dq (aN.cells (aN.mk ln ri (av.mk e_A e.length e_C) (av.mk t_A tms.length t_C) (av.mk (some ⟨b6,0,none⟩) (ln.aa.n+1) (ln.aa.n+1)) (av.mk (some ⟨b8,0,none⟩) (ln.aa.n+1) (ln.aa.n+1)))) rfl tY rfl rfl<|RN hT10 [2,4,5,6] rfl rfl<|g8 ?_
 refine aO (e7 (an.cons rfl<|an.cons rfl<|an.cons rfl<|an.nil _) (fun w hs=>St.br [1,0,2,3,4,5,6] rfl rfl hs) (hK4 ⟨((some ⟨b6,0,none⟩),(some ⟨b8,0,none⟩)),trivial⟩))
end
end Go.Proofs.YthiigjekcdjkkaaGreat
