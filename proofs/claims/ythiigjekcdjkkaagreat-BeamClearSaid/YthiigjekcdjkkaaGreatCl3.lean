/-
 The statement beamClear_said, part 3 of 5: ExL, DrawB, V1, V3, B1, B4, B2, B3, B5, B6, V2.
 Conditions: none.
-/
import Derived.Test.YthiigjekcdjkkaaGreatCl1
import Derived.Test.YthiigjekcdjkkaaGreatCl2
namespace Go.Proofs.YthiigjekcdjkkaaGreat
section
set_option linter.unusedVariables false
set_option maxRecDepth 20000
def DC:ah:=⟨1,⟨10000,10200⟩,⟨0,0⟩,⟨0,0⟩,0,0⟩
def pQ:ao:=⟨100,[⟨0,⟨0,2⟩⟩,⟨100000,⟨5,6⟩⟩]⟩
def CX (o:Int):aT:=⟨⟨0,⟨o,o⟩⟩,0⟩
def kg (f:Int):aV:=⟨[DC],2000,[pQ],[CX 1000,CX 4000,CX 9000],1,f,1⟩
def gj:bj:=⟨10000,20000,[⟨0,10600⟩,⟨0,11000⟩,⟨1,12600⟩]⟩
theorem tT:bY [DC]=true:=by decide
theorem qQ:dv pQ:=by
 have hi: ∀ (i:Nat) (x:bI),pQ.aJ[i]? =some x→i=0∧x=⟨0,⟨0,2⟩⟩∨i=1∧x=⟨100000,⟨5,6⟩⟩:=fun i x h=>by
  match i with
  |0=>left; simp [pQ] at h; exact ⟨rfl,h.symm⟩
  |1=>right; simp [pQ] at h; exact ⟨rfl,h.symm⟩
  |n+2=>simp [pQ] at h
 refine ⟨by decide,by decide,fun i x hx=>?_,fun i k x o hx hk ho=>?_⟩
 ·rcases hi i x hx with ⟨rfl,rfl⟩|⟨rfl,rfl⟩<;>(unfold de; decide)
 ·rcases hi i x hx with ⟨rfl,rfl⟩|⟨rfl,rfl⟩
  ·omega
  ·rcases hi k o ho with ⟨rfl,rfl⟩|⟨rfl,rfl⟩
   ·unfold fh; decide
   ·omega
theorem sU {o:Int} (h:0≤o∧o<10000):dB [DC] ⟨0,⟨o,o⟩⟩:=⟨by simp,DC,rfl,by show o≤o∧0≤o∧o≤10000-1; omega⟩
theorem vR {f:Int} (hf:0≤f∧f≤3):jB (kg f):=by
 refine ⟨?_,fun c hc=>?_,fun b hb=>?_,fun i hi=>?_⟩
 ·unfold cU; simp [kg]; omega
 ·simp [kg] at hc; subst hc; exact qQ
 ·simp [kg] at hb
  rcases hb with rfl|rfl|rfl
  ·exact ⟨sU (by omega),by simp [CX,kg]⟩
  ·exact ⟨sU (by omega),by simp [CX,kg]⟩
  ·exact ⟨sU (by omega),by simp [CX,kg]⟩
 ·have h3:i<3:=hi
  have:i=0∨i=1∨i=2:=by omega
  rcases this with rfl|rfl|rfl
  ·show (1:Int)≤iw (kg 0) 0; decide
  ·show (1:Int)≤iw (kg 0) 1; decide
  ·show (1:Int)≤iw (kg 0) 2; decide
def cM:aV:=kg 1
def hM:aV:=kg 0
theorem yV:cw cM=0:=gR tT (vR (by omega))
theorem Eu:cw hM=0:=gR tT (vR (by omega))
theorem y7 {r x:Int} (h0:0<x) (h1:x≤86400000) (hy:fE pQ r x=true) (hn:fE pQ r (x-1)=false):ej (fE pQ r) 86400001=x:=
 rP (by omega) (by omega) hy fun z hz hzx=>by
  cases e:fE pQ r z with
  |false=>rfl
  |true=>
   unfold fE at e hn
   have:=(kl qQ hz (show z≤x-1 by omega) (by omega)).2
   have e1:=of_decide_eq_true e
   have e2:=of_decide_eq_false hn
   omega
theorem yW {r x:Int} (h0:0<x) (h1:x≤86400000) (hy:fB pQ r x=true) (hn:fB pQ r (x-1)=false):ej (fB pQ r) 86400001=x:=
 rP (by omega) (by omega) hy fun z hz hzx=>by
  cases e:fB pQ r z with
  |false=>rfl
  |true=>
   unfold fB at e hn
   have:=(kl qQ hz (show z≤x-1 by omega) (by omega)).1
   have e1:=of_decide_eq_true e
   have e2:=of_decide_eq_false hn
   omega
theorem Dz:l5 pQ 10600=⟨10596,10602⟩:=by unfold l5; rw [y7 (x:=10596) (by omega) (by omega) (by decide) (by decide),yW (x:=10603) (by omega) (by omega) (by decide) (by decide)]; rfl
theorem Ef:l5 pQ 11000=⟨10996,11002⟩:=by unfold l5; rw [y7 (x:=10996) (by omega) (by omega) (by decide) (by decide),yW (x:=11003) (by omega) (by omega) (by decide) (by decide)]; rfl
theorem DW:l5 pQ 12600=⟨12596,12602⟩:=by unfold l5; rw [y7 (x:=12596) (by omega) (by omega) (by decide) (by decide),yW (x:=12603) (by omega) (by omega) (by decide) (by decide)]; rfl
def CV (f:Int):bg:=⟨10000,20000,[500,1500,2500],[[(0,⟨10596,10602⟩),(1,⟨10996,11002⟩)],[(2,⟨12596,12602⟩)],[]],1,f,3⟩
theorem Ba (f:Int):cp (kg f) ⟨0,10600⟩=⟨10596,10602⟩:=Dz
theorem Eg (f:Int):cp (kg f) ⟨0,11000⟩=⟨10996,11002⟩:=Ef
theorem Da (f:Int):cp (kg f) ⟨1,12600⟩=⟨12596,12602⟩:=DW
theorem yv (f:Int):bf (kg f) gj.ae 3=[[(0,⟨10596,10602⟩),(1,⟨10996,11002⟩)],[(2,⟨12596,12602⟩)],[]]:=by
 have o: ∀ b:Nat,iu (kg f) gj.ae 3 b=(jY (kg f) gj.ae b 0).toList++((jY (kg f) gj.ae b 1).toList++(jY (kg f) gj.ae b 2).toList):=fun b=>by
  rw [iy,iy,iy]; simp [iu]
 have t0: ∀ b:Nat,jY (kg f) gj.ae b 0=if (0:Int)=(b:Int) then some (0,⟨10596,10602⟩) else none:=fun b=>by
  show (if (0:Int)=(b:Int)∧(cp (kg f) ⟨0,10600⟩).Lo≤(cp (kg f) ⟨0,10600⟩).Hi then some (((0:Nat):Int),cp (kg f) ⟨0,10600⟩) else none)=_
  rw [Ba]; by_cases h:(0:Int)=(b:Int)
  ·rw [if_pos h,if_pos ⟨h,by decide⟩]; rfl
  ·rw [if_neg h,if_neg fun q=>h q.1]
 have t1: ∀ b:Nat,jY (kg f) gj.ae b 1=if (0:Int)=(b:Int) then some (1,⟨10996,11002⟩) else none:=fun b=>by
  show (if (0:Int)=(b:Int)∧(cp (kg f) ⟨0,11000⟩).Lo≤(cp (kg f) ⟨0,11000⟩).Hi then some (((1:Nat):Int),cp (kg f) ⟨0,11000⟩) else none)=_
  rw [Eg]; by_cases h:(0:Int)=(b:Int)
  ·rw [if_pos h,if_pos ⟨h,by decide⟩]; rfl
  ·rw [if_neg h,if_neg fun q=>h q.1]
 have t2: ∀ b:Nat,jY (kg f) gj.ae b 2=if (1:Int)=(b:Int) then some (2,⟨12596,12602⟩) else none:=fun b=>by
  show (if (1:Int)=(b:Int)∧(cp (kg f) ⟨1,12600⟩).Lo≤(cp (kg f) ⟨1,12600⟩).Hi then some (((2:Nat):Int),cp (kg f) ⟨1,12600⟩) else none)=_
  rw [Da]; by_cases h:(1:Int)=(b:Int)
  ·rw [if_pos h,if_pos ⟨h,by decide⟩]; rfl
  ·rw [if_neg h,if_neg fun q=>h q.1]
 show [iu (kg f) gj.ae 3 0,iu (kg f) gj.ae 3 1,iu (kg f) gj.ae 3 2]=_
 rw [o,o,o,t0,t0,t0,t1,t1,t1,t2,t2,t2]
 rfl
theorem qx (f:Int):a6 (kg f) gj=CV f:=by
 unfold a6 CV
 rw [show gj.ae.length=3 from rfl,yv]
 rfl
theorem vL (f:Int):c7 (kg f) gj:=by
 refine ⟨by decide,by decide,fun i s hs=>?_⟩
 match i with
 |0=>simp [gj] at hs; subst hs; unfold dK eb; simp [kg,fO]
 |1=>simp [gj] at hs; subst hs; unfold dK eb; simp [kg,fO,gj]
 |2=>simp [gj] at hs; subst hs; unfold dK eb; simp [kg,fO,gj]
 |n+3=>simp [gj] at hs
theorem td:dJ (a6 cM gj)=[2,3]:=by rw [show a6 cM gj=CV 1 from qx 1]; decide
theorem x7:dJ (a6 hM gj)=[]:=by rw [show a6 hM gj=CV 0 from qx 0]; decide
theorem mG:cD cM gj 0=0:=iX yV (vL 1) rfl (by rw [td]; decide)
theorem yO:cD hM gj 0=8:=cV Eu (vL 0) rfl x7
theorem qi:cJ cM gj=[2,3]:=by rw [gH mG,td]
theorem yR:dG cM gj=2:=by unfold dG; rw [if_pos mG,qi]; decide
theorem yG:gN cM 0 10000=0∧cN cM 0 10000=⟨-1,3⟩:=by
 have h:=jV (l:=cM) (ck:=0) (at_:=10000) yV (by decide) (c:=pQ) rfl
 exact ⟨h.1,h.2.trans (by decide)⟩
theorem vX:iO cM ⟨0,10600⟩=0∧ju cM ⟨0,10600⟩=⟨10596,10602⟩:=by
 have hf:cp cM ⟨0,10600⟩=⟨10596,10602⟩:=Ba 1
 have h:=mW (l:=cM) (s:=⟨0,10600⟩) yV (by decide) (by rw [hf]; decide)
 exact ⟨h.1,h.2.trans hf⟩
theorem zb {b:Nat} (hb:b<3):cD cM gj (fI cM b)=0:=by rw [tn (by show 0≤(b:Int)∧(b:Int)≤3-1; omega)]; exact mG
theorem vZ {b:Nat} {z:ab} (hb:b<3) (hz:gG (dR (CV 1) b)=z) (hn:z≠gT):cS cM gj b=0∧bR cM gj b=z:=by
 have e:j0 cM gj b=z:=by unfold j0; rw [show a6 cM gj=CV 1 from qx 1]; exact hz
 have h:=fr (zb hb) (by rw [e]; exact hn)
 exact ⟨h.1,h.2.trans e⟩
theorem xQ:cS cM gj 0=0∧bR cM gj 0=⟨10596,11002⟩:=vZ (b:=0) (by omega) (by decide) (by decide)
theorem oA:cS cM gj 1=0∧bR cM gj 1=⟨12596,12602⟩:=vZ (b:=1) (by omega) (by decide) (by decide)
theorem zq:cS cM gj cM.aB=0∧l6 cM gj=⟨2596,2602⟩:=by
 refine ⟨oA.1,?_⟩
 rw [sh (l:=cM) (r:=gj) oA.1]
 rw [show bR cM gj cM.aB=⟨12596,12602⟩ from oA.2]
 rfl
theorem ym {x:av} (h:gj.ae[0]? =some x):x=⟨0,10600⟩:=by simp [gj] at h; exact h.symm
theorem A_ (f:Int) {a:Option Addr} {c:Nat} (hc:2≤c):dM (kg f) [(a,c)]:=by
 refine ⟨by simp [kg],?_,by simp [kg],rfl,by simp [kg],fun k m a' hm ha=>?_⟩
 ·intro x hx; simp [kg] at hx; subst hx; simp [DC]
 ·match k with
  |0=>simp [kg] at hm ha; subst hm; subst ha; simp [pQ]; exact hc
  |n+1=>simp at ha
end
section
set_option linter.unusedVariables false
theorem TN.sub {E:eu} {ops:Array Oper} {Q:cZ} {D:List Deferred} {C' C1 C:List aD} {tb rem:List Nat}: ∀ {n:Nat} {L L':List (Nat×Value)},an L L'→TN E ops D C' C1 (fun L C=>KJ E (Q .normal) D L C) tb n rem L' C→TN E ops D C' C1 (fun L C=>KJ E (Q .normal) D L C) tb n rem L C:=by
 intro n
 cases n with
 |zero=>intro L L' hs h; exact iz hs (fun _ h=>h) h
 |succ n=>intro L L' hs h i hi o ho K hK; exact Bc hs (fun _ h=>h) (h i hi o ho K hK)
theorem pS {E:eu} {ops:Array Oper} {Q:cZ} {D:List Deferred} {C' C1 C:List aD} {bs:List Bool} {os:List Oper} {L:List (Nat×Value)} {tb rem:List Nat} {n:Nat} {t:Nat} {b:Bool} (h:L.lookup t=some (.bool b))
 (h1:b=true→oJ E ops D C' C1 (fun L'=>TN E ops D C' C1 (fun L C=>KJ E (Q .normal) D L C) tb n rem L' C) bs os ((t,.bool true)::L)) (h2:b=false→oJ E ops D C' C1 (fun L'=>TN E ops D C' C1 (fun L C=>KJ E (Q .normal) D L C) tb n rem L' C) bs os ((t,.bool false)::L)):
 oJ E ops D C' C1 (fun L'=>TN E ops D C' C1 (fun L C=>KJ E (Q .normal) D L C) tb n rem L' C) bs os L:=by
 have hsub: ∀ v:Bool,b=v→an L ((t,.bool v)::L):=fun v hv=>an.cons (hv▸h) (fun _ _ h=>h)
 cases b
 ·exact oJ.mono (fun _ _=>TN.sub) (hsub _ rfl) (h2 rfl)
 ·exact oJ.mono (fun _ _=>TN.sub) (hsub _ rfl) (h1 rfl)
end
section
open Go.RowKit
set_option linter.unusedVariables false
theorem kU:qX Tryz.prog 124 cg:=z_ AY (fun x y w=>CS 9998 x y w) (fun x y h=>by cases x; cases y; simp [aq.cells] at h; simp [h]) (fun x=>by simp [aq.cells,Instr.sameBits]) (fun x w=>⟨_,rfl,fun p hp=>by
 simp only [List.mem_cons,List.not_mem_nil,or_false] at hp
 rcases hp with rfl|rfl
 ·exact ⟨⟨_,fq bk rfl w⟩,_,rl⟩
 ·exact ⟨⟨_,fq bk rfl w⟩,_,rl⟩⟩)
set_option maxRecDepth 100000 in
set_option maxHeartbeats 400000 in
theorem x5 (s:Int):
 dY Tryz.prog 70 [(Value.int .i64 s)] [] (Value.agg (aq.cells (dI s)).toArray):=by
 refine bG Gh Tryz.func70 rfl rfl fun w0 Q hQ hN=>?_
 try dsimp only
 refine WS fun _ hK1=>AL rfl oh fun b2=>RK hK1<|aw fun _ hK3=>WS fun _ hK4=>rS (MV rfl)<|rS (BI rfl cq)<|RK hK4 ?_
 refine bp rfl (fun h4=>?_) (fun h4=>?_)
 ·replace h4:=DT h4
  refine WS fun _ hK5=>rS (SX (aS (xs:=[(1,.const (Value.int .i64 1))]) (cs:=(aq.cells (aq.mk 0 1))) rfl rfl (aR tU rfl)) rfl rfl)<|e7 rfl nv rfl<|RK hK5<|aE ?_
  refine hQ _ _ _ (bD (vs:=[(Value.agg (aq.cells (aq.mk 0 1)).toArray)]) ⟨⟨_,rfl,.inl ⟨_,_,ke,cd (vs:=(aq.cells (aq.mk 0 1))) 0 rfl rfl,rfl,rfl⟩⟩,trivial⟩ fun w hs=>eR ?_ hs)
  show (Value.agg (aq.cells (aq.mk 0 1)).toArray)=(Value.agg (aq.cells (dI s)).toArray)
  clear hs w hQ hN hK5 hK4 hK3 hK1
  unfold dI; first|rw [if_pos h4]|rw [if_neg h4]
 replace h4:=DF h4
 refine WK hK3<|WS fun _ hK6=>rS (SX (aS (xs:=[(0,.const (Value.int .i64 1))]) (cs:=(aq.cells (aq.mk 1 0))) rfl rfl (aR tU rfl)) rfl rfl)<|e7 rfl nv rfl<|RK hK6<|aE ?_
 refine hQ _ _ _ (bD (vs:=[(Value.agg (aq.cells (aq.mk 1 0)).toArray)]) ⟨⟨_,rfl,.inl ⟨_,_,ke,cd (vs:=(aq.cells (aq.mk 1 0))) 0 rfl rfl,rfl,rfl⟩⟩,trivial⟩ fun w hs=>eR ?_ hs)
 show (Value.agg (aq.cells (aq.mk 1 0)).toArray)=(Value.agg (aq.cells (dI s)).toArray)
 clear hs w hQ hN hK6 hK4 hK3 hK1
 unfold dI; first|rw [if_pos h4]|rw [if_neg h4]
set_option maxRecDepth 100000 in
set_option maxHeartbeats 400000 in
theorem p7 (x:aq) (y:aq) (hx:(0≤x.right∧x.right≤1000)∧0≤x.dn∧x.dn≤1000) (hy:(0≤y.right∧y.right≤1000)∧0≤y.dn∧y.dn≤1000):
 dY Tryz.prog 69 [(Value.agg (aq.cells x).toArray),(Value.agg (aq.cells y).toArray)] [] (Value.agg (aq.cells (dc x y)).toArray):=by
 refine bG EV Tryz.func69 rfl rfl fun w0 Q hQ hN=>?_
 try dsimp only
 refine WS fun _ hK1=>gv rfl fun b2=>gv rfl fun b3=>AL rfl oh fun b4=>RK hK1<|WS fun _ hK5=>rS (FA 0 rfl sN rfl)<|rS (L1 (Value.int .i64 x.right) 2 rfl bk rfl rfl)<|rS (FA 0 rfl sN rfl)<|rS (L1 (Value.int .i64 y.right) 1 rfl bk rfl rfl) ?_
 refine rS (BI rfl (a9 ⟨by omega,by omega⟩))<|rS (FA 1 rfl sD rfl)<|rS (L1 (Value.int .i64 x.dn) 2 rfl bk rfl rfl)<|rS (FA 1 rfl sD rfl)<|rS (L1 (Value.int .i64 y.dn) 1 rfl bk rfl rfl)<|rS (BI rfl (a9 ⟨by omega,by omega⟩))<|rS (SX (aS (xs:=[(0,.tmp 9),(1,.tmp 14)]) (cs:=(aq.cells (aq.mk (x.right+y.right) (x.dn+y.dn)))) rfl rfl (aR tU rfl)) rfl rfl)<|e7 rfl nv rfl<|RK hK5<|aE ?_
 refine hQ _ _ _ (bD (vs:=[(Value.agg (aq.cells (aq.mk (x.right+y.right) (x.dn+y.dn))).toArray)]) ⟨⟨_,rfl,.inl ⟨_,_,ke,cd (vs:=(aq.cells (aq.mk (x.right+y.right) (x.dn+y.dn)))) 0 rfl rfl,rfl,rfl⟩⟩,trivial⟩ fun w hs=>eR ?_ hs)
 show (Value.agg (aq.cells (aq.mk (x.right+y.right) (x.dn+y.dn))).toArray)=(Value.agg (aq.cells (dc x y)).toArray)
 clear hs w hQ hN hK5 hK1
 rfl
set_option maxRecDepth 100000 in
set_option maxHeartbeats 400000 in
theorem Bq (ln:aG) (ri:aN) (e:List Int) (tms:List TM) (e_A:Option Addr) (e_C:Nat) (tb:List Nat) (t_A:Option Addr) (t_C:Nat) (fs:List FM) (bs:List FM) (fb:List Nat) (f_A:Option Addr) (f_C:Nat) (bb:List Nat) (b_A:Option Addr) (b_C:Nat) (gw:Nat) (x:aq) (hx:(0≤x.right∧x.right≤1000)∧0≤x.dn∧x.dn≤1000) (hn:ri.ae.n≤1000):
 dY Tryz.prog 62 [(Value.pointer (some ⟨gw,0,none⟩)),(Value.agg (aq.cells x).toArray)] [(rd e_A e.length 1 (e.map iC)),(rd t_A tms.length 1 (List.zipWith cb tms tb)),(c_ (aP gJ tms tb)),(rd f_A fs.length 1 (List.zipWith cb fs fb)),(c_ (aP e8 fs fb)),(rd b_A bs.length 1 (List.zipWith cb bs bb)),(c_ (aP e8 bs bb)),(aU gw 117 (aK.cells (aK.mk ln ri (aA.mk e_A e.length e_C) (aA.mk t_A tms.length t_C) (aA.mk f_A fs.length f_C) (aA.mk b_A bs.length b_C))))] (Value.bool (kj (bL ln ri e tms) x)):=by
 refine bG Gx Tryz.func62 rfl rfl fun w0 Q hQ hN=>?_
 try dsimp only
 refine WS fun _ hK1=>gv rfl fun b2=>rS (AG rfl)<|RK hK1<|aw fun _ hK3=>dj ct 26 (by kernel_rfl)<|dS (FA 1 rfl sD rfl)<|dS (L1 (Value.int .i64 x.dn) 0 rfl bk rfl rfl)<|dS (MV rfl)<|dS (SX (cl rfl rfl) rfl rfl) ?_
 refine dS (FA 0 rfl pY rfl)<|dS (FA 6 rfl sk rfl)<|dS (l9 (Value.int .i64 ln.aO) 8 rfl bk rfl rfl)<|dS (BI rfl eT)<|dS (MV rfl) ?_
 refine db (t:=13) rfl (fun h13=>?_) (fun h13=>?_)
 rotate_left 1
 ·replace h13:=DF h13
  refine dS (OX rfl)<|dS (OX rfl)<|dS (OX rfl)<|dS (OX rfl)<|dS (OX rfl)<|dS (OX rfl)<|dS (OX rfl)<|dS (OX rfl)<|dS (OX rfl)<|dS (OX rfl) ?_
  refine dS (OX rfl)<|dS (OX rfl)<|dS (OX rfl)<|dS (OX rfl)<|dS (OX rfl)<|dS (PK rfl)<|dS (AG rfl)<|cE<|RK hK3<|aE ?_
  refine Q1 hQ rfl rfl rfl ?_
  first|exact congrArg Value.bool (decide_eq_false (fun h=>h13 h.1)).symm|exact congrArg Value.bool (decide_eq_decide.2 ⟨fun h=>⟨h13,h⟩,fun h=>h.2⟩)
 replace h13:=DT h13
 refine dS (MV rfl)<|dS (SX (cl rfl rfl) rfl rfl)<|dS (FA 7 rfl m6 rfl)<|dS (FA 9 rfl hH rfl)<|dS (l9 (Value.slice ri.ae.a ri.ae.n ri.ae.c) 8 rfl nK rfl rfl)<|dS (LN rfl sE)<|dS (FA 0 rfl sN rfl)<|dS (L1 (Value.int .i64 x.right) 0 rfl bk rfl rfl)<|dS (BI rfl (cr ⟨by omega,by omega⟩))<|dS (MV rfl) ?_
 refine dS (SX (cl rfl rfl) rfl rfl)<|dS (FA 0 rfl pY rfl)<|dS (FA 5 rfl sx rfl)<|dS (l9 (Value.int .i64 ln.aZ) 8 rfl bk rfl rfl)<|dS (BI rfl eT)<|dS (PK rfl)<|dS (AG rfl)<|cE<|RK hK3<|aE ?_
 refine Q1 hQ rfl rfl rfl ?_
 first|exact congrArg Value.bool (decide_eq_false (fun h=>h13 h.1)).symm|exact congrArg Value.bool (decide_eq_decide.2 ⟨fun h=>⟨h13,h⟩,fun h=>h.2⟩)
end
section
open Go.RowKit
set_option linter.unusedVariables false
set_option maxRecDepth 100000 in
set_option maxHeartbeats 400000 in
theorem mT (ln:aG) (ri:aN) (e:List Int) (tms:List TM) (e_A:Option Addr) (e_C:Nat) (tb:List Nat) (t_A:Option Addr) (t_C:Nat) (fs:List FM) (bs:List FM) (fb:List Nat) (f_A:Option Addr) (f_C:Nat) (bb:List Nat) (b_A:Option Addr) (b_C:Nat) (gw:Nat) (hw:xA (bL ln ri e tms)) (hsg:ri.ae.n≤1000) (hn:ln.aa.n=e.length) (hfw:pE (bL ln ri e tms) fs) (hfb:fb.length=fs.length):
 rM Tryz.prog 34 [(Value.pointer (some ⟨gw,0,none⟩))] [(rd e_A e.length 1 (e.map iC)),(rd t_A tms.length 1 (List.zipWith cb tms tb)),(c_ (aP gJ tms tb)),(rd f_A fs.length 1 (List.zipWith cb fs fb)),(c_ (aP e8 fs fb)),(rd b_A bs.length 1 (List.zipWith cb bs bb)),(c_ (aP e8 bs bb)),(aU gw 117 (aK.cells (aK.mk ln ri (aA.mk e_A e.length e_C) (aA.mk t_A tms.length t_C) (aA.mk f_A fs.length f_C) (aA.mk b_A bs.length b_C))))] (fun (x:(Option Addr)×Nat)=>(Value.slice x.1 ((dJ (bL ln ri e tms)).length) x.2)) (fun (x:(Option Addr)×Nat)=>True) (fun (x:(Option Addr)×Nat)=>[(own x.1 x.2 3 1 ((dJ (bL ln ri e tms)).map iC))]):=by
 have hw6:e.length≤6:=hw.n
 have hfl:fs.length=e.length+1:=hfw.len
 refine gX E4 Tryz.func34 rfl rfl fun w0 Q hQ hN=>?_
 try dsimp only
 refine WS fun _ hK1=>rS (AG rfl)<|RK hK1<|WS fun _ hK2=>rS (AG rfl)<|RK hK2<|aw fun _ hK3=>WS fun _ hK4=>rS (MV rfl)<|rS (SX (cl rfl rfl) rfl rfl) ?_
 refine rS (FA 0 rfl pY rfl)<|rS (FA 3 rfl dQ rfl)<|rS (l9 (Value.slice ln.aa.a ln.aa.n ln.aa.c) 7 rfl hP rfl rfl)<|rS (LN rfl jz)<|rS (BI rfl (a9 ⟨by omega,by omega⟩))<|rS (MV rfl)<|RK hK4<|aH<|fY 3 1 ?_
 have hinit:(0≤e.length+1):=by exact Nat.zero_le _
 refine cP (ι:={z:Nat×(Option Addr)×Nat // (z.1≤e.length+1)}) (fun z=>[(0,(Value.pointer (some ⟨gw,0,none⟩))),(3,(Value.slice z.1.2.1 ((gu (bL ln ri e tms) z.1.1).length) z.1.2.2)),(12,(Value.int .i64 (((ln.aa.n:Nat):Int)+1))),(13,(Value.int .i64 ((z.1.1:Nat):Int)))]) (fun z=>[(own z.1.2.1 z.1.2.2 3 1 ((gu (bL ln ri e tms) z.1.1).map iC)),(rd e_A e.length 1 (e.map iC)).ro,(rd t_A tms.length 1 (List.zipWith cb tms tb)).ro,(c_ (aP gJ tms tb)).ro,(rd f_A fs.length 1 (List.zipWith cb fs fb)).ro,(c_ (aP e8 fs fb)).ro,(rd b_A bs.length 1 (List.zipWith cb bs bb)).ro,(c_ (aP e8 bs bb)).ro,(aU gw 117 (aK.cells (aK.mk ln ri (aA.mk e_A e.length e_C) (aA.mk t_A tms.length t_C) (aA.mk f_A fs.length f_C) (aA.mk b_A bs.length b_C)))).ro]) (fun z=>e.length+1-z.1.1) ⟨(0,none,0),hinit⟩ (an.cons rfl<|an.cons rfl<|an.cons rfl<|an.cons rfl<|an.nil _) (fun w hs=>St.bB [0,1,2,3,4,5,6,7,8] rfl rfl hs) ?_
 clear hinit
 rintro ⟨⟨n,a,c⟩,hl3_0⟩ J5 hJ5
 try dsimp only at hl3_0
 try dsimp only
 refine WS fun _ hK6=>rS (BI rfl cq)<|RK hK6<|aw fun _ hK7=>?_
 refine bp rfl (fun h8=>?_) (fun h8=>?_)
 rotate_left 1
 ·replace h8:=DF h8
  refine bM<|ai<|ai<|aI<|KK hK3<|WS fun _ hK26=>?_
  rw [show gu (bL ln ri e tms) n=dJ (bL ln ri e tms) by (obtain rfl:n=e.length+1:=by omega); rfl]
  refine rS (MV rfl)<|rS (AG rfl)<|RK hK26<|aE ?_
  refine hQ _ _ _ (bD (vs:=[(Value.slice a ((dJ (bL ln ri e tms)).length) c)]) ⟨rfl,trivial⟩ fun w hs=>fj (a,c) [0] ?_ ?_ rfl rfl rfl hs)
  ·rfl
  ·trivial
 replace h8:=DT h8
 refine WK hK7<|aw fun _ hK9=>aH<|WS fun _ hK10=>rS (MV rfl)<|rS (AG rfl)<|RK hK10<|WS fun _ hK11=>rS (MV rfl)<|rS (SX (cl rfl rfl) rfl rfl) ?_
 refine rS (FA 12 rfl jL rfl)<|rS (l9 (Value.slice f_A fs.length f_C) 8 rfl j9 rfl rfl)<|rS (MV rfl) ?_
 obtain ⟨m,hm0⟩: ∃ y_,fs[n]? =some y_:=⟨fs[n]'(by omega),List.getElem?_eq_getElem _⟩
 obtain ⟨ma,hm0a⟩: ∃ y_,fb[n]? =some y_:=⟨fb[n]'(by omega),List.getElem?_eq_getElem _⟩
 have hm0m:(List.zipWith cb fs fb)[n]? =some (cb m ma):=jH hm0 hm0a
 refine rS (IA n rfl (aQ 4 rfl) kv (by decide) (by omega) (by omega))<|rS (ir n 0 (Value.map (some ma)) rfl lZ (aQ 4 rfl) hm0m rfl (by decide) rfl)<|lx (kV:=cg) (m:=bu iV m) 5 rfl rfl kY rfl ⟨⟨(jr cg ma (bu iV m)),(fg hm0 hm0a (by simp [e8])),rfl⟩,fun h=>h⟩ (show nj _ (jr cg ma (bu iV m)).holds from jI 5 rfl (fg hm0 hm0a (by simp [e8]))) rfl fun r12=>?_
 try dsimp only
 refine RK hK11<|aH ?_
 have hinit:(∀ p∈m,p∈m)∧(∀ p∈m,p∈m∨kj (bL ln ri e tms) p.1=false):=by exact ⟨fun p hp=>hp,fun p hp=> .inl hp⟩
 refine cP (ι:={z:FM // (∀ p∈z,p∈m)∧(∀ p∈m,p∈z∨kj (bL ln ri e tms) p.1=false)}) (fun z=>[(0,(Value.pointer (some ⟨gw,0,none⟩))),(3,(Value.slice a ((gu (bL ln ri e tms) n).length) c)),(4,(Value.int .i64 ((n:Nat):Int))),(12,(Value.int .i64 (((ln.aa.n:Nat):Int)+1))),(13,(Value.int .i64 ((n:Nat):Int))),(23,(Value.pointer (some ⟨r12,0,none⟩)))]) (fun z=>[(nV cg r12 ma (bu iV m) (bu iV z.1) none),(own a c 3 1 ((gu (bL ln ri e tms) n).map iC)),(rd e_A e.length 1 (e.map iC)).ro,(rd t_A tms.length 1 (List.zipWith cb tms tb)).ro,(c_ (aP gJ tms tb)).ro,(rd f_A fs.length 1 (List.zipWith cb fs fb)).ro,(c_ (aP e8 fs fb)).ro,(rd b_A bs.length 1 (List.zipWith cb bs bb)).ro,(c_ (aP e8 bs bb)).ro,(aU gw 117 (aK.cells (aK.mk ln ri (aA.mk e_A e.length e_C) (aA.mk t_A tms.length t_C) (aA.mk f_A fs.length f_C) (aA.mk b_A bs.length b_C)))).ro]) (fun z=>z.1.length) ⟨m,hinit⟩ (an.cons rfl<|an.cons rfl<|an.cons rfl<|an.cons rfl<|an.cons rfl<|an.cons rfl<|an.nil _) (fun w hs=>St.bB [0,1,2,3,4,5,6,7,8,9] rfl rfl hs) ?_
 clear hinit
 rintro ⟨left,⟨hl6_0,hl6_1⟩⟩ J13 hJ13
 try dsimp only
 refine WS fun _ hK14=>?_
 refine ko kU.inj (f:=iV) 0 rfl rfl rfl rfl (fun h24=>?_) (fun t v hm hnd=>?_)
 ·refine rS (EX rfl) ?_
  refine RK hK14<|aw fun _ hK15=>bH rfl<|bM<|ai<|ai<|aI<|aL<|KK hK9<|aC ?_
  refine rS (BI rfl (a9 ⟨by omega,by omega⟩))<|rS (MV rfl)<|aX ?_
  rw [← wA (w:=(bL ln ri e tms)) (k:=n) ((uo (hfw.min _ _ hm0) (hfw.keys _ _ hm0)).symm.trans (xJ hl6_1 h24))]
  have hb16:(Value.int .i64 (((n+1):Nat):Int))=(Value.int .i64 (((n:Nat):Int)+1)):=by exact congrArg (Value.int .i64) (by omega)
  refine aY (hJ5 ⟨((n+1),a,c),(by first|omega|(simp only []; omega))⟩ _ _ _ rfl (by first|omega|(simp; omega)) (an.cons rfl<|an.cons rfl<|an.cons rfl<|a_ rfl hb16<|an.nil _) (fun w hs=>St.bB [1,2,3,4,5,6,7,8,9] rfl rfl hs))
 try dsimp only
 refine rS (EX rfl)<|RK hK14<|aw fun _ hK17=>aW rfl<|WK hK17<|aH<|WS fun _ hK18=>rS (SX (kz 0 rfl rfl rfl) rfl rfl)<|rS (EX rfl)<|AL rfl oh fun b19=>?_
 refine e7 rfl nv rfl<|RK hK18<|WS fun _ hK20=>rS (MV rfl)<|rS (LW 0 rfl ke rfl rfl) ?_
 have htb:=xU hw _ _ (hfw.mem hm0 (hl6_0 _ hm))
 dsimp only at htb
 refine rS (CL (Bq ln ri e tms e_A e_C tb t_A t_C fs bs fb f_A f_C bb b_A b_C gw t (by first|assumption|omega|(simp; done)|(simp; omega)) hsg) (ax 3 rfl rfl<|ax 4 rfl rfl<|ax 5 rfl rfl<|ax 6 rfl rfl<|ax 7 rfl rfl<|ax 8 rfl rfl<|ax 9 rfl rfl<|ax 10 rfl rfl<|ar) rfl)<|RK hK20 ?_
 refine bp rfl (fun h30=>?_) (fun h30=>?_)
 rotate_left 1
 ·refine cH ?_
  refine aL<|mq (C':=[(aU b19 124 (aq.cells t)),(nV cg r12 ma (bu iV m) (bu iV (cL left t)) none),(own a c 3 1 ((gu (bL ln ri e tms) n).map iC)),(rd e_A e.length 1 (e.map iC)).ro,(rd t_A tms.length 1 (List.zipWith cb tms tb)).ro,(c_ (aP gJ tms tb)).ro,(rd f_A fs.length 1 (List.zipWith cb fs fb)).ro,(c_ (aP e8 fs fb)).ro,(rd b_A bs.length 1 (List.zipWith cb bs bb)).ro,(c_ (aP e8 bs bb)).ro,(aU gw 117 (aK.cells (aK.mk ln ri (aA.mk e_A e.length e_C) (aA.mk t_A tms.length t_C) (aA.mk f_A fs.length f_C) (aA.mk b_A bs.length b_C)))).ro]) 1 rfl kL rfl ?_
  refine aY (hJ13 ⟨(cL left t),⟨jw hl6_0,xO hnd hm hl6_1 (by first|exact h30|simpa using h30)⟩⟩ _ _ _ rfl (iH hm) (an.cons rfl<|an.cons rfl<|an.cons rfl<|an.cons rfl<|an.cons rfl<|an.cons rfl<|an.nil _) (fun w hs=>St.bB [1,2,3,4,5,6,7,8,9,10] rfl rfl hs))
 refine WS fun _ hK21=>rS (MV rfl)<|rS (MV rfl)<|dV (xs:=[.tmp 32]) (cs:=[(Value.int .i64 ((n:Nat):Int))]) rfl di kb rfl rfl rfl rfl (by simp [Value.cells]) rfl rfl fun b22=>?_
 have hy:hG (bL ln ri e tms) (fwd (bL ln ri e tms) n)=true:=(uo (hfw.min _ _ hm0) (hfw.keys _ _ hm0)).symm.trans (zQ (hl6_0 _ hm) h30)
 refine gz (es2:=(List.map iC (gu (bL ln ri e tms) (n+1)))) (m':=(gu (bL ln ri e tms) (n+1)).length) 3 rfl rfl rfl tF rfl rfl (by simp) (a4 (es:=List.map iC [((n:Nat):Int)]) 0 rfl rfl (by simp [bO]) rfl) (mu _) (by have:=nL (w:=(bL ln ri e tms)) (k:=n); first|omega|(simp; omega)) (by have:=nL (w:=(bL ln ri e tms)) (k:=n); simp only [maxLen]; omega) (by rw [uU hy]; simp) (by simp) rfl fun a23 c24=>?_
 try dsimp only
 refine rS (AG rfl)<|RK hK21<|bM<|dZ rfl<|ai<|aI<|aL<|KK hK9<|aC<|rS (BI rfl (a9 ⟨by omega,by omega⟩)) ?_
 refine rS (MV rfl)<|aX ?_
 have hb25:(Value.int .i64 (((n+1):Nat):Int))=(Value.int .i64 (((n:Nat):Int)+1)):=by exact congrArg (Value.int .i64) (by omega)
 refine aY (hJ5 ⟨((n+1),a23,c24),(by first|omega|(simp only []; omega))⟩ _ _ _ rfl (by first|omega|(simp; omega)) (an.cons rfl<|an.cons rfl<|an.cons rfl<|a_ rfl hb25<|an.nil _) (fun w hs=>St.bB [3,4,5,6,7,8,9,10,11] rfl rfl hs))
end
section
open Go.RowKit
set_option linter.unusedVariables false
set_option maxRecDepth 100000 in
set_option maxHeartbeats 400000 in
theorem kQ (n:Int) (lo:Int) (hi:Int):
 dY Tryz.prog 88 [(Value.int .i64 n),(Value.int .i64 lo),(Value.int .i64 hi)] [] (Value.bool (decide (lo≤n∧n≤hi))):=by
 refine bG FE Tryz.func88 rfl rfl fun w0 Q hQ hN=>?_
 try dsimp only
 refine WS fun _ hK1=>rS (AG rfl)<|RK hK1<|WS fun _ hK2=>rS (MV rfl)<|rS (MV rfl)<|rS (BI rfl il)<|rS (MV rfl) ?_
 refine bo (t:=10) rfl (fun h3=>?_) (fun h3=>?_)
 rotate_left 1
 ·replace h3:=DF h3
  refine rS (OX rfl)<|rS (OX rfl)<|rS (OX rfl)<|rS (PK rfl)<|rS (AG rfl)<|RK hK2<|aE<|Q1 hQ rfl rfl rfl ?_
  exact congrArg Value.bool (decide_eq_false (by omega)).symm
 replace h3:=DT h3
 refine rS (MV rfl)<|rS (MV rfl)<|rS (BI rfl eT)<|rS (PK rfl)<|rS (AG rfl)<|RK hK2<|aE<|Q1 hQ rfl rfl rfl ?_
 exact congrArg Value.bool (decide_eq_decide.2 (by omega))
set_option maxRecDepth 100000 in
set_option maxHeartbeats 400000 in
theorem lE (s:ab) (lo:Int) (hi:Int):
 dY Tryz.prog 89 [(Value.agg (ab.cells s).toArray),(Value.int .i64 lo),(Value.int .i64 hi)] [] (Value.bool (decide (s.Lo≤s.Hi∧lo≤s.Lo∧s.Hi≤hi))):=by
 refine bG FP Tryz.func89 rfl rfl fun w0 Q hQ hN=>?_
 try dsimp only
 refine WS fun _ hK1=>gv rfl fun b2=>rS (AG rfl)<|RK hK1<|WS fun _ hK3=>rS (FA 0 rfl bP rfl)<|rS (L1 (Value.int .i64 s.Lo) 0 rfl bk rfl rfl)<|rS (MV rfl)<|rS (FA 1 rfl bZ rfl)<|rS (L1 (Value.int .i64 s.Hi) 0 rfl bk rfl rfl) ?_
 refine rS (CL (kQ s.Lo lo s.Hi) (ar) rfl)<|rS (MV rfl) ?_
 refine bo (t:=13) rfl (fun h4=>?_) (fun h4=>?_)
 rotate_left 1
 ·replace h4:=DF h4
  refine rS (OX rfl)<|rS (OX rfl)<|rS (OX rfl)<|rS (OX rfl)<|rS (PK rfl)<|rS (AG rfl)<|RK hK3<|aE<|Q1 hQ rfl rfl rfl ?_
  exact congrArg Value.bool (decide_eq_false (by omega)).symm
 replace h4:=DT h4
 refine rS (FA 1 rfl bZ rfl)<|rS (L1 (Value.int .i64 s.Hi) 0 rfl bk rfl rfl)<|rS (MV rfl)<|rS (BI rfl eT)<|rS (PK rfl)<|rS (AG rfl)<|RK hK3<|aE<|Q1 hQ rfl rfl rfl ?_
 exact congrArg Value.bool (decide_eq_decide.2 (by omega))
set_option maxRecDepth 100000 in
set_option maxHeartbeats 400000 in
theorem zY (t:List ah) (tA:Option Addr) (tC:Nat):
 dY Tryz.prog 31 [(Value.agg (ay.cells (ay.mk (aA.mk tA t.length tC))).toArray)] [(rd tA t.length 9 (t.map ah.cells))] (Value.bool (decide (20<(t.length:Int)))):=by
 refine bG FV Tryz.func31 rfl rfl fun w0 Q hQ hN=>?_
 try dsimp only
 refine WS fun _ hK1=>gv rfl fun b2=>rS (AG rfl)<|RK hK1<|WS fun _ hK3=>rS (FA 0 rfl hU rfl)<|rS (L1 (Value.slice tA t.length tC) 0 rfl nh rfl rfl)<|rS (LN rfl rj)<|rS (BI rfl eL)<|rS (AG rfl) ?_
 refine RK hK3<|aE ?_
 exact Q1 hQ rfl rfl rfl rfl
set_option maxRecDepth 100000 in
set_option maxHeartbeats 400000 in
theorem Ar (l:List Int) (lA:Option Addr) (lC:Nat) (f:Value) (p:Int→Bool) (X:aD) (hf: ∀ x0,x0∈l→xL Tryz.prog f [.int .i64 x0] [X] (.bool (p x0))) (hlen:l.length≤1000000):
 dY Tryz.prog 86 [(Value.slice lA l.length lC),f] [(rd lA l.length 1 (l.map iC)),X] (Value.int .i64 (ob p l)):=by
 refine bG F2 Tryz.func86 rfl rfl fun w0 Q hQ hN=>?_
 try dsimp only
 refine WS fun _ hK1=>rS (AG rfl)<|RK hK1<|aw fun _ hK2=>WS fun _ hK3=>rS (MV rfl)<|rS (LN rfl jD)<|rS (MV rfl)<|RK hK3<|aH ?_
 have hinit:(0≤l.length)∧((l.take 0).any p=false):=by simp
 refine cP (ι:={z:Nat // (z≤l.length)∧((l.take z).any p=false)}) (fun z=>[(0,(Value.slice lA l.length lC)),(1,f),(7,(Value.int .i64 ((l.length:Nat):Int))),(8,(Value.int .i64 (z.1:Int)))]) (fun z=>[(rd lA l.length 1 (l.map iC)).ro,X.ro]) (fun z=>l.length-z.1) ⟨0,hinit⟩ (an.cons rfl<|an.cons rfl<|an.cons rfl<|an.cons rfl<|an.nil _) (fun w hs=>St.bB [0,1] rfl rfl hs) ?_
 clear hinit
 rintro ⟨i,⟨hl0_0,hl0_1⟩⟩ J4 hJ4
 try dsimp only
 refine WS fun _ hK5=>rS (BI rfl cq)<|RK hK5<|aw fun _ hK6=>?_
 refine bp rfl (fun h7=>?_) (fun h7=>?_)
 rotate_left 1
 ·replace h7:=DF h7
  refine bM<|ai<|ai<|aI<|KK hK2<|WS fun _ hK12=>rS (AG rfl)<|RK hK12<|aE<|Q1 hQ rfl rfl rfl ?_
  first|exact congrArg (Value.int .i64) (k7 hx hp hl0_1).symm|exact congrArg (Value.int .i64) (iU (by omega) hl0_1).symm
 replace h7:=DT h7
 refine WK hK6<|aw fun _ hK8=>aH<|WS fun _ hK9=>rS (MV rfl)<|rS (AG rfl)<|RK hK9<|WS fun _ hK10=>rS (MV rfl)<|rS (MV rfl) ?_
 refine rS (MV rfl) ?_
 obtain ⟨x,hx⟩: ∃ y_,l[i]? =some y_:=⟨l[i]'(by omega),List.getElem?_eq_getElem _⟩
 have hxm:(l.map iC)[i]? =some (iC x):=by rw [List.getElem?_map,hx]; rfl
 refine rS (IA i rfl (aQ 0 rfl) di (by decide) (by omega) (by omega))<|rS (ir i 0 (Value.int .i64 x) rfl bk (aQ 0 rfl) hxm rfl (by decide) rfl)<|rS (SX (o6 rfl rfl rfl (hf x (List.mem_of_getElem? hx)) (ax 1 rfl rfl<|ar)) rfl rfl)<|RK hK10 ?_
 refine bp rfl (fun hp=>?_) (fun hp=>?_)
 ·refine WS fun _ hK11=>?_
  refine rS (MV rfl)<|rS (AG rfl)<|RK hK11<|aE<|Q1 hQ rfl rfl rfl ?_
  first|exact congrArg (Value.int .i64) (k7 hx hp hl0_1).symm|exact congrArg (Value.int .i64) (iU (by omega) hl0_1).symm
 refine cH<|aL<|KK hK8<|aC<|rS (BI rfl (a9 ⟨by omega,by omega⟩))<|rS (MV rfl)<|aX ?_
 refine aY (hJ4 ⟨(i+1),⟨by omega,qN hx hl0_1 hp⟩⟩ _ _ _ rfl (by first|omega|(simp; omega)) (an.cons rfl<|an.cons rfl<|an.cons rfl<|an.cons rfl<|an.nil _) (fun w hs=>St.bB [0,1] rfl rfl hs))
set_option maxRecDepth 100000 in
set_option maxHeartbeats 400000 in
theorem qn (l:List Int) (lA:Option Addr) (lC:Nat) (f:Value) (p:Int→Bool) (X:aD) (hf: ∀ x0,x0∈l→xL Tryz.prog f [.int .i64 x0] [X] (.bool (p x0))) (hlen:l.length≤1000000):
 dY Tryz.prog 65 [(Value.slice lA l.length lC),f] [(rd lA l.length 1 (l.map iC)),X] (Value.bool (l.any p)):=by
 refine bG F9 Tryz.func65 rfl rfl fun w0 Q hQ hN=>?_
 try dsimp only
 refine WS fun _ hK1=>rS (AG rfl)<|RK hK1<|WS fun _ hK2=>rS (MV rfl)<|rS (MV rfl)<|rS (CL (Ar l lA lC f p X (by exact hf) hlen) (ax 0 rfl rfl<|ax 1 rfl rfl<|ar) rfl)<|rS (BI rfl il)<|rS (AG rfl)<|RK hK2 ?_
 refine aE<|Q1 hQ rfl rfl rfl ?_
 exact congrArg Value.bool oR
set_option maxRecDepth 100000 in
set_option maxHeartbeats 400000 in
theorem wB (n:Int) (lo:Int) (hi:Int) (g1:Nat) (g2:Nat):
 dY Tryz.prog 130 [(Value.int .i64 n),(Value.pointer (some ⟨g1,0,none⟩)),(Value.pointer (some ⟨g2,0,none⟩))] [(aU g1 3 [(Value.int .i64 lo)]),(aU g2 3 [(Value.int .i64 hi)])] (Value.bool (decide (n<lo∨hi<n))):=by
 refine bG DA Tryz.func130 rfl rfl fun w0 Q hQ hN=>?_
 try dsimp only
 refine WS fun _ hK1=>rS (AG rfl)<|RK hK1<|WS fun _ hK2=>rS (MV rfl)<|rS (rY 0 rfl bk rfl)<|rS (BI rfl cq)<|rS (MV rfl) ?_
 refine bo (t:=8) rfl (fun h3=>?_) (fun h3=>?_)
 ·replace h3:=DT h3
  refine rS (OX rfl)<|rS (OX rfl)<|rS (OX rfl)<|rS (PK rfl)<|rS (AG rfl)<|RK hK2<|aE<|Q1 hQ rfl rfl rfl ?_
  exact congrArg Value.bool (decide_eq_true (by omega)).symm
 replace h3:=DF h3
 refine rS (MV rfl)<|rS (rY 1 rfl bk rfl)<|rS (BI rfl eL)<|rS (PK rfl)<|rS (AG rfl)<|RK hK2<|aE<|Q1 hQ rfl rfl rfl ?_
 exact congrArg Value.bool (decide_eq_decide.2 (by omega))
set_option maxRecDepth 100000 in
set_option maxHeartbeats 400000 in
theorem kN (lo:Int) (hi:Int) (l:List Int) (lA:Option Addr) (lC:Nat) (hlen:l.length≤1000000):
 dY Tryz.prog 104 [(Value.int .i64 lo),(Value.int .i64 hi),(Value.slice lA l.length lC)] [(rd lA l.length 1 (l.map iC))] (Value.bool (rB lo hi l)):=by
 refine bG CZ Tryz.func104 rfl rfl fun w0 Q hQ hN=>?_
 try dsimp only
 refine WS fun _ hK1=>vY rfl rfl fun b2=>vY rfl rfl fun b3=>rS (AG rfl)<|RK hK1<|WS fun _ hK4=>rS (MV rfl)<|rS (FU rfl)<|rS (CL (qn l lA lC (Value.func (.func 130) [].toArray [(Value.pointer (some ⟨b2,0,none⟩)),(Value.pointer (some ⟨b3,0,none⟩))].toArray) (fun u5=>(decide (u5<lo∨hi<u5))) (c_ [(aU b2 3 [(Value.int .i64 lo)]),(aU b3 3 [(Value.int .i64 hi)])]) (by intro u5 _; exact mg (fi:=[]) (ca:=[(Value.pointer (some ⟨b2,0,none⟩)),(Value.pointer (some ⟨b3,0,none⟩))]) (lk (wB u5 lo hi b2 b3) (ax 0 rfl rfl<|ax 1 rfl rfl<|ar))) hlen) (ax 2 rfl rfl<|aF (lN (ax 1 rfl rfl<|ax 0 rfl rfl<|ar))<|ar) rfl)<|rS (NT rfl) ?_
 refine rS (AG rfl)<|RK hK4<|aE ?_
 exact Q1 hQ rfl rfl rfl rfl
set_option maxRecDepth 100000 in
set_option maxHeartbeats 400000 in
theorem pV (s:ab) (lo:Int) (hi:Int):
 dY Tryz.prog 105 [(Value.agg (ab.cells s).toArray),(Value.int .i64 lo),(Value.int .i64 hi)] [] (Value.bool (decide (s.Lo≤s.Hi∧lo≤s.Lo∧s.Hi≤hi))):=by
 refine bG Dl Tryz.func105 rfl rfl fun w0 Q hQ hN=>?_
 try dsimp only
 refine WS fun _ hK1=>gv rfl fun b2=>rS (AG rfl)<|RK hK1<|WS fun _ hK3=>rS (MV rfl)<|rS (MV rfl)<|rS (FA 0 rfl bP rfl)<|rS (L1 (Value.int .i64 s.Lo) 0 rfl bk rfl rfl)<|rS (FA 1 rfl bZ rfl) ?_
 refine rS (L1 (Value.int .i64 s.Hi) 0 rfl bk rfl rfl)<|dV (xs:=[.tmp 10,.tmp 12]) (cs:=[(Value.int .i64 s.Lo),(Value.int .i64 s.Hi)]) rfl di kb rfl rfl rfl rfl (by simp [Value.cells]) rfl rfl fun b4=>rS (CL (dY.eq (kN lo hi ([s.Lo,s.Hi]) (some ⟨b4,0,none⟩) 2 (by first|assumption|omega|(simp; done)|(simp; omega))) rv) (aF (a4 0 rfl rfl (by simp [bO]) rfl)<|ar) rfl)<|rS (MV rfl) ?_
 refine bo (t:=15) rfl (fun h5=>?_) (fun h5=>?_)
 rotate_left 1
 ·replace h5:=DF h5
  refine rS (OX rfl)<|rS (OX rfl)<|rS (OX rfl)<|rS (OX rfl)<|rS (OX rfl)<|rS (PK rfl)<|rS (AG rfl)<|RK hK3<|aE<|Q1 hQ rfl rfl rfl ?_
  exact congrArg Value.bool (decide_eq_false (by omega)).symm
 replace h5:=DT h5
 refine rS (FA 0 rfl bP rfl)<|rS (L1 (Value.int .i64 s.Lo) 1 rfl bk rfl rfl)<|rS (FA 1 rfl bZ rfl)<|rS (L1 (Value.int .i64 s.Hi) 1 rfl bk rfl rfl)<|rS (BI rfl eT)<|rS (PK rfl)<|rS (AG rfl)<|RK hK3<|aE<|Q1 hQ rfl rfl rfl ?_
 exact congrArg Value.bool (decide_eq_decide.2 (by omega))
set_option maxRecDepth 100000 in
set_option maxHeartbeats 400000 in
theorem pX (ts:List ah) (tsA:Option Addr) (tsC:Nat) (hlen:ts.length≤1000000):
 dY Tryz.prog 71 [(Value.agg (ay.cells (ay.mk (aA.mk tsA ts.length tsC))).toArray)] [(rd tsA ts.length 9 (ts.map ah.cells))] (Value.bool (bY ts)):=by
 refine bG Fe Tryz.func71 rfl rfl fun w0 Q hQ hN=>?_
 try dsimp only
 refine WS fun _ hK1=>gv rfl fun b2=>rS (AG rfl)<|RK hK1<|aw fun _ hK3=>WS fun _ hK4=>rS (FA 0 rfl hU rfl)<|rS (L1 (Value.slice tsA ts.length tsC) 0 rfl nh rfl rfl)<|rS (LN rfl rj)<|rS (CL (kQ ((ts.length:Nat):Int) 1 12) (ar) rfl) ?_
 refine rS (NT rfl)<|RK hK4 ?_
 refine bp rfl (fun h5=>?_) (fun h5=>?_)
 ·replace h5:=XT h5
  refine WS fun _ hK6=>rS (AG rfl)<|RK hK6<|aE<|Q1 hQ rfl rfl rfl ?_
  first|exact congrArg Value.bool (bW (by omega)).symm|exact congrArg Value.bool (cm hl0_1 hx (by simp only [a5,cG]; omega)).symm|exact congrArg Value.bool (bV hl0_1 (by omega) (by omega)).symm
 replace h5:=XF h5
 refine WK hK3<|aw fun _ hK7=>WS fun _ hK8=>rS (AG rfl)<|RK hK8<|aH ?_
 have hinit:(0≤ts.length)∧(dm (-1) ts=dm (dW ts 0) (ts.drop 0))∧(-1≤dW ts 0):=by (refine ⟨by omega,rfl,by simp [dW]⟩)
 refine cP (ι:={z:Nat // (z≤ts.length)∧(dm (-1) ts=dm (dW ts z) (ts.drop z))∧(-1≤dW ts z)}) (fun z=>[(1,(Value.pointer (some ⟨b2,0,none⟩))),(3,(Value.int .i64 (z.1:Int)))]) (fun z=>[(aU b2 24 (ay.cells (ay.mk (aA.mk tsA ts.length tsC)))),(rd tsA ts.length 9 (ts.map ah.cells)).ro]) (fun z=>ts.length-z.1) ⟨0,hinit⟩ (an.cons rfl<|an.cons rfl<|an.nil _) (fun w hs=>St.bB [0,1] rfl rfl hs) ?_
 clear hinit
 rintro ⟨i,⟨hl0_0,hl0_1,hl0_2⟩⟩ J9 hJ9
 try dsimp only
 have hz:i=0→dW ts i= -1:=tO
 refine aw fun _ hK10=>WS fun _ hK11=>rS (MV rfl)<|rS (FA 0 rfl hU rfl)<|rS (L1 (Value.slice tsA ts.length tsC) 0 rfl nh rfl rfl)<|rS (LN rfl rj)<|rS (BI rfl cq)<|RK hK11 ?_
 refine bp rfl (fun h12=>?_) (fun h12=>?_)
 rotate_left 1
 ·replace h12:=DF h12
  refine bM<|ai<|ai<|aI<|KK hK7<|WS fun _ hK77=>rS (AG rfl)<|RK hK77<|aE<|Q1 hQ rfl rfl rfl ?_
  first|exact congrArg Value.bool (bW (by omega)).symm|exact congrArg Value.bool (cm hl0_1 hx (by simp only [a5,cG]; omega)).symm|exact congrArg Value.bool (bV hl0_1 (by omega) (by omega)).symm
 replace h12:=DT h12
 refine WK hK10<|aw fun _ hK13=>aH<|WS fun _ hK14=>rS (FA 0 rfl hU rfl)<|rS (L1 (Value.slice tsA ts.length tsC) 0 rfl nh rfl rfl)<|rS (MV rfl) ?_
 obtain ⟨x,hx⟩: ∃ y_,ts[i]? =some y_:=⟨ts[i]'(by omega),List.getElem?_eq_getElem _⟩
 have hxm:(ts.map ah.cells)[i]? =some (ah.cells x):=by rw [List.getElem?_map,hx]; rfl
 refine rS (IA i rfl (aQ 1 rfl) ru (by decide) (by omega) (by omega))<|rS (kE i 0 (ah.cells x) rfl v5 (aQ 1 rfl) hxm rfl (by decide) rfl rfl)<|AL rfl uq fun b15=>e7 rfl yh rfl<|RK hK14<|aw fun _ hK16=>aw fun _ hK17=>dj ct 38 (by kernel_rfl)<|dS (FA 0 rfl na rfl)<|dS (L1 (Value.int .i64 x.Id) 0 rfl bk rfl rfl) ?_
 refine dS (CL (kQ x.Id 0 9999) (ar) rfl)<|dS (NT rfl)<|dS (MV rfl) ?_
 refine db (t:=26) rfl (fun h18=>?_) (fun h18=>?_)
 ·replace h18:=XT h18
  refine dS (OX rfl)<|dS (OX rfl)<|dS (OX rfl)<|dS (OX rfl)<|dS (OX rfl)<|dS (OX rfl)<|dS (OX rfl)<|dS (OX rfl)<|dS (OX rfl)<|dS (OX rfl) ?_
  refine dS (OX rfl)<|dS (OX rfl)<|dS (OX rfl)<|dS (OX rfl)<|dS (PK rfl)<|dS (MV rfl)<|dS (OX rfl)<|dS (OX rfl)<|dS (OX rfl)<|dS (OX rfl) ?_
  refine dS (PK rfl)<|dS (MV rfl)<|dS (OX rfl)<|dS (OX rfl)<|dS (OX rfl)<|dS (OX rfl)<|dS (PK rfl)<|dS (MV rfl)<|dS (OX rfl)<|dS (OX rfl) ?_
  refine dS (OX rfl)<|dS (OX rfl)<|dS (PK rfl)<|cE<|RK hK17<|aW rfl<|WS fun _ hK19=>rS (AG rfl)<|RK hK19<|aE ?_
  refine Q1 hQ rfl rfl rfl ?_
  first|exact congrArg Value.bool (bW (by omega)).symm|exact congrArg Value.bool (cm hl0_1 hx (by simp only [a5,cG]; omega)).symm|exact congrArg Value.bool (bV hl0_1 (by omega) (by omega)).symm
 replace h18:=XF h18
 refine dS (MV rfl)<|dS (BI rfl eL)<|dS (MV rfl) ?_
 refine db (t:=29) rfl (fun h20=>?_) (fun h20=>?_)
 rotate_left 1
 ·replace h20:=DF h20
  refine dS (OX rfl)<|dS (OX rfl)<|dS (OX rfl)<|dS (OX rfl)<|dS (OX rfl)<|dS (OX rfl)<|dS (OX rfl)<|dS (OX rfl)<|dS (OX rfl)<|dS (OX rfl) ?_
  refine dS (PK rfl)<|dS (PK rfl)<|dS (MV rfl)<|dS (FA 1 rfl kq rfl)<|dS (LP (ab.cells x.g7) 0 rfl cB rfl rfl rfl)<|dS (CL (lE x.g7 1 30000) (ar) rfl)<|dS (NT rfl)<|dS (PK rfl)<|dS (MV rfl) ?_
  refine db (t:=48) rfl (fun h50=>?_) (fun h50=>?_)
  ·replace h50:=XT h50
   refine dS (OX rfl)<|dS (OX rfl)<|dS (OX rfl)<|dS (OX rfl)<|dS (PK rfl)<|dS (MV rfl)<|dS (OX rfl)<|dS (OX rfl)<|dS (OX rfl)<|dS (OX rfl) ?_
   refine dS (PK rfl)<|cE<|RK hK17<|aW rfl<|WS fun _ hK51=>rS (AG rfl)<|RK hK51<|aE<|Q1 hQ rfl rfl rfl ?_
   first|exact congrArg Value.bool (bW (by omega)).symm|exact congrArg Value.bool (cm hl0_1 hx (by simp only [a5,cG]; omega)).symm|exact congrArg Value.bool (bV hl0_1 (by omega) (by omega)).symm
  replace h50:=XF h50
  refine dS (FA 3 rfl mQ rfl)<|dS (LP (ab.cells x.iL) 0 rfl cB rfl rfl rfl)<|dS (CL (lE x.iL 0 5000) (ar) rfl)<|dS (NT rfl)<|dS (PK rfl)<|dS (MV rfl) ?_
  refine db (t:=54) rfl (fun h52=>?_) (fun h52=>?_)
  ·replace h52:=XT h52
   refine dS (OX rfl)<|dS (OX rfl)<|dS (OX rfl)<|dS (OX rfl)<|dS (PK rfl)<|cE<|RK hK17<|aW rfl<|WS fun _ hK53=>rS (AG rfl) ?_
   refine RK hK53<|aE<|Q1 hQ rfl rfl rfl ?_
   first|exact congrArg Value.bool (bW (by omega)).symm|exact congrArg Value.bool (cm hl0_1 hx (by simp only [a5,cG]; omega)).symm|exact congrArg Value.bool (bV hl0_1 (by omega) (by omega)).symm
  replace h52:=XF h52
  refine dS (FA 8 rfl sV rfl)<|dS (L1 (Value.int .i64 x.pP) 0 rfl bk rfl rfl)<|dS (CL (kQ x.pP 0 5000) (ar) rfl)<|dS (NT rfl)<|dS (PK rfl)<|cE<|RK hK17 ?_
  refine bp rfl (fun h54=>?_) (fun h54=>?_)
  ·replace h54:=XT h54
   refine WS fun _ hK55=>rS (AG rfl)<|RK hK55<|aE<|Q1 hQ rfl rfl rfl ?_
   first|exact congrArg Value.bool (bW (by omega)).symm|exact congrArg Value.bool (cm hl0_1 hx (by simp only [a5,cG]; omega)).symm|exact congrArg Value.bool (bV hl0_1 (by omega) (by omega)).symm
  replace h54:=XF h54
  refine WK hK16<|WS fun _ hK56=>rS (FA 7 rfl p4 rfl)<|rS (L1 (Value.int .u8 x.fx) 0 rfl ER rfl rfl)<|RK hK56<|aH<|WS fun _ hK57=>rS (BI rfl eC)<|rS (AG rfl)<|RK hK57 ?_
  refine bp rfl (fun h58=>?_) (fun h58=>?_)
  ·replace h58:=DT h58
   refine WS fun _ hK59=>rS (FA 5 rfl jk rfl)<|rS (FA 5 rfl bP rfl)<|rS (L1 (Value.int .i64 x.cR.Lo) 0 rfl bk rfl rfl)<|rS (BI rfl eB)<|rS (MV rfl) ?_
   refine bo (t:=68) rfl (fun h60=>?_) (fun h60=>?_)
   ·replace h60:=XT h60
    refine rS (OX rfl)<|rS (OX rfl)<|rS (OX rfl)<|rS (OX rfl)<|rS (PK rfl)<|RK hK59<|aW rfl<|WS fun _ hK61=>rS (AG rfl)<|RK hK61 ?_
    refine aE<|Q1 hQ rfl rfl rfl ?_
    first|exact congrArg Value.bool (bW (by omega)).symm|exact congrArg Value.bool (cm hl0_1 hx (by simp only [a5,cG]; omega)).symm|exact congrArg Value.bool (bV hl0_1 (by omega) (by omega)).symm
   replace h60:=XF h60
   refine rS (FA 5 rfl jk rfl)<|rS (FA 6 rfl bZ rfl)<|rS (L1 (Value.int .i64 x.cR.Hi) 0 rfl bk rfl rfl)<|rS (BI rfl eB)<|rS (PK rfl)<|RK hK59 ?_
   refine bp rfl (fun h62=>?_) (fun h62=>?_)
   ·replace h62:=XT h62
    refine WS fun _ hK63=>rS (AG rfl)<|RK hK63<|aE<|Q1 hQ rfl rfl rfl ?_
    first|exact congrArg Value.bool (bW (by omega)).symm|exact congrArg Value.bool (cm hl0_1 hx (by simp only [a5,cG]; omega)).symm|exact congrArg Value.bool (bV hl0_1 (by omega) (by omega)).symm
   replace h62:=XF h62
   refine cH<|aL<|aL<|KK hK13<|aC<|rS (MV rfl)<|rS (BI rfl (a9 ⟨by omega,by omega⟩))<|rS (AG rfl)<|aX ?_
   refine aY (hJ9 ⟨(i+1),⟨by omega,eH hl0_1 hx (by simp only [a5,cG]; omega),by rw [eg hx]; omega⟩⟩ _ _ _ rfl (by first|omega|(simp; omega)) (an.cons rfl<|an.cons rfl<|an.nil _) (fun w hs=>St.bB [1,2] rfl rfl hs))
  replace h58:=DF h58
  refine aw fun _ hK64=>WS fun _ hK65=>rS (BI rfl eC)<|rS (AG rfl)<|RK hK65 ?_
  refine bp rfl (fun h66=>?_) (fun h66=>?_)
  ·replace h66:=DT h66
   refine WK hK64 ?_
   refine bp rfl (fun h67=>?_) (fun h67=>?_)
   rotate_left 1
   ·replace h67:=DF h67
    refine WS fun _ hK71=>rS (AG rfl)<|RK hK71<|aE<|Q1 hQ rfl rfl rfl ?_
    first|exact congrArg Value.bool (bW (by omega)).symm|exact congrArg Value.bool (cm hl0_1 hx (by simp only [a5,cG]; omega)).symm|exact congrArg Value.bool (bV hl0_1 (by omega) (by omega)).symm
   replace h67:=DT h67
   refine WS fun _ hK68=>rS (FA 5 rfl jk rfl)<|rS (LP (ab.cells x.cR) 0 rfl cB rfl rfl rfl)<|rS (CL (lE x.cR 500 20000) (ar) rfl)<|rS (NT rfl)<|RK hK68 ?_
   refine bp rfl (fun h69=>?_) (fun h69=>?_)
   ·replace h69:=XT h69
    refine WS fun _ hK70=>rS (AG rfl)<|RK hK70<|aE<|Q1 hQ rfl rfl rfl ?_
    first|exact congrArg Value.bool (bW (by omega)).symm|exact congrArg Value.bool (cm hl0_1 hx (by simp only [a5,cG]; omega)).symm|exact congrArg Value.bool (bV hl0_1 (by omega) (by omega)).symm
   replace h69:=XF h69
   refine cH<|aL<|aL<|KK hK13<|aC<|rS (MV rfl)<|rS (BI rfl (a9 ⟨by omega,by omega⟩))<|rS (AG rfl)<|aX ?_
   refine aY (hJ9 ⟨(i+1),⟨by omega,eH hl0_1 hx (by simp only [a5,cG]; omega),by rw [eg hx]; omega⟩⟩ _ _ _ rfl (by first|omega|(simp; omega)) (an.cons rfl<|an.cons rfl<|an.nil _) (fun w hs=>St.bB [1,2] rfl rfl hs))
  replace h66:=DF h66
  refine aC<|rS (BI rfl eC)<|rS (AG rfl)<|RK hK64 ?_
  refine bp rfl (fun h72=>?_) (fun h72=>?_)
  rotate_left 1
  ·replace h72:=DF h72
   refine WS fun _ hK76=>rS (AG rfl)<|RK hK76<|aE<|Q1 hQ rfl rfl rfl ?_
   first|exact congrArg Value.bool (bW (by omega)).symm|exact congrArg Value.bool (cm hl0_1 hx (by simp only [a5,cG]; omega)).symm|exact congrArg Value.bool (bV hl0_1 (by omega) (by omega)).symm
  replace h72:=DT h72
  refine WS fun _ hK73=>rS (FA 5 rfl jk rfl)<|rS (LP (ab.cells x.cR) 0 rfl cB rfl rfl rfl)<|rS (CL (lE x.cR 500 20000) (ar) rfl)<|rS (NT rfl)<|RK hK73 ?_
  refine bp rfl (fun h74=>?_) (fun h74=>?_)
  ·replace h74:=XT h74
   refine WS fun _ hK75=>rS (AG rfl)<|RK hK75<|aE<|Q1 hQ rfl rfl rfl ?_
   first|exact congrArg Value.bool (bW (by omega)).symm|exact congrArg Value.bool (cm hl0_1 hx (by simp only [a5,cG]; omega)).symm|exact congrArg Value.bool (bV hl0_1 (by omega) (by omega)).symm
  replace h74:=XF h74
  refine cH<|aL<|aL<|KK hK13<|aC<|rS (MV rfl)<|rS (BI rfl (a9 ⟨by omega,by omega⟩))<|rS (AG rfl)<|aX ?_
  refine aY (hJ9 ⟨(i+1),⟨by omega,eH hl0_1 hx (by simp only [a5,cG]; omega),by rw [eg hx]; omega⟩⟩ _ _ _ rfl (by first|omega|(simp; omega)) (an.cons rfl<|an.cons rfl<|an.nil _) (fun w hs=>St.bB [1,2] rfl rfl hs))
 replace h20:=DT h20
 refine dS (FA 0 rfl na rfl)<|dS (L1 (Value.int .i64 x.Id) 0 rfl bk rfl rfl)<|dS (FA 0 rfl hU rfl)<|dS (L1 (Value.slice tsA ts.length tsC) 1 rfl nh rfl rfl)<|dS (MV rfl)<|dS (BI rfl (cr ⟨by omega,by omega⟩)) ?_
 obtain ⟨y,hy⟩: ∃ y_,ts[(i-1)]? =some y_:=⟨ts[(i-1)]'(by omega),List.getElem?_eq_getElem _⟩
 have hym:(ts.map ah.cells)[(i-1)]? =some (ah.cells y):=by rw [List.getElem?_map,hy]; rfl
 refine dS (IA (i-1) rfl (aQ 2 rfl) ru (by decide) (by omega) (by omega))<|dS (qP ((i-1)*9) rfl (aQ 2 rfl) (Nat.mul_pos (by omega) (by decide)) na rfl) ?_
 have hyl:=vd (by omega) hy
 refine dS (ir (i-1) 0 (Value.int .i64 y.Id) rfl bk (aQ 2 rfl) hym rfl (by decide) rfl)<|dS (BI rfl eT)<|dS (PK rfl)<|dS (PK rfl)<|dS (MV rfl) ?_
 refine db (t:=42) rfl (fun h21=>?_) (fun h21=>?_)
 ·replace h21:=DT h21
  refine dS (OX rfl)<|dS (OX rfl)<|dS (OX rfl)<|dS (OX rfl)<|dS (PK rfl)<|dS (MV rfl)<|dS (OX rfl)<|dS (OX rfl)<|dS (OX rfl)<|dS (OX rfl) ?_
  refine dS (PK rfl)<|dS (MV rfl)<|dS (OX rfl)<|dS (OX rfl)<|dS (OX rfl)<|dS (OX rfl)<|dS (PK rfl)<|cE<|RK hK17<|aW rfl ?_
  refine WS fun _ hK22=>rS (AG rfl)<|RK hK22<|aE<|Q1 hQ rfl rfl rfl ?_
  first|exact congrArg Value.bool (bW (by omega)).symm|exact congrArg Value.bool (cm hl0_1 hx (by simp only [a5,cG]; omega)).symm|exact congrArg Value.bool (bV hl0_1 (by omega) (by omega)).symm
 replace h21:=DF h21
 refine dS (FA 1 rfl kq rfl)<|dS (LP (ab.cells x.g7) 0 rfl cB rfl rfl rfl)<|dS (CL (lE x.g7 1 30000) (ar) rfl)<|dS (NT rfl)<|dS (PK rfl)<|dS (MV rfl) ?_
 refine db (t:=48) rfl (fun h23=>?_) (fun h23=>?_)
 ·replace h23:=XT h23
  refine dS (OX rfl)<|dS (OX rfl)<|dS (OX rfl)<|dS (OX rfl)<|dS (PK rfl)<|dS (MV rfl)<|dS (OX rfl)<|dS (OX rfl)<|dS (OX rfl)<|dS (OX rfl) ?_
  refine dS (PK rfl)<|cE<|RK hK17<|aW rfl<|WS fun _ hK24=>rS (AG rfl)<|RK hK24<|aE<|Q1 hQ rfl rfl rfl ?_
  first|exact congrArg Value.bool (bW (by omega)).symm|exact congrArg Value.bool (cm hl0_1 hx (by simp only [a5,cG]; omega)).symm|exact congrArg Value.bool (bV hl0_1 (by omega) (by omega)).symm
 replace h23:=XF h23
 refine dS (FA 3 rfl mQ rfl)<|dS (LP (ab.cells x.iL) 0 rfl cB rfl rfl rfl)<|dS (CL (lE x.iL 0 5000) (ar) rfl)<|dS (NT rfl)<|dS (PK rfl)<|dS (MV rfl) ?_
 refine db (t:=54) rfl (fun h25=>?_) (fun h25=>?_)
 ·replace h25:=XT h25
  refine dS (OX rfl)<|dS (OX rfl)<|dS (OX rfl)<|dS (OX rfl)<|dS (PK rfl)<|cE<|RK hK17<|aW rfl<|WS fun _ hK26=>rS (AG rfl) ?_
  refine RK hK26<|aE<|Q1 hQ rfl rfl rfl ?_
  first|exact congrArg Value.bool (bW (by omega)).symm|exact congrArg Value.bool (cm hl0_1 hx (by simp only [a5,cG]; omega)).symm|exact congrArg Value.bool (bV hl0_1 (by omega) (by omega)).symm
 replace h25:=XF h25
 refine dS (FA 8 rfl sV rfl)<|dS (L1 (Value.int .i64 x.pP) 0 rfl bk rfl rfl)<|dS (CL (kQ x.pP 0 5000) (ar) rfl)<|dS (NT rfl)<|dS (PK rfl)<|cE<|RK hK17 ?_
 refine bp rfl (fun h27=>?_) (fun h27=>?_)
 ·replace h27:=XT h27
  refine WS fun _ hK28=>rS (AG rfl)<|RK hK28<|aE<|Q1 hQ rfl rfl rfl ?_
  first|exact congrArg Value.bool (bW (by omega)).symm|exact congrArg Value.bool (cm hl0_1 hx (by simp only [a5,cG]; omega)).symm|exact congrArg Value.bool (bV hl0_1 (by omega) (by omega)).symm
 replace h27:=XF h27
 refine WK hK16<|WS fun _ hK29=>rS (FA 7 rfl p4 rfl)<|rS (L1 (Value.int .u8 x.fx) 0 rfl ER rfl rfl)<|RK hK29<|aH<|WS fun _ hK30=>rS (BI rfl eC)<|rS (AG rfl)<|RK hK30 ?_
 refine bp rfl (fun h31=>?_) (fun h31=>?_)
 ·replace h31:=DT h31
  refine WS fun _ hK32=>rS (FA 5 rfl jk rfl)<|rS (FA 5 rfl bP rfl)<|rS (L1 (Value.int .i64 x.cR.Lo) 0 rfl bk rfl rfl)<|rS (BI rfl eB)<|rS (MV rfl) ?_
  refine bo (t:=68) rfl (fun h33=>?_) (fun h33=>?_)
  ·replace h33:=XT h33
   refine rS (OX rfl)<|rS (OX rfl)<|rS (OX rfl)<|rS (OX rfl)<|rS (PK rfl)<|RK hK32<|aW rfl<|WS fun _ hK34=>rS (AG rfl)<|RK hK34 ?_
   refine aE<|Q1 hQ rfl rfl rfl ?_
   first|exact congrArg Value.bool (bW (by omega)).symm|exact congrArg Value.bool (cm hl0_1 hx (by simp only [a5,cG]; omega)).symm|exact congrArg Value.bool (bV hl0_1 (by omega) (by omega)).symm
  replace h33:=XF h33
  refine rS (FA 5 rfl jk rfl)<|rS (FA 6 rfl bZ rfl)<|rS (L1 (Value.int .i64 x.cR.Hi) 0 rfl bk rfl rfl)<|rS (BI rfl eB)<|rS (PK rfl)<|RK hK32 ?_
  refine bp rfl (fun h35=>?_) (fun h35=>?_)
  ·replace h35:=XT h35
   refine WS fun _ hK36=>rS (AG rfl)<|RK hK36<|aE<|Q1 hQ rfl rfl rfl ?_
   first|exact congrArg Value.bool (bW (by omega)).symm|exact congrArg Value.bool (cm hl0_1 hx (by simp only [a5,cG]; omega)).symm|exact congrArg Value.bool (bV hl0_1 (by omega) (by omega)).symm
  replace h35:=XF h35
  refine cH<|aL<|aL<|KK hK13<|aC<|rS (MV rfl)<|rS (BI rfl (a9 ⟨by omega,by omega⟩))<|rS (AG rfl)<|aX ?_
  refine aY (hJ9 ⟨(i+1),⟨by omega,eH hl0_1 hx (by simp only [a5,cG]; omega),by rw [eg hx]; omega⟩⟩ _ _ _ rfl (by first|omega|(simp; omega)) (an.cons rfl<|an.cons rfl<|an.nil _) (fun w hs=>St.bB [1,2] rfl rfl hs))
 replace h31:=DF h31
 refine aw fun _ hK37=>WS fun _ hK38=>rS (BI rfl eC)<|rS (AG rfl)<|RK hK38 ?_
 refine bp rfl (fun h39=>?_) (fun h39=>?_)
 ·replace h39:=DT h39
  refine WK hK37 ?_
  refine bp rfl (fun h40=>?_) (fun h40=>?_)
  rotate_left 1
  ·replace h40:=DF h40
   refine WS fun _ hK44=>rS (AG rfl)<|RK hK44<|aE<|Q1 hQ rfl rfl rfl ?_
   first|exact congrArg Value.bool (bW (by omega)).symm|exact congrArg Value.bool (cm hl0_1 hx (by simp only [a5,cG]; omega)).symm|exact congrArg Value.bool (bV hl0_1 (by omega) (by omega)).symm
  replace h40:=DT h40
  refine WS fun _ hK41=>rS (FA 5 rfl jk rfl)<|rS (LP (ab.cells x.cR) 0 rfl cB rfl rfl rfl)<|rS (CL (lE x.cR 500 20000) (ar) rfl)<|rS (NT rfl)<|RK hK41 ?_
  refine bp rfl (fun h42=>?_) (fun h42=>?_)
  ·replace h42:=XT h42
   refine WS fun _ hK43=>rS (AG rfl)<|RK hK43<|aE<|Q1 hQ rfl rfl rfl ?_
   first|exact congrArg Value.bool (bW (by omega)).symm|exact congrArg Value.bool (cm hl0_1 hx (by simp only [a5,cG]; omega)).symm|exact congrArg Value.bool (bV hl0_1 (by omega) (by omega)).symm
  replace h42:=XF h42
  refine cH<|aL<|aL<|KK hK13<|aC<|rS (MV rfl)<|rS (BI rfl (a9 ⟨by omega,by omega⟩))<|rS (AG rfl)<|aX ?_
  refine aY (hJ9 ⟨(i+1),⟨by omega,eH hl0_1 hx (by simp only [a5,cG]; omega),by rw [eg hx]; omega⟩⟩ _ _ _ rfl (by first|omega|(simp; omega)) (an.cons rfl<|an.cons rfl<|an.nil _) (fun w hs=>St.bB [1,2] rfl rfl hs))
 replace h39:=DF h39
 refine aC<|rS (BI rfl eC)<|rS (AG rfl)<|RK hK37 ?_
 refine bp rfl (fun h45=>?_) (fun h45=>?_)
 rotate_left 1
 ·replace h45:=DF h45
  refine WS fun _ hK49=>rS (AG rfl)<|RK hK49<|aE<|Q1 hQ rfl rfl rfl ?_
  first|exact congrArg Value.bool (bW (by omega)).symm|exact congrArg Value.bool (cm hl0_1 hx (by simp only [a5,cG]; omega)).symm|exact congrArg Value.bool (bV hl0_1 (by omega) (by omega)).symm
 replace h45:=DT h45
 refine WS fun _ hK46=>rS (FA 5 rfl jk rfl)<|rS (LP (ab.cells x.cR) 0 rfl cB rfl rfl rfl)<|rS (CL (lE x.cR 500 20000) (ar) rfl)<|rS (NT rfl)<|RK hK46 ?_
 refine bp rfl (fun h47=>?_) (fun h47=>?_)
 ·replace h47:=XT h47
  refine WS fun _ hK48=>rS (AG rfl)<|RK hK48<|aE<|Q1 hQ rfl rfl rfl ?_
  first|exact congrArg Value.bool (bW (by omega)).symm|exact congrArg Value.bool (cm hl0_1 hx (by simp only [a5,cG]; omega)).symm|exact congrArg Value.bool (bV hl0_1 (by omega) (by omega)).symm
 replace h47:=XF h47
 refine cH<|aL<|aL<|KK hK13<|aC<|rS (MV rfl)<|rS (BI rfl (a9 ⟨by omega,by omega⟩))<|rS (AG rfl)<|aX ?_
 refine aY (hJ9 ⟨(i+1),⟨by omega,eH hl0_1 hx (by simp only [a5,cG]; omega),by rw [eg hx]; omega⟩⟩ _ _ _ rfl (by first|omega|(simp; omega)) (an.cons rfl<|an.cons rfl<|an.nil _) (fun w hs=>St.bB [1,2] rfl rfl hs))
set_option maxRecDepth 100000 in
set_option maxHeartbeats 400000 in
theorem tH (ts:List ah) (tsA:Option Addr) (tsC:Nat) (hlen:ts.length≤1000000) (hside: ∀ x∈ts,0≤x.fx∧x.fx≤255):
 dY Tryz.prog 76 [(Value.agg (ay.cells (ay.mk (aA.mk tsA ts.length tsC))).toArray)] [(rd tsA ts.length 9 (ts.map ah.cells))] (Value.int .i64 (if bY ts=true then 0 else 10)):=by
 refine bG FY Tryz.func76 rfl rfl fun w0 Q hQ hN=>?_
 try dsimp only
 refine WS fun _ hK1=>gv rfl fun b2=>rS (AG rfl)<|RK hK1<|vU rfl<|aw fun _ hK3=>WS fun _ hK4=>rS (FA 0 rfl hU rfl)<|rS (L1 (Value.slice tsA ts.length tsC) 0 rfl nh rfl rfl)<|rS (LN rfl rj) ?_
 refine dV (xs:=[.tmp 11]) (cs:=[(Value.int .i64 ((ts.length:Nat):Int))]) rfl di kb rfl rfl rfl rfl (by simp [Value.cells]) rfl rfl fun b5=>rS (CL (dY.eq (kN 1 12 ([((ts.length:Nat):Int)]) (some ⟨b5,0,none⟩) 1 (by first|assumption|omega|(simp; done)|(simp; omega))) cI) (aF (a4 0 rfl rfl (by simp [bO]) rfl)<|ar) rfl)<|rS (NT rfl)<|RK hK4 ?_
 refine bp rfl (fun h6=>?_) (fun h6=>?_)
 ·replace h6:=XT h6
  refine WS fun _ hK7=>rS (AG rfl)<|RK hK7<|aE<|Q1 hQ rfl rfl rfl ?_
  first|exact congrArg (Value.int .i64) (if_neg (by rw [bW (by omega)]; decide)).symm|exact congrArg (Value.int .i64) (if_neg (by rw [cm hl0_1 hx (by simp only [a5,cG]; omega)]; decide)).symm|exact congrArg (Value.int .i64) (if_pos (bV hl0_1 (by omega) (by omega))).symm
 replace h6:=XF h6
 refine WK hK3<|WS fun _ hK8=>rS (AG rfl)<|RK hK8<|WS fun _ hK9=>rS (AG rfl)<|RK hK9<|aw fun _ hK10=>vD<|KK hK10 ?_
 refine aw fun _ hK11=>WS fun _ hK12=>rS (FA 0 rfl hU rfl)<|rS (L1 (Value.slice tsA ts.length tsC) 1 rfl nh rfl rfl)<|rS (LN rfl rj)<|rS (MV rfl)<|RK hK12<|aH ?_
 have hinit:(0≤ts.length)∧(dm (-1) ts=dm (dW ts 0) (ts.drop 0))∧(-1≤dW ts 0)∧(dW ts 0≤9999):=by (refine ⟨by omega,rfl,by simp [dW],by simp [dW]⟩)
 refine cP (ι:={z:Nat // (z≤ts.length)∧(dm (-1) ts=dm (dW ts z) (ts.drop z))∧(-1≤dW ts z)∧(dW ts z≤9999)}) (fun z=>[(1,(Value.pointer (some ⟨b2,0,none⟩))),(3,(Value.int .i64 (dW ts z.1))),(4,(Value.int .i64 0)),(16,(Value.slice tsA ts.length tsC)),(17,(Value.int .i64 ((ts.length:Nat):Int))),(18,(Value.int .i64 (z.1:Int)))]) (fun z=>[(aU b2 24 (ay.cells (ay.mk (aA.mk tsA ts.length tsC)))),(rd tsA ts.length 9 (ts.map ah.cells)).ro]) (fun z=>ts.length-z.1) ⟨0,hinit⟩ (an.cons rfl<|an.cons rfl<|an.cons rfl<|an.cons rfl<|an.cons rfl<|an.cons rfl<|an.nil _) (fun w hs=>St.bB [1,2] rfl rfl hs) ?_
 clear hinit
 rintro ⟨i,⟨hl0_0,hl0_1,hl0_2,hl0_3⟩⟩ J13 hJ13
 try dsimp only
 refine WS fun _ hK14=>rS (BI rfl cq)<|RK hK14<|aw fun _ hK15=>?_
 refine bp rfl (fun h16=>?_) (fun h16=>?_)
 rotate_left 1
 ·replace h16:=DF h16
  refine bM<|ai<|ai<|aI<|KK hK11<|WS fun _ hK24=>rS (MV rfl)<|rS (AG rfl)<|RK hK24<|aE ?_
  refine Q1 hQ rfl rfl rfl ?_
  first|exact congrArg (Value.int .i64) (if_neg (by rw [bW (by omega)]; decide)).symm|exact congrArg (Value.int .i64) (if_neg (by rw [cm hl0_1 hx (by simp only [a5,cG]; omega)]; decide)).symm|exact congrArg (Value.int .i64) (if_pos (bV hl0_1 (by omega) (by omega))).symm
 replace h16:=DT h16
 refine WK hK15<|aw fun _ hK17=>aH<|WS fun _ hK18=>?_
 obtain ⟨x,hx⟩: ∃ y_,ts[i]? =some y_:=⟨ts[i]'(by omega),List.getElem?_eq_getElem _⟩
 have hxm:(ts.map ah.cells)[i]? =some (ah.cells x):=by rw [List.getElem?_map,hx]; rfl
 refine rS (IA i rfl (aQ 1 rfl) ru (by decide) (by omega) (by omega)) ?_
 have hsd:=hside x (List.mem_of_getElem? hx)
 refine rS (kE i 0 (ah.cells x) rfl v5 (aQ 1 rfl) hxm rfl (by decide) rfl rfl)<|AL rfl uq fun b19=>e7 rfl yh rfl<|RK hK18 ?_
 refine pj (ι:=Unit) (fun z=>[(1,(Value.pointer (some ⟨b2,0,none⟩))),(3,(Value.int .i64 (dW ts i))),(4,(Value.int .i64 0)),(6,(Value.pointer (some ⟨b19,0,none⟩))),(7,(Value.bool (decide (x.fx=0∧x.cR.Lo=0∧x.cR.Hi=0)))),(16,(Value.slice tsA ts.length tsC)),(17,(Value.int .i64 ((ts.length:Nat):Int))),(18,(Value.int .i64 (i:Int)))]) (fun z=>[(aU b19 141 (ah.cells x)),(aU b2 24 (ay.cells (ay.mk (aA.mk tsA ts.length tsC)))),(rd tsA ts.length 9 (ts.map ah.cells)).ro]) ?_ fun K20 hK20=>?_
 ·intro _
  try dsimp only
  refine pj (ι:=Unit) (fun z=>[(1,(Value.pointer (some ⟨b2,0,none⟩))),(3,(Value.int .i64 (dW ts i))),(4,(Value.int .i64 0)),(6,(Value.pointer (some ⟨b19,0,none⟩))),(7,(Value.bool (decide (x.fx=0∧x.cR.Lo=0∧x.cR.Hi=0)))),(8,(Value.bool (decide ((1≤x.fx∧x.fx≤2)∧x.cR.Lo≤x.cR.Hi∧500≤x.cR.Lo∧x.cR.Hi≤20000)))),(16,(Value.slice tsA ts.length tsC)),(17,(Value.int .i64 ((ts.length:Nat):Int))),(18,(Value.int .i64 (i:Int)))]) (fun z=>[(aU b19 141 (ah.cells x)),(aU b2 24 (ay.cells (ay.mk (aA.mk tsA ts.length tsC)))),(rd tsA ts.length 9 (ts.map ah.cells)).ro]) ?_ fun K21 hK21=>?_
  ·intro _
   try dsimp only
   refine aw fun _ hK22=>WS fun _ hK23=>rS (MV rfl)<|rS (BI rfl (a9 ⟨by omega,by omega⟩))<|rS (FA 0 rfl na rfl)<|rS (L1 (Value.int .i64 x.Id) 0 rfl bk rfl rfl)<|dV (xs:=[.tmp 44]) (cs:=[(Value.int .i64 x.Id)]) rfl di kb rfl rfl rfl rfl (by simp [Value.cells]) rfl rfl fun b24=>rS (CL (dY.eq (kN ((dW ts i)+1) 9999 ([x.Id]) (some ⟨b24,0,none⟩) 1 (by first|assumption|omega|(simp; done)|(simp; omega))) cI) (aF (a4 0 rfl rfl (by simp [bO]) rfl)<|ar) rfl)<|rS (NT rfl)<|rS (MV rfl) ?_
   refine bo (t:=48) rfl (fun h25=>?_) (fun h25=>?_)
   ·replace h25:=XT h25
    refine rS (OX rfl)<|rS (OX rfl)<|rS (OX rfl)<|rS (OX rfl)<|rS (PK rfl)<|rS (MV rfl)<|rS (OX rfl)<|rS (OX rfl)<|rS (OX rfl)<|rS (OX rfl) ?_
    refine rS (PK rfl)<|rS (MV rfl)<|rS (OX rfl)<|rS (OX rfl)<|rS (OX rfl)<|rS (OX rfl)<|rS (OX rfl)<|rS (PK rfl)<|rS (MV rfl)<|rS (OX rfl) ?_
    refine rS (OX rfl)<|rS (OX rfl)<|rS (OX rfl)<|rS (OX rfl)<|rS (OX rfl)<|rS (PK rfl)<|RK hK23<|aW rfl<|WS fun _ hK26=>rS (AG rfl) ?_
    refine RK hK26<|bM<|ai<|dZ rfl<|ai<|ai<|aI<|KK hK11<|WS fun _ hK27=>rS (MV rfl) ?_
    refine rS (AG rfl)<|RK hK27<|aE<|Q1 hQ rfl rfl rfl ?_
    first|exact congrArg (Value.int .i64) (if_neg (by rw [bW (by omega)]; decide)).symm|exact congrArg (Value.int .i64) (if_neg (by rw [cm hl0_1 hx (by simp only [a5,cG]; omega)]; decide)).symm|exact congrArg (Value.int .i64) (if_pos (bV hl0_1 (by omega) (by omega))).symm
   replace h25:=XF h25
   refine rS (FA 1 rfl kq rfl)<|rS (LP (ab.cells x.g7) 1 rfl cB rfl rfl rfl)<|rS (CL (pV x.g7 1 30000) (ar) rfl)<|rS (NT rfl)<|rS (PK rfl)<|rS (MV rfl) ?_
   refine bo (t:=54) rfl (fun h28=>?_) (fun h28=>?_)
   ·replace h28:=XT h28
    refine rS (OX rfl)<|rS (OX rfl)<|rS (OX rfl)<|rS (OX rfl)<|rS (PK rfl)<|rS (MV rfl)<|rS (OX rfl)<|rS (OX rfl)<|rS (OX rfl)<|rS (OX rfl) ?_
    refine rS (OX rfl)<|rS (PK rfl)<|rS (MV rfl)<|rS (OX rfl)<|rS (OX rfl)<|rS (OX rfl)<|rS (OX rfl)<|rS (OX rfl)<|rS (OX rfl)<|rS (PK rfl) ?_
    refine RK hK23<|aW rfl<|WS fun _ hK29=>rS (AG rfl)<|RK hK29<|bM<|ai<|dZ rfl<|ai<|ai ?_
    refine aI<|KK hK11<|WS fun _ hK30=>rS (MV rfl)<|rS (AG rfl)<|RK hK30<|aE<|Q1 hQ rfl rfl rfl ?_
    first|exact congrArg (Value.int .i64) (if_neg (by rw [bW (by omega)]; decide)).symm|exact congrArg (Value.int .i64) (if_neg (by rw [cm hl0_1 hx (by simp only [a5,cG]; omega)]; decide)).symm|exact congrArg (Value.int .i64) (if_pos (bV hl0_1 (by omega) (by omega))).symm
   replace h28:=XF h28
   refine rS (FA 3 rfl mQ rfl)<|rS (LP (ab.cells x.iL) 1 rfl cB rfl rfl rfl)<|rS (CL (pV x.iL 0 5000) (ar) rfl)<|rS (NT rfl)<|rS (PK rfl)<|rS (MV rfl) ?_
   refine bo (t:=60) rfl (fun h31=>?_) (fun h31=>?_)
   ·replace h31:=XT h31
    refine rS (OX rfl)<|rS (OX rfl)<|rS (OX rfl)<|rS (OX rfl)<|rS (OX rfl)<|rS (PK rfl)<|rS (MV rfl)<|rS (OX rfl)<|rS (OX rfl)<|rS (OX rfl) ?_
    refine rS (OX rfl)<|rS (OX rfl)<|rS (OX rfl)<|rS (PK rfl)<|RK hK23<|aW rfl<|WS fun _ hK32=>rS (AG rfl)<|RK hK32<|bM ?_
    refine ai<|dZ rfl<|ai<|ai<|aI<|KK hK11<|WS fun _ hK33=>rS (MV rfl)<|rS (AG rfl)<|RK hK33 ?_
    refine aE<|Q1 hQ rfl rfl rfl ?_
    first|exact congrArg (Value.int .i64) (if_neg (by rw [bW (by omega)]; decide)).symm|exact congrArg (Value.int .i64) (if_neg (by rw [cm hl0_1 hx (by simp only [a5,cG]; omega)]; decide)).symm|exact congrArg (Value.int .i64) (if_pos (bV hl0_1 (by omega) (by omega))).symm
   replace h31:=XF h31
   refine rS (FA 8 rfl sV rfl)<|rS (L1 (Value.int .i64 x.pP) 1 rfl bk rfl rfl)<|dV (xs:=[.tmp 62]) (cs:=[(Value.int .i64 x.pP)]) rfl di kb rfl rfl rfl rfl (by simp [Value.cells]) rfl rfl fun b34=>rS (CL (dY.eq (kN 0 5000 ([x.pP]) (some ⟨b34,0,none⟩) 1 (by first|assumption|omega|(simp; done)|(simp; omega))) cI) (aF (a4 0 rfl rfl (by simp [bO]) rfl)<|ar) rfl)<|rS (NT rfl)<|rS (PK rfl)<|rS (MV rfl) ?_
   refine bo (t:=67) rfl (fun h35=>?_) (fun h35=>?_)
   ·replace h35:=XT h35
    refine rS (OX rfl)<|rS (OX rfl)<|rS (OX rfl)<|rS (OX rfl)<|rS (OX rfl)<|rS (OX rfl)<|rS (PK rfl)<|RK hK23<|aW rfl<|WS fun _ hK36=>?_
    refine rS (AG rfl)<|RK hK36<|bM<|ai<|dZ rfl<|ai<|ai<|aI<|KK hK11<|WS fun _ hK37=>?_
    refine rS (MV rfl)<|rS (AG rfl)<|RK hK37<|aE<|Q1 hQ rfl rfl rfl ?_
    first|exact congrArg (Value.int .i64) (if_neg (by rw [bW (by omega)]; decide)).symm|exact congrArg (Value.int .i64) (if_neg (by rw [cm hl0_1 hx (by simp only [a5,cG]; omega)]; decide)).symm|exact congrArg (Value.int .i64) (if_pos (bV hl0_1 (by omega) (by omega))).symm
   replace h35:=XF h35
   refine rS (MV rfl)<|rS (NT rfl)<|rS (MV rfl) ?_
   refine bo (t:=70) rfl (fun h38=>?_) (fun h38=>?_)
   rotate_left 1
   ·replace h38:=XF h38
    refine rS (OX rfl)<|rS (OX rfl)<|rS (PK rfl)<|rS (PK rfl)<|RK hK23<|bH rfl<|WK hK22<|aC<|rS (FA 0 rfl na rfl)<|rS (L1 (Value.int .i64 x.Id) 2 rfl bk rfl rfl) ?_
    refine rS (AG rfl)<|aX<|aL<|KK hK17<|aC<|rS (BI rfl (a9 ⟨by omega,by omega⟩))<|rS (MV rfl)<|aX ?_
    have hb43:(Value.int .i64 (dW ts (i+1)))=(Value.int .i64 x.Id):=by rw [eg hx]
    refine aY (hJ13 ⟨(i+1),⟨by omega,eH hl0_1 hx (by simp only [a5,cG]; omega),by rw [eg hx]; omega,by rw [eg hx]; omega⟩⟩ _ _ _ rfl (by first|omega|(simp; omega)) (an.cons rfl<|a_ rfl hb43<|an.cons rfl<|an.cons rfl<|an.cons rfl<|an.cons rfl<|an.nil _) (fun w hs=>St.bB [3,4] rfl rfl hs))
   replace h38:=XT h38
   refine rS (MV rfl)<|rS (NT rfl)<|rS (PK rfl)<|rS (PK rfl)<|RK hK23 ?_
   refine bp rfl (fun h39=>?_) (fun h39=>?_)
   ·replace h39:=XT h39
    refine WS fun _ hK40=>rS (AG rfl)<|RK hK40<|bM<|ai<|dZ rfl<|ai<|ai<|aI<|KK hK11 ?_
    refine WS fun _ hK41=>rS (MV rfl)<|rS (AG rfl)<|RK hK41<|aE<|Q1 hQ rfl rfl rfl ?_
    first|exact congrArg (Value.int .i64) (if_neg (by rw [bW (by omega)]; decide)).symm|exact congrArg (Value.int .i64) (if_neg (by rw [cm hl0_1 hx (by simp only [a5,cG]; omega)]; decide)).symm|exact congrArg (Value.int .i64) (if_pos (bV hl0_1 (by omega) (by omega))).symm
   replace h39:=XF h39
   refine WK hK22<|aC<|rS (FA 0 rfl na rfl)<|rS (L1 (Value.int .i64 x.Id) 2 rfl bk rfl rfl)<|rS (AG rfl)<|aX<|aL<|KK hK17<|aC<|rS (BI rfl (a9 ⟨by omega,by omega⟩)) ?_
   refine rS (MV rfl)<|aX ?_
   have hb42:(Value.int .i64 (dW ts (i+1)))=(Value.int .i64 x.Id):=by rw [eg hx]
   refine aY (hJ13 ⟨(i+1),⟨by omega,eH hl0_1 hx (by simp only [a5,cG]; omega),by rw [eg hx]; omega,by rw [eg hx]; omega⟩⟩ _ _ _ rfl (by first|omega|(simp; omega)) (an.cons rfl<|a_ rfl hb42<|an.cons rfl<|an.cons rfl<|an.cons rfl<|an.cons rfl<|an.nil _) (fun w hs=>St.bB [3,4] rfl rfl hs))
  refine aC<|rS (FA 7 rfl p4 rfl)<|rS (L1 (Value.int .u8 x.fx) 0 rfl ER rfl rfl)<|rS (SX (nW (m:=x.fx) rfl rfl EP rl (pA (by first|assumption|omega))) rfl rfl)<|dV (xs:=[.tmp 33]) (cs:=[(Value.int .i64 x.fx)]) rfl di kb rfl rfl rfl rfl (by simp [Value.cells]) rfl rfl fun b22=>rS (CL (dY.eq (kN 1 2 ([x.fx]) (some ⟨b22,0,none⟩) 1 (by first|assumption|omega|(simp; done)|(simp; omega))) cI) (aF (a4 0 rfl rfl (by simp [bO]) rfl)<|ar) rfl)<|rS (MV rfl) ?_
  refine bo (t:=36) rfl (fun h23=>?_) (fun h23=>?_)
  rotate_left 1
  ·replace h23:=DF h23
   refine rS (OX rfl)<|rS (OX rfl)<|rS (OX rfl)<|rS (PK rfl)<|rS (AG rfl)<|aX ?_
   have hb25:(decide ((1≤x.fx∧x.fx≤2)∧x.cR.Lo≤x.cR.Hi∧500≤x.cR.Lo∧x.cR.Hi≤20000))=false:=decide_eq_false (by first|omega|(simp only [ab.ext_iff] at *; omega))
   refine aY (iz (an.cons rfl<|an.cons rfl<|an.cons rfl<|an.cons rfl<|an.cons rfl<|jZ rfl hb25<|an.cons rfl<|an.cons rfl<|an.cons rfl<|an.nil _) (fun w hs=>St.bB [1,2,3] rfl rfl hs) (hK21 ()))
  replace h23:=DT h23
  refine rS (FA 5 rfl jk rfl)<|rS (LP (ab.cells x.cR) 1 rfl cB rfl rfl rfl)<|rS (CL (pV x.cR 500 20000) (ar) rfl)<|rS (PK rfl)<|rS (AG rfl)<|aX ?_
  have hb24:(decide ((1≤x.fx∧x.fx≤2)∧x.cR.Lo≤x.cR.Hi∧500≤x.cR.Lo∧x.cR.Hi≤20000))=(decide (x.cR.Lo≤x.cR.Hi∧500≤x.cR.Lo∧x.cR.Hi≤20000)):=decide_eq_decide.2 (by first|omega|(simp only [ab.ext_iff] at *; omega))
  refine aY (iz (an.cons rfl<|an.cons rfl<|an.cons rfl<|an.cons rfl<|an.cons rfl<|jZ rfl hb24<|an.cons rfl<|an.cons rfl<|an.cons rfl<|an.nil _) (fun w hs=>St.bB [1,2,3] rfl rfl hs) (hK21 ()))
 refine aC<|rS (FA 7 rfl p4 rfl)<|rS (L1 (Value.int .u8 x.fx) 0 rfl ER rfl rfl)<|rS (BI rfl eC)<|rS (MV rfl) ?_
 refine bo (t:=25) rfl (fun h21=>?_) (fun h21=>?_)
 rotate_left 1
 ·replace h21:=DF h21
  refine rS (OX rfl)<|rS (OX rfl)<|rS (OX rfl)<|rS (OX rfl)<|rS (PK rfl)<|rS (AG rfl)<|aX ?_
  have hb23:(decide (x.fx=0∧x.cR.Lo=0∧x.cR.Hi=0))=false:=decide_eq_false (by first|omega|(simp only [ab.ext_iff] at *; omega))
  refine aY (iz (an.cons rfl<|an.cons rfl<|an.cons rfl<|an.cons rfl<|jZ rfl hb23<|an.cons rfl<|an.cons rfl<|an.cons rfl<|an.nil _) (fun w hs=>St.bB [0,1,2] rfl rfl hs) (hK20 ()))
 replace h21:=DT h21
 refine rS (FA 5 rfl jk rfl)<|rS (LP (ab.cells x.cR) 0 rfl cB rfl rfl rfl)<|rS (SX (aS (xs:=[]) (cs:=(ab.cells (ab.mk 0 0))) rfl rfl (aR fG rfl)) rfl rfl)<|rS (BI rfl (rX _ _ x.cR (ab.mk 0 0)))<|rS (PK rfl)<|rS (AG rfl)<|aX ?_
 have hb22:(decide (x.fx=0∧x.cR.Lo=0∧x.cR.Hi=0))=(decide (x.cR=(ab.mk 0 0))):=decide_eq_decide.2 (by first|omega|(simp only [ab.ext_iff] at *; omega))
 refine aY (iz (an.cons rfl<|an.cons rfl<|an.cons rfl<|an.cons rfl<|jZ rfl hb22<|an.cons rfl<|an.cons rfl<|an.cons rfl<|an.nil _) (fun w hs=>St.bB [0,1,2] rfl rfl hs) (hK20 ()))
set_option maxRecDepth 100000 in
set_option maxHeartbeats 400000 in
theorem u0 (la:List Int) (laA:Option Addr) (laC:Nat) (lb:List Int) (lbA:Option Addr) (lbC:Nat) (h1:la.length≤1000000) (h2:lb.length≤1000000):
 dY Tryz.prog 14 [(Value.slice laA la.length laC),(Value.slice lbA lb.length lbC)] [(rd laA la.length 1 (la.map iC)),(rd lbA lb.length 1 (lb.map iC))] (Value.bool (decide (la=lb))):=by
 refine bG Fq Tryz.func14 rfl rfl fun w0 Q hQ hN=>?_
 try dsimp only
 refine WS fun _ hK1=>rS (AG rfl)<|RK hK1<|aw fun _ hK2=>WS fun _ hK3=>rS (MV rfl)<|rS (LN rfl jD)<|rS (MV rfl)<|rS (LN rfl jD)<|rS (BI rfl eB) ?_
 refine RK hK3 ?_
 refine bp rfl (fun hl=>?_) (fun hl=>?_)
 ·replace hl:=XT hl
  refine WS fun _ hK4=>rS (AG rfl)<|RK hK4<|aE<|Q1 hQ rfl rfl rfl ?_
  first|exact congrArg Value.bool (decide_eq_false (qs hx hy h)).symm|exact congrArg Value.bool (decide_eq_true (qB (by omega) hl0_1 (by omega))).symm|exact congrArg Value.bool (decide_eq_false (fun e=>by subst e; omega)).symm
 replace hl:=XF hl
 refine WK hK2<|aw fun _ hK5=>WS fun _ hK6=>rS (AG rfl)<|RK hK6<|aH ?_
 have hinit:(0≤la.length)∧(la.take 0=lb.take 0):=by simp
 refine cP (ι:={z:Nat // (z≤la.length)∧(la.take z=lb.take z)}) (fun z=>[(0,(Value.slice laA la.length laC)),(1,(Value.slice lbA lb.length lbC)),(5,(Value.int .i64 ((z.1:Nat):Int)))]) (fun z=>[(rd laA la.length 1 (la.map iC)).ro,(rd lbA lb.length 1 (lb.map iC)).ro]) (fun z=>la.length-z.1) ⟨0,hinit⟩ (an.cons rfl<|an.cons rfl<|an.cons rfl<|an.nil _) (fun w hs=>St.bB [0,1] rfl rfl hs) ?_
 clear hinit
 rintro ⟨i,⟨hl0_0,hl0_1⟩⟩ J7 hJ7
 try dsimp only
 refine aw fun _ hK8=>WS fun _ hK9=>rS (MV rfl)<|rS (MV rfl)<|rS (LN rfl jD)<|rS (BI rfl cq)<|RK hK9 ?_
 refine bp rfl (fun h10=>?_) (fun h10=>?_)
 rotate_left 1
 ·replace h10:=DF h10
  refine bM<|ai<|ai<|aI<|KK hK5<|WS fun _ hK15=>rS (AG rfl)<|RK hK15<|aE<|Q1 hQ rfl rfl rfl ?_
  first|exact congrArg Value.bool (decide_eq_false (qs hx hy h)).symm|exact congrArg Value.bool (decide_eq_true (qB (by omega) hl0_1 (by omega))).symm|exact congrArg Value.bool (decide_eq_false (fun e=>by subst e; omega)).symm
 replace h10:=DT h10
 refine WK hK8<|aw fun _ hK11=>aH<|aw fun _ hK12=>dj ct 9 (by kernel_rfl)<|dS (MV rfl)<|dS (MV rfl) ?_
 obtain ⟨x,hx⟩: ∃ y_,la[i]? =some y_:=⟨la[i]'(by omega),List.getElem?_eq_getElem _⟩
 have hxm:(la.map iC)[i]? =some (iC x):=by rw [List.getElem?_map,hx]; rfl
 refine dS (IA i rfl (aQ 0 rfl) di (by decide) (by omega) (by omega))<|dS (ir i 0 (Value.int .i64 x) rfl bk (aQ 0 rfl) hxm rfl (by decide) rfl)<|dS (MV rfl)<|dS (MV rfl) ?_
 obtain ⟨y,hy⟩: ∃ y_,lb[i]? =some y_:=⟨lb[i]'(by omega),List.getElem?_eq_getElem _⟩
 have hym:(lb.map iC)[i]? =some (iC y):=by rw [List.getElem?_map,hy]; rfl
 refine dS (IA i rfl (aQ 1 rfl) di (by decide) (by omega) (by omega))<|dS (ir i 0 (Value.int .i64 y) rfl bk (aQ 1 rfl) hym rfl (by decide) rfl)<|dS (BI rfl eB)<|cE<|RK hK12 ?_
 refine bp rfl (fun h=>?_) (fun h=>?_)
 ·replace h:=XT h
  refine WS fun _ hK13=>rS (AG rfl)<|RK hK13<|aE<|Q1 hQ rfl rfl rfl ?_
  first|exact congrArg Value.bool (decide_eq_false (qs hx hy h)).symm|exact congrArg Value.bool (decide_eq_true (qB (by omega) hl0_1 (by omega))).symm|exact congrArg Value.bool (decide_eq_false (fun e=>by subst e; omega)).symm
 replace h:=XF h
 refine cH<|aL<|KK hK11<|aC<|rS (MV rfl)<|rS (BI rfl (a9 ⟨by omega,by omega⟩))<|rS (AG rfl)<|aX ?_
 have hb14:(Value.int .i64 (((i+1):Nat):Int))=(Value.int .i64 (((i:Nat):Int)+1)):=by exact congrArg (Value.int .i64) (by omega)
 refine aY (hJ7 ⟨(i+1),⟨by omega,wE hl0_1 hx hy h⟩⟩ _ _ _ rfl (by first|omega|(simp; omega)) (an.cons rfl<|an.cons rfl<|a_ rfl hb14<|an.nil _) (fun w hs=>St.bB [0,1] rfl rfl hs))
end
section
open Go.RowKit
set_option linter.unusedVariables false
set_option maxRecDepth 100000 in
set_option maxHeartbeats 400000 in
theorem xZ (n:Int) (lo:Int) (hi:Int) (g1:Nat) (g2:Nat):
 dY Tryz.prog 66 [(Value.int .i64 n),(Value.pointer (some ⟨g1,0,none⟩)),(Value.pointer (some ⟨g2,0,none⟩))] [(aU g1 3 [(Value.int .i64 lo)]),(aU g2 3 [(Value.int .i64 hi)])] (Value.bool (decide (n<lo∨hi<n))):=by
 refine bG Gr Tryz.func66 rfl rfl fun w0 Q hQ hN=>?_
 try dsimp only
 refine WS fun _ hK1=>rS (AG rfl)<|RK hK1<|WS fun _ hK2=>rS (MV rfl)<|rS (rY 0 rfl bk rfl)<|rS (BI rfl cq)<|rS (MV rfl) ?_
 refine bo (t:=8) rfl (fun h3=>?_) (fun h3=>?_)
 ·replace h3:=DT h3
  refine rS (OX rfl)<|rS (OX rfl)<|rS (OX rfl)<|rS (PK rfl)<|rS (AG rfl)<|RK hK2<|aE<|Q1 hQ rfl rfl rfl ?_
  exact congrArg Value.bool (decide_eq_true (by omega)).symm
 replace h3:=DF h3
 refine rS (MV rfl)<|rS (rY 1 rfl bk rfl)<|rS (BI rfl eL)<|rS (PK rfl)<|rS (AG rfl)<|RK hK2<|aE<|Q1 hQ rfl rfl rfl ?_
 exact congrArg Value.bool (decide_eq_decide.2 (by omega))
set_option maxRecDepth 100000 in
set_option maxHeartbeats 400000 in
theorem d_ (lo:Int) (hi:Int) (l:List Int) (lA:Option Addr) (lC:Nat) (hlen:l.length≤1000000):
 dY Tryz.prog 39 [(Value.int .i64 lo),(Value.int .i64 hi),(Value.slice lA l.length lC)] [(rd lA l.length 1 (l.map iC))] (Value.bool (rB lo hi l)):=by
 refine bG Fp Tryz.func39 rfl rfl fun w0 Q hQ hN=>?_
 try dsimp only
 refine WS fun _ hK1=>vY rfl rfl fun b2=>vY rfl rfl fun b3=>rS (AG rfl)<|RK hK1<|WS fun _ hK4=>rS (MV rfl)<|rS (FU rfl)<|rS (CL (qn l lA lC (Value.func (.func 66) [].toArray [(Value.pointer (some ⟨b2,0,none⟩)),(Value.pointer (some ⟨b3,0,none⟩))].toArray) (fun u5=>(decide (u5<lo∨hi<u5))) (c_ [(aU b2 3 [(Value.int .i64 lo)]),(aU b3 3 [(Value.int .i64 hi)])]) (by intro u5 _; exact mg (fi:=[]) (ca:=[(Value.pointer (some ⟨b2,0,none⟩)),(Value.pointer (some ⟨b3,0,none⟩))]) (lk (xZ u5 lo hi b2 b3) (ax 0 rfl rfl<|ax 1 rfl rfl<|ar))) hlen) (ax 2 rfl rfl<|aF (lN (ax 1 rfl rfl<|ax 0 rfl rfl<|ar))<|ar) rfl)<|rS (NT rfl) ?_
 refine rS (AG rfl)<|RK hK4<|aE ?_
 exact Q1 hQ rfl rfl rfl rfl
set_option maxRecDepth 100000 in
set_option maxHeartbeats 400000 in
theorem Gm (n:Int) (d:Int) (hd:2≤d):
 dY Tryz.prog 58 [(Value.int .i64 n),(Value.int .i64 d)] [] (Value.int .i64 (El n d)):=by
 refine bG D2 Tryz.func58 rfl rfl fun w0 Q hQ hN=>?_
 try dsimp only
 refine WS fun _ hK1=>rS (AG rfl)<|RK hK1<|WS fun _ hK2=>rS (MV rfl)<|rS (MV rfl)<|rS (BI rfl BV)<|rS (BI rfl yq)<|rS (MV rfl)<|rS (BI rfl (Cy (by omega) (BG (ED _) hd))) ?_
 refine rS (AG rfl)<|RK hK2<|aE ?_
 exact Q1 hQ rfl rfl rfl rfl
set_option maxRecDepth 100000 in
set_option maxHeartbeats 400000 in
theorem v3 (n:Int) (d:Int) (hd:1≤d∧d≤1000000) (hn:0≤n∧n≤1000000000000000):
 dY Tryz.prog 58 [(Value.int .i64 n),(Value.int .i64 d)] [] (Value.int .i64 (mx n d)):=by
 refine bG D2 Tryz.func58 rfl rfl fun w0 Q hQ hN=>?_
 try dsimp only
 refine WS fun _ hK1=>rS (AG rfl)<|RK hK1<|WS fun _ hK2=>rS (MV rfl)<|rS (MV rfl)<|rS (BI rfl (a9 ⟨by omega,by omega⟩))<|rS (BI rfl (cr ⟨by omega,by omega⟩))<|rS (MV rfl)<|rS (BI rfl (vu (by omega) (by omega) (by omega))) ?_
 refine rS (AG rfl)<|RK hK2<|aE ?_
 exact Q1 hQ rfl rfl rfl rfl
set_option maxRecDepth 100000 in
set_option maxHeartbeats 400000 in
theorem sj (c:ao) (sA:Option Addr) (sC:Nat) (at_:Int) (hc:dv c) (ha:0≤at_∧at_≤90000000):
 dY Tryz.prog 75 [(Value.agg (b_.cells (b_.mk c.cz (aA.mk sA c.aJ.length sC))).toArray),(Value.int .i64 at_)] [(rd sA c.aJ.length 3 (c.aJ.map bI.cells))] (Value.agg (ab.cells (ee c at_)).toArray):=by
 have hcl:=hc.len
 have hcd:=hc.gh
 refine bG E0 Tryz.func75 rfl rfl fun w0 Q hQ hN=>?_
 try dsimp only
 refine WS fun _ hK1=>gv rfl fun b2=>AL rfl dk fun b3=>RK hK1<|WS fun _ hK4=>rS (SX (aS (xs:=[(0,.const (Value.int .i64 (-1099511627776))),(1,.const (Value.int .i64 1099511627776))]) (cs:=(ab.cells (ab.mk (-1099511627776) 1099511627776))) rfl rfl (aR fG rfl)) rfl rfl)<|AL rfl dk fun b5=>e7 rfl cv rfl<|RK hK4<|aw fun _ hK6=>?_
 refine aw fun _ hK7=>?_
 have hb8:(ab.cells (ab.mk (-1099511627776) 1099511627776))=(ab.cells (dX c at_ 0)):=by rfl
 rw [hb8]
 refine aC<|rS (FA 1 rfl jC rfl)<|rS (L1 (Value.slice sA c.aJ.length sC) 2 rfl pK rfl rfl)<|rS (LN rfl s8)<|rS (MV rfl)<|RK hK7<|aH ?_
 have hinit:(0≤c.aJ.length):=by exact Nat.zero_le _
 refine cP (ι:={z:Nat // (z≤c.aJ.length)}) (fun z=>[(1,(Value.int .i64 at_)),(2,(Value.pointer (some ⟨b2,0,none⟩))),(4,(Value.pointer (some ⟨b3,0,none⟩))),(5,(Value.pointer (some ⟨b5,0,none⟩))),(11,(Value.slice sA c.aJ.length sC)),(12,(Value.int .i64 ((c.aJ.length:Nat):Int))),(13,(Value.int .i64 ((z.1:Nat):Int)))]) (fun z=>[(aU b5 47 (ab.cells (dX c at_ z.1))),(aU b3 47 (ab.cells (ab.mk 0 0))),(aU b2 63 (b_.cells (b_.mk c.cz (aA.mk sA c.aJ.length sC)))),(rd sA c.aJ.length 3 (c.aJ.map bI.cells)).ro]) (fun z=>c.aJ.length-z.1) ⟨0,hinit⟩ (an.cons rfl<|an.cons rfl<|an.cons rfl<|an.cons rfl<|an.cons rfl<|an.cons rfl<|an.cons rfl<|an.nil _) (fun w hs=>St.bB [0,1,2,3] rfl rfl hs) ?_
 clear hinit
 rintro ⟨i,hl0_0⟩ J9 hJ9
 try dsimp only
 refine WS fun _ hK10=>rS (BI rfl cq)<|RK hK10<|aw fun _ hK11=>?_
 refine bp rfl (fun h12=>?_) (fun h12=>?_)
 rotate_left 1
 ·replace h12:=DF h12
  refine bM<|ai<|ai<|aI<|KK hK6<|WS fun _ hK19=>rS (LW 0 rfl cB rfl rfl)<|oL rfl cv rfl<|RK hK19<|aE ?_
  refine hQ _ _ _ (bD (vs:=[(Value.agg (ab.cells (dX c at_ i)).toArray)]) ⟨⟨_,rfl,.inl ⟨_,_,cB,cd (vs:=(ab.cells (dX c at_ i))) 1 rfl rfl,rfl,rfl⟩⟩,trivial⟩ fun w hs=>eR ?_ hs)
  show (Value.agg (ab.cells (dX c at_ i)).toArray)=(Value.agg (ab.cells (ee c at_)).toArray)
  clear hs w hQ hN hK19 hK11 hK10 hK7 hK6 hK4 hK1
  rw [lq (show c.aJ.length≤i by omega)]
 replace h12:=DT h12
 refine WK hK11<|aw fun _ hK13=>aH<|WS fun _ hK14=>?_
 obtain ⟨x,hx⟩: ∃ y_,c.aJ[i]? =some y_:=⟨c.aJ[i]'(by omega),List.getElem?_eq_getElem _⟩
 have hxm:(c.aJ.map bI.cells)[i]? =some (bI.cells x):=by rw [List.getElem?_map,hx]; rfl
 refine rS (IA i rfl (aQ 3 rfl) rq (by decide) (by omega) (by omega))<|rS (kE i 0 (bI.cells x) rfl uX (aQ 3 rfl) hxm rfl (by decide) rfl rfl)<|AL rfl rn fun b15=>e7 rfl ue rfl<|RK hK14<|WS fun _ hK16=>rS (FA 0 rfl pf rfl)<|rS (L1 (Value.int .i64 c.cz) 3 rfl bk rfl rfl)<|rS (MV rfl)<|rS (FA 0 rfl ja rfl) ?_
 refine rS (L1 (Value.int .i64 x.At) 0 rfl bk rfl rfl) ?_
 have hsb:=hc.oM hx
 have hkb:=ug hc ha i
 have hdb:=vI hcd ha (show 0≤x.At∧x.At≤90000000 by omega)
 refine rS (BI rfl (cr ⟨by omega,by omega⟩))<|rS (FA 0 rfl ja rfl)<|rS (L1 (Value.int .i64 x.At) 0 rfl bk rfl rfl)<|rS (MV rfl)<|rS (BI rfl (cr ⟨by omega,by omega⟩))<|rS (MX rfl)<|rS (BI rfl (mA ⟨by omega,by omega⟩))<|rS (CL (v3 (c.cz*(max (at_-x.At) (x.At-at_))) 1000000 (by first|assumption|omega|(simp; done)|(simp; omega)) (by first|assumption|omega|(simp; done)|(simp; omega))) (ar) rfl)<|rS (AG rfl)<|RK hK16 ?_
 refine aC<|rS (FA 0 rfl bP rfl)<|rS (L1 (Value.int .i64 ((dX c at_ i).Lo)) 1 rfl bk rfl rfl)<|rS (FA 1 rfl eK rfl)<|rS (FA 1 rfl bP rfl)<|rS (L1 (Value.int .i64 x.cx.Lo) 0 rfl bk rfl rfl)<|rS (MV rfl) ?_
 have hob:0≤mx (c.cz*max (at_-x.At) (x.At-at_)) 1000000∧mx (c.cz*max (at_-x.At) (x.At-at_)) 1000000≤90001:=qa hcd ha hsb.1
 refine rS (BI rfl (cr ⟨by omega,by omega⟩))<|rS (MX rfl)<|rS (FA 1 rfl bZ rfl)<|rS (L1 (Value.int .i64 ((dX c at_ i).Hi)) 1 rfl bk rfl rfl)<|rS (FA 1 rfl eK rfl)<|rS (FA 2 rfl bZ rfl)<|rS (L1 (Value.int .i64 x.cx.Hi) 0 rfl bk rfl rfl)<|rS (MV rfl)<|rS (BI rfl (a9 ⟨by omega,by omega⟩))<|rS (MN rfl) ?_
 refine rS (SX (aS (xs:=[(0,.tmp 37),(1,.tmp 45)]) (cs:=(ab.cells (ab.mk (max ((dX c at_ i).Lo) (x.cx.Lo-(mx (c.cz*(max (at_-x.At) (x.At-at_))) 1000000))) (min ((dX c at_ i).Hi) (x.cx.Hi+(mx (c.cz*(max (at_-x.At) (x.At-at_))) 1000000)))))) rfl rfl (aR fG rfl)) rfl rfl)<|oL rfl cv rfl<|aX<|aL<|KK hK13 ?_
 have hb17:(ab.cells (ab.mk (max ((dX c at_ i).Lo) (x.cx.Lo-(mx (c.cz*(max (at_-x.At) (x.At-at_))) 1000000))) (min ((dX c at_ i).Hi) (x.cx.Hi+(mx (c.cz*(max (at_-x.At) (x.At-at_))) 1000000)))))=(ab.cells (dX c at_ (i+1))):=by rw [jv hx]; rfl
 rw [hb17]
 refine aC<|rS (BI rfl (a9 ⟨by omega,by omega⟩))<|rS (MV rfl)<|aX ?_
 have hb18:(Value.int .i64 (((i+1):Nat):Int))=(Value.int .i64 (((i:Nat):Int)+1)):=by exact congrArg (Value.int .i64) (by omega)
 refine aY (hJ9 ⟨(i+1),(by first|omega|(simp only []; omega))⟩ _ _ _ rfl (by first|omega|(simp; omega)) (an.cons rfl<|an.cons rfl<|an.cons rfl<|an.cons rfl<|an.cons rfl<|an.cons rfl<|a_ rfl hb18<|an.nil _) (fun w hs=>St.bB [1,2,3,4] rfl rfl hs))
set_option maxRecDepth 100000 in
set_option maxHeartbeats 400000 in
theorem B4 (c:ao) (sA:Option Addr) (sC:Nat) (hlen:c.aJ.length≤1000000) (hcap:c.aJ.length≤sC):
 dY Tryz.prog 110 [(Value.agg (b_.cells (b_.mk c.cz (aA.mk sA c.aJ.length sC))).toArray)] [(rd sA c.aJ.length 3 (c.aJ.map bI.cells))] (Value.bool (decide (dv c))):=by
 refine bG Ee Tryz.func110 rfl rfl fun w0 Q hQ hN=>?_
 try dsimp only
 refine WS fun _ hK1=>gv rfl fun b2=>rS (AG rfl)<|RK hK1<|vU rfl<|aw fun _ hK3=>WS fun _ hK4=>rS (FA 0 rfl pf rfl)<|rS (L1 (Value.int .i64 c.cz) 0 rfl bk rfl rfl)<|dV (xs:=[.tmp 11]) (cs:=[(Value.int .i64 c.cz)]) rfl di kb rfl rfl rfl rfl (by simp [Value.cells]) rfl rfl fun b5=>?_
 refine rS (CL (dY.eq (d_ 0 1000 ([c.cz]) (some ⟨b5,0,none⟩) 1 (by first|assumption|omega|(simp; done)|(simp; omega))) cI) (aF (a4 0 rfl rfl (by simp [bO]) rfl)<|ar) rfl)<|rS (NT rfl)<|rS (MV rfl) ?_
 refine bo (t:=15) rfl (fun h15=>?_) (fun h15=>?_)
 ·replace h15:=XT h15
  refine rS (OX rfl)<|rS (OX rfl)<|rS (OX rfl)<|rS (OX rfl)<|rS (OX rfl)<|rS (OX rfl)<|rS (PK rfl)<|RK hK4<|aW rfl<|WS fun _ hK6=>?_
  refine rS (AG rfl)<|RK hK6<|aE<|Q1 hQ rfl rfl rfl ?_
  first|exact congrArg Value.bool (decide_eq_false fun h=>h15 h.gh).symm|exact congrArg Value.bool (decide_eq_false fun h=>h22 (by have:=h.len; omega)).symm|exact congrArg Value.bool (decide_eq_true (mR h15 (by omega) (by have e:i=c.aJ.length:=(by omega); rw [← e]; exact hl0_1))).symm|exact congrArg Value.bool (by have e:k=i:=(by omega); rw [e] at hl1_1; rw [h99] at hl1_1 ⊢; exact (decide_eq_false (n7 hx (of_decide_eq_false hl1_1.symm))).symm)
 replace h15:=XF h15
 refine rS (FA 1 rfl jC rfl)<|rS (L1 (Value.slice sA c.aJ.length sC) 1 rfl pK rfl rfl)<|rS (LN rfl s8)<|dV (xs:=[.tmp 18]) (cs:=[(Value.int .i64 ((c.aJ.length:Nat):Int))]) rfl di kb rfl rfl rfl rfl (by simp [Value.cells]) rfl rfl fun b7=>rS (CL (dY.eq (d_ 1 5 ([((c.aJ.length:Nat):Int)]) (some ⟨b7,0,none⟩) 1 (by first|assumption|omega|(simp; done)|(simp; omega))) cI) (aF (a4 0 rfl rfl (by simp [bO]) rfl)<|ar) rfl)<|rS (NT rfl)<|rS (PK rfl)<|RK hK4 ?_
 refine bp rfl (fun h22=>?_) (fun h22=>?_)
 ·replace h22:=XT h22
  refine WS fun _ hK8=>rS (AG rfl)<|RK hK8<|aE<|Q1 hQ rfl rfl rfl ?_
  first|exact congrArg Value.bool (decide_eq_false fun h=>h15 h.gh).symm|exact congrArg Value.bool (decide_eq_false fun h=>h22 (by have:=h.len; omega)).symm|exact congrArg Value.bool (decide_eq_true (mR h15 (by omega) (by have e:i=c.aJ.length:=(by omega); rw [← e]; exact hl0_1))).symm|exact congrArg Value.bool (by have e:k=i:=(by omega); rw [e] at hl1_1; rw [h99] at hl1_1 ⊢; exact (decide_eq_false (n7 hx (of_decide_eq_false hl1_1.symm))).symm)
 replace h22:=XF h22
 refine WK hK3<|WS fun _ hK9=>rS (AG rfl)<|RK hK9<|WS fun _ hK10=>rS (AG rfl)<|RK hK10<|aw fun _ hK11=>vD<|KK hK11 ?_
 refine aw fun _ hK12=>WS fun _ hK13=>rS (FA 1 rfl jC rfl)<|rS (L1 (Value.slice sA c.aJ.length sC) 2 rfl pK rfl rfl)<|rS (LN rfl s8)<|rS (MV rfl)<|RK hK13<|aH ?_
 have hinit:(0≤c.aJ.length)∧(nJ c 0):=by exact ⟨Nat.zero_le _,wv⟩
 have hb14:(Value.int .i64 (gM c 0))=(Value.int .i64 (-1)):=by rw [cQ rfl]
 refine cP (ι:={z:Nat // (z≤c.aJ.length)∧(nJ c z)}) (fun z=>[(1,(Value.pointer (some ⟨b2,0,none⟩))),(2,(Value.bool false)),(3,(Value.int .i64 (gM c z.1))),(4,(Value.bool true)),(24,(Value.slice sA c.aJ.length sC)),(25,(Value.int .i64 ((c.aJ.length:Nat):Int))),(26,(Value.int .i64 ((z.1:Nat):Int)))]) (fun z=>[(aU b2 63 (b_.cells (b_.mk c.cz (aA.mk sA c.aJ.length sC)))),(rd sA c.aJ.length 3 (c.aJ.map bI.cells)).ro]) (fun z=>c.aJ.length-z.1) ⟨0,hinit⟩ (an.cons rfl<|an.cons rfl<|a_ rfl hb14<|an.cons rfl<|an.cons rfl<|an.cons rfl<|an.cons rfl<|an.nil _) (fun w hs=>St.bB [2,3] rfl rfl hs) ?_
 clear hinit
 rintro ⟨i,⟨hl0_0,hl0_1⟩⟩ J15 hJ15
 try dsimp only
 have hpv: -1≤gM c i∧gM c i≤86400000:=CH hl0_0 hl0_1
 refine WS fun _ hK16=>rS (BI rfl cq)<|RK hK16<|aw fun _ hK17=>?_
 refine bp rfl (fun h18=>?_) (fun h18=>?_)
 rotate_left 1
 ·replace h18:=DF h18
  refine bM<|ai<|ai<|aI<|KK hK12<|WS fun _ hK28=>rS (MV rfl)<|rS (AG rfl)<|RK hK28<|aE ?_
  refine Q1 hQ rfl rfl rfl ?_
  first|exact congrArg Value.bool (decide_eq_false fun h=>h15 h.gh).symm|exact congrArg Value.bool (decide_eq_false fun h=>h22 (by have:=h.len; omega)).symm|exact congrArg Value.bool (decide_eq_true (mR h15 (by omega) (by have e:i=c.aJ.length:=(by omega); rw [← e]; exact hl0_1))).symm|exact congrArg Value.bool (by have e:k=i:=(by omega); rw [e] at hl1_1; rw [h99] at hl1_1 ⊢; exact (decide_eq_false (n7 hx (of_decide_eq_false hl1_1.symm))).symm)
 replace h18:=DT h18
 refine WK hK17<|aw fun _ hK19=>aH<|WS fun _ hK20=>rS (MV rfl) ?_
 obtain ⟨x,hx⟩: ∃ y_,c.aJ[i]? =some y_:=⟨c.aJ[i]'(by omega),List.getElem?_eq_getElem _⟩
 have hxm:(c.aJ.map bI.cells)[i]? =some (bI.cells x):=by rw [List.getElem?_map,hx]; rfl
 refine rS (IA i rfl (aQ 1 rfl) rq (by decide) (by omega) (by omega))<|rS (kE i 0 (bI.cells x) rfl uX (aQ 1 rfl) hxm rfl (by decide) rfl rfl)<|AL rfl rn fun b21=>rS (AG rfl)<|e7 rfl ue rfl<|RK hK20 ?_
 refine pj (ι:=Unit) (fun z=>[(1,(Value.pointer (some ⟨b2,0,none⟩))),(2,(Value.bool false)),(3,(Value.int .i64 (gM c i))),(4,(Value.bool (decide (de c i x)))),(5,(Value.int .i64 ((i:Nat):Int))),(6,(Value.pointer (some ⟨b21,0,none⟩))),(24,(Value.slice sA c.aJ.length sC)),(25,(Value.int .i64 ((c.aJ.length:Nat):Int))),(26,(Value.int .i64 ((i:Nat):Int)))]) (fun z=>[(aU b21 65 (bI.cells x)),(aU b2 63 (b_.cells (b_.mk c.cz (aA.mk sA c.aJ.length sC)))),(rd sA c.aJ.length 3 (c.aJ.map bI.cells)).ro]) ?_ fun K22 hK22=>?_
 ·intro _
  try dsimp only
  refine aw fun _ hK23=>WS fun _ hK24=>rS (FA 1 rfl jC rfl)<|rS (L1 (Value.slice sA c.aJ.length sC) 1 rfl pK rfl rfl)<|rS (MV rfl)<|rS (G8 i rfl rq (by omega) (by first|omega|exact Nat.zero_le _|(simp; omega)))<|rS (LN rfl s8)<|rS (MV rfl)<|RK hK24<|aH ?_
  have hinit:(0≤i)∧((decide (de c i x))=(decide (jh c i x 0))):=by exact ⟨Nat.zero_le _,decide_eq_decide.2 uJ.symm⟩
  refine cP (ι:={z:Nat×Bool // (z.1≤i)∧(z.2=(decide (jh c i x z.1)))}) (fun z=>[(1,(Value.pointer (some ⟨b2,0,none⟩))),(2,(Value.bool false)),(3,(Value.int .i64 (gM c i))),(4,(Value.bool z.1.2)),(5,(Value.int .i64 ((i:Nat):Int))),(6,(Value.pointer (some ⟨b21,0,none⟩))),(24,(Value.slice sA c.aJ.length sC)),(25,(Value.int .i64 ((c.aJ.length:Nat):Int))),(26,(Value.int .i64 ((i:Nat):Int))),(59,(Value.slice sA i sC)),(60,(Value.int .i64 ((i:Nat):Int))),(61,(Value.int .i64 ((z.1.1:Nat):Int)))]) (fun z=>[(aU b21 65 (bI.cells x)),(aU b2 63 (b_.cells (b_.mk c.cz (aA.mk sA c.aJ.length sC)))),(rd sA c.aJ.length 3 (c.aJ.map bI.cells)).ro]) (fun z=>i-z.1.1) ⟨(0,(decide (de c i x))),hinit⟩ (an.cons rfl<|an.cons rfl<|an.cons rfl<|an.cons rfl<|an.cons rfl<|an.cons rfl<|an.cons rfl<|an.cons rfl<|an.cons rfl<|an.cons rfl<|an.cons rfl<|an.cons rfl<|an.nil _) (fun w hs=>St.bB [0,1,2] rfl rfl hs) ?_
  clear hinit
  rintro ⟨⟨k,b⟩,⟨hl1_0,hl1_1⟩⟩ J25 hJ25
  try dsimp only at hl1_0 hl1_1
  try dsimp only
  refine WS fun _ hK26=>rS (BI rfl cq)<|RK hK26<|aw fun _ hK27=>?_
  refine bp rfl (fun h28=>?_) (fun h28=>?_)
  rotate_left 1
  ·replace h28:=DF h28
   refine bM<|ai<|ai<|aI<|KK hK23<|aw fun _ hK36=>WS fun _ hK37=>rS (MV rfl)<|rS (NT rfl)<|RK hK37 ?_
   refine bp rfl (fun h99=>?_) (fun h99=>?_)
   ·rw [Bool.not_eq_true'] at h99
    refine bM<|ai<|dZ rfl<|ai<|ai<|aI<|KK hK12<|WS fun _ hK38=>rS (MV rfl)<|rS (AG rfl) ?_
    refine RK hK38<|aE<|Q1 hQ rfl rfl rfl ?_
    first|exact congrArg Value.bool (decide_eq_false fun h=>h15 h.gh).symm|exact congrArg Value.bool (decide_eq_false fun h=>h22 (by have:=h.len; omega)).symm|exact congrArg Value.bool (decide_eq_true (mR h15 (by omega) (by have e:i=c.aJ.length:=(by omega); rw [← e]; exact hl0_1))).symm|exact congrArg Value.bool (by have e:k=i:=(by omega); rw [e] at hl1_1; rw [h99] at hl1_1 ⊢; exact (decide_eq_false (n7 hx (of_decide_eq_false hl1_1.symm))).symm)
   rw [Bool.not_eq_false'] at h99
   refine WK hK36<|aC<|rS (FA 0 rfl ja rfl)<|rS (L1 (Value.int .i64 x.At) 0 rfl bk rfl rfl)<|rS (AG rfl)<|aX<|aL<|KK hK19<|aC<|rS (BI rfl (a9 ⟨by omega,by omega⟩)) ?_
   refine rS (MV rfl)<|aX ?_
   have hb39:(Value.int .i64 (gM c (i+1)))=(Value.int .i64 x.At):=by rw [kB hx]
   have hb40:(Value.bool true)=(Value.bool b):=by exact congrArg Value.bool h99.symm
   have hb41:(Value.int .i64 (((i+1):Nat):Int))=(Value.int .i64 (((i:Nat):Int)+1)):=by exact congrArg (Value.int .i64) (by omega)
   refine aY (hJ15 ⟨(i+1),⟨by omega,wm hl0_1 hx (by have e:k=i:=(by omega); rw [e] at hl1_1; exact of_decide_eq_true (hl1_1.symm.trans h99))⟩⟩ _ _ _ rfl (by first|omega|(simp; omega)) (an.cons rfl<|an.cons rfl<|a_ rfl hb39<|a_ rfl hb40<|an.cons rfl<|an.cons rfl<|a_ rfl hb41<|an.nil _) (fun w hs=>St.bB [1,2] rfl rfl hs))
  replace h28:=DT h28
  refine WK hK27<|aw fun _ hK29=>aH<|WS fun _ hK30=>?_
  obtain ⟨o,ho⟩: ∃ y_,c.aJ[k]? =some y_:=⟨c.aJ[k]'(by omega),List.getElem?_eq_getElem _⟩
  have hom:(c.aJ.map bI.cells)[k]? =some (bI.cells o):=by rw [List.getElem?_map,ho]; rfl
  refine rS (G9 k rfl (aQ 2 rfl) rq (by decide) (by omega) (by omega) (by omega))<|rS (kE k 0 (bI.cells o) rfl uX (aQ 2 rfl) hom rfl (by decide) rfl rfl)<|AL rfl rn fun b31=>e7 rfl ue rfl<|RK hK30<|WS fun _ hK32=>rS (FA 0 rfl pf rfl)<|rS (L1 (Value.int .i64 c.cz) 2 rfl bk rfl rfl)<|rS (FA 0 rfl ja rfl)<|rS (L1 (Value.int .i64 x.At) 1 rfl bk rfl rfl) ?_
  refine rS (FA 0 rfl ja rfl)<|rS (L1 (Value.int .i64 o.At) 0 rfl bk rfl rfl)<|rS (BI rfl yq)<|rS (BI rfl CR)<|rS (CL (Gm (ta (c.cz*(ta (x.At-o.At)))) 1000000 (by first|assumption|omega|(simp; done)|(simp; omega))) (ar) rfl)<|rS (AG rfl)<|RK hK32<|aC<|rS (MV rfl)<|rS (MV rfl) ?_
  refine bo (t:=75) rfl (fun h75=>?_) (fun h75=>?_)
  rotate_left 1
  ·refine rS (OX rfl) ?_
   refine rS (OX rfl)<|rS (OX rfl)<|rS (OX rfl)<|rS (OX rfl)<|rS (OX rfl)<|rS (OX rfl)<|rS (OX rfl)<|rS (OX rfl)<|rS (PK rfl)<|rS (MV rfl) ?_
   refine rS (OX rfl)<|rS (OX rfl)<|rS (OX rfl)<|rS (OX rfl)<|rS (OX rfl)<|rS (OX rfl)<|rS (OX rfl)<|rS (OX rfl)<|rS (OX rfl)<|rS (PK rfl) ?_
   refine rS (AG rfl)<|aX<|aL<|KK hK29<|aC<|rS (BI rfl (a9 ⟨by omega,by omega⟩))<|rS (MV rfl)<|aX ?_
   have hb35:(Value.int .i64 (((k+1):Nat):Int))=(Value.int .i64 (((k:Nat):Int)+1)):=by exact congrArg (Value.int .i64) (by omega)
   refine aY (hJ25 ⟨((k+1),false),⟨by omega,by first|exact (decide_eq_false fun h=>by have h2:=((gp ho).1 h).1; rw [hl1_1] at h75; exact absurd (decide_eq_true h2) (by rw [h75]; decide)).symm|exact (decide_eq_false fun h=>by have h2:=((gp ho).1 h).2; rw [hup] at h86; exact h86 h2.1).symm|exact decide_eq_decide.2 (by rw [gp ho,hup]; rw [hup] at h86; exact ⟨fun h=>⟨hro,h86,h⟩,fun h=>h.2.2⟩)⟩⟩ _ _ _ rfl (by first|omega|(simp; omega)) (an.cons rfl<|an.cons rfl<|an.cons rfl<|an.cons rfl<|an.cons rfl<|an.cons rfl<|an.cons rfl<|an.cons rfl<|an.cons rfl<|an.cons rfl<|an.cons rfl<|a_ rfl hb35<|an.nil _) (fun w hs=>St.bB [1,2,3] rfl rfl hs))
  refine rS (FA 1 rfl eK rfl)<|rS (FA 1 rfl bP rfl)<|rS (L1 (Value.int .i64 x.cx.Lo) 1 rfl bk rfl rfl)<|rS (FA 1 rfl eK rfl)<|rS (FA 2 rfl bZ rfl)<|rS (L1 (Value.int .i64 o.cx.Hi) 0 rfl bk rfl rfl) ?_
  have hro:jh c i x k:=of_decide_eq_true (hl1_1.symm.trans h75)
  obtain ⟨hq1,hq2,hq3⟩:=oY (fun j y hj hy=>(hl0_1 j y hj hy).1) hx hro.1 (by omega) ho
  have hup:=An h15 hq1
  refine rS (BI rfl (cr ⟨by omega,by omega⟩))<|rS (MV rfl)<|rS (BI rfl eT)<|rS (PK rfl)<|rS (MV rfl) ?_
  refine bo (t:=86) rfl (fun h86=>?_) (fun h86=>?_)
  rotate_left 1
  ·replace h86:=DF h86
   refine rS (OX rfl)<|rS (OX rfl)<|rS (OX rfl)<|rS (OX rfl)<|rS (OX rfl)<|rS (OX rfl)<|rS (OX rfl)<|rS (OX rfl)<|rS (OX rfl)<|rS (PK rfl) ?_
   refine rS (AG rfl)<|aX<|aL<|KK hK29<|aC<|rS (BI rfl (a9 ⟨by omega,by omega⟩))<|rS (MV rfl)<|aX ?_
   have hb34:(Value.int .i64 (((k+1):Nat):Int))=(Value.int .i64 (((k:Nat):Int)+1)):=by exact congrArg (Value.int .i64) (by omega)
   refine aY (hJ25 ⟨((k+1),false),⟨by omega,by first|exact (decide_eq_false fun h=>by have h2:=((gp ho).1 h).1; rw [hl1_1] at h75; exact absurd (decide_eq_true h2) (by rw [h75]; decide)).symm|exact (decide_eq_false fun h=>by have h2:=((gp ho).1 h).2; rw [hup] at h86; exact h86 h2.1).symm|exact decide_eq_decide.2 (by rw [gp ho,hup]; rw [hup] at h86; exact ⟨fun h=>⟨hro,h86,h⟩,fun h=>h.2.2⟩)⟩⟩ _ _ _ rfl (by first|omega|(simp; omega)) (an.cons rfl<|an.cons rfl<|an.cons rfl<|an.cons rfl<|an.cons rfl<|an.cons rfl<|an.cons rfl<|an.cons rfl<|an.cons rfl<|an.cons rfl<|an.cons rfl<|a_ rfl hb34<|an.nil _) (fun w hs=>St.bB [1,2,3] rfl rfl hs))
  replace h86:=DT h86
  refine rS (FA 1 rfl eK rfl)<|rS (FA 1 rfl bP rfl)<|rS (L1 (Value.int .i64 o.cx.Lo) 0 rfl bk rfl rfl)<|rS (FA 1 rfl eK rfl)<|rS (FA 2 rfl bZ rfl)<|rS (L1 (Value.int .i64 x.cx.Hi) 1 rfl bk rfl rfl)<|rS (BI rfl (cr ⟨by omega,by omega⟩))<|rS (MV rfl)<|rS (BI rfl eT)<|rS (PK rfl) ?_
  refine rS (AG rfl)<|aX<|aL<|KK hK29<|aC<|rS (BI rfl (a9 ⟨by omega,by omega⟩))<|rS (MV rfl)<|aX ?_
  have hb33:(Value.int .i64 (((k+1):Nat):Int))=(Value.int .i64 (((k:Nat):Int)+1)):=by exact congrArg (Value.int .i64) (by omega)
  refine aY (hJ25 ⟨((k+1),(decide ((o.cx.Lo-x.cx.Hi)≤(El (ta (c.cz*(ta (x.At-o.At)))) 1000000)))),⟨by omega,by first|exact (decide_eq_false fun h=>by have h2:=((gp ho).1 h).1; rw [hl1_1] at h75; exact absurd (decide_eq_true h2) (by rw [h75]; decide)).symm|exact (decide_eq_false fun h=>by have h2:=((gp ho).1 h).2; rw [hup] at h86; exact h86 h2.1).symm|exact decide_eq_decide.2 (by rw [gp ho,hup]; rw [hup] at h86; exact ⟨fun h=>⟨hro,h86,h⟩,fun h=>h.2.2⟩)⟩⟩ _ _ _ rfl (by first|omega|(simp; omega)) (an.cons rfl<|an.cons rfl<|an.cons rfl<|an.cons rfl<|an.cons rfl<|an.cons rfl<|an.cons rfl<|an.cons rfl<|an.cons rfl<|an.cons rfl<|an.cons rfl<|a_ rfl hb33<|an.nil _) (fun w hs=>St.bB [1,2,3] rfl rfl hs))
 refine aC<|rS (MV rfl)<|rS (BI rfl (a9 ⟨by omega,by omega⟩))<|rS (FA 0 rfl ja rfl)<|rS (L1 (Value.int .i64 x.At) 0 rfl bk rfl rfl)<|dV (xs:=[.tmp 34]) (cs:=[(Value.int .i64 x.At)]) rfl di kb rfl rfl rfl rfl (by simp [Value.cells]) rfl rfl fun b23=>rS (CL (dY.eq (d_ ((gM c i)+1) 86400000 ([x.At]) (some ⟨b23,0,none⟩) 1 (by first|assumption|omega|(simp; done)|(simp; omega))) cI) (aF (a4 0 rfl rfl (by simp [bO]) rfl)<|ar) rfl)<|rS (MV rfl) ?_
 refine bo (t:=37) rfl (fun h37=>?_) (fun h37=>?_)
 rotate_left 1
 ·replace h37:=DF h37
  refine rS (OX rfl)<|rS (OX rfl)<|rS (OX rfl)<|rS (OX rfl)<|rS (OX rfl)<|rS (OX rfl)<|rS (OX rfl)<|rS (OX rfl)<|rS (PK rfl)<|rS (MV rfl) ?_
  refine rS (OX rfl)<|rS (OX rfl)<|rS (OX rfl)<|rS (OX rfl)<|rS (OX rfl)<|rS (OX rfl)<|rS (OX rfl)<|rS (PK rfl)<|rS (AG rfl)<|aX ?_
  have hb27:(decide (de c i x))=false:=decide_eq_false (by unfold de; omega)
  refine aY (iz (an.cons rfl<|an.cons rfl<|an.cons rfl<|jZ rfl hb27<|an.cons rfl<|an.cons rfl<|an.cons rfl<|an.cons rfl<|an.cons rfl<|an.nil _) (fun w hs=>St.bB [1,2,3] rfl rfl hs) (hK22 ()))
 replace h37:=DT h37
 refine rS (FA 1 rfl eK rfl)<|rS (FA 1 rfl bP rfl)<|rS (L1 (Value.int .i64 x.cx.Lo) 1 rfl bk rfl rfl)<|rS (FA 1 rfl eK rfl)<|rS (FA 2 rfl bZ rfl)<|rS (L1 (Value.int .i64 x.cx.Hi) 1 rfl bk rfl rfl)<|dV (xs:=[.tmp 40,.tmp 43]) (cs:=[(Value.int .i64 x.cx.Lo),(Value.int .i64 x.cx.Hi)]) rfl di kb rfl rfl rfl rfl (by simp [Value.cells]) rfl rfl fun b24=>rS (CL (dY.eq (d_ (-10000) 10000 ([x.cx.Lo,x.cx.Hi]) (some ⟨b24,0,none⟩) 2 (by first|assumption|omega|(simp; done)|(simp; omega))) rv) (aF (a4 0 rfl rfl (by simp [bO]) rfl)<|ar) rfl)<|rS (PK rfl)<|rS (MV rfl) ?_
 refine bo (t:=47) rfl (fun h47=>?_) (fun h47=>?_)
 rotate_left 1
 ·replace h47:=DF h47
  refine rS (OX rfl)<|rS (OX rfl)<|rS (OX rfl)<|rS (OX rfl)<|rS (OX rfl)<|rS (OX rfl)<|rS (OX rfl)<|rS (PK rfl)<|rS (AG rfl)<|aX ?_
  have hb26:(decide (de c i x))=false:=decide_eq_false (by unfold de; omega)
  refine aY (iz (an.cons rfl<|an.cons rfl<|an.cons rfl<|jZ rfl hb26<|an.cons rfl<|an.cons rfl<|an.cons rfl<|an.cons rfl<|an.cons rfl<|an.nil _) (fun w hs=>St.bB [2,3,4] rfl rfl hs) (hK22 ()))
 replace h47:=DT h47
 refine rS (FA 1 rfl eK rfl)<|rS (FA 1 rfl bP rfl)<|rS (L1 (Value.int .i64 x.cx.Lo) 2 rfl bk rfl rfl)<|rS (FA 1 rfl eK rfl)<|rS (FA 2 rfl bZ rfl)<|rS (L1 (Value.int .i64 x.cx.Hi) 2 rfl bk rfl rfl)<|rS (BI rfl eT)<|rS (PK rfl)<|rS (AG rfl)<|aX ?_
 have hb25:(decide (de c i x))=(decide (x.cx.Lo≤x.cx.Hi)):=decide_eq_decide.2 (by unfold de; omega)
 refine aY (iz (an.cons rfl<|an.cons rfl<|an.cons rfl<|jZ rfl hb25<|an.cons rfl<|an.cons rfl<|an.cons rfl<|an.cons rfl<|an.cons rfl<|an.nil _) (fun w hs=>St.bB [2,3,4] rfl rfl hs) (hK22 ()))
set_option maxRecDepth 100000 in
set_option maxHeartbeats 400000 in
theorem Er (ms:List ao) (az:List RA) (k:Nat) (m:ao) (a:RA) (hm:ms[k]? =some m) (ha:az[k]? =some a) (hc:m.aJ.length≤a.2∧m.aJ.length≤1000000):
 dY Tryz.prog 109 [(Value.agg (b_.cells (b_.mk m.cz (aA.mk a.1 m.aJ.length a.2))).toArray)] [(c_ (aP ao.eX ms az))] (Value.bool (!(decide (dv m)))):=by
 obtain ⟨hc1,hc2⟩:=hc
 refine bG C_ Tryz.func109 rfl rfl fun w0 Q hQ hN=>?_
 try dsimp only
 refine WS fun _ hK1=>gv rfl fun b2=>rS (AG rfl)<|RK hK1<|WS fun _ hK3=>rS (LW 0 rfl tY rfl rfl)<|rS (CL (B4 m a.1 a.2 (by first|assumption|omega|(simp; done)|(simp; omega)) (by first|assumption|omega|(simp; done)|(simp; omega))) (aF (show nj _ (rd a.1 m.aJ.length 3 (m.aJ.map bI.cells)).holds from (jI 1 rfl (fg hm ha (by simp [ao.eX]))))<|ar) rfl)<|rS (NT rfl)<|rS (AG rfl)<|RK hK3 ?_
 refine aE ?_
 exact Q1 hQ rfl rfl rfl rfl
set_option maxRecDepth 100000 in
set_option maxHeartbeats 400000 in
theorem xu (l:List ao) (az:List RA) (lA:Option Addr) (lC:Nat) (f:Value) (p:ao→Bool) (X:aD) (hf: ∀ (k:Nat) m a,l[k]? =some m→az[k]? =some a→xL Tryz.prog f [.agg (ao.cells m a).toArray] [X] (.bool (p m))) (hlen:l.length≤1000000) (has:az.length=l.length):
 dY Tryz.prog 131 [(Value.slice lA l.length lC),f] [(rd lA l.length 2 (List.zipWith ao.cells l az)),(c_ (aP ao.eX l az)),X] (Value.int .i64 (ob p l)):=by
 refine bG Db Tryz.func131 rfl rfl fun w0 Q hQ hN=>?_
 try dsimp only
 refine WS fun _ hK1=>rS (AG rfl)<|RK hK1<|aw fun _ hK2=>WS fun _ hK3=>rS (MV rfl)<|rS (LN rfl rm)<|rS (MV rfl)<|RK hK3<|aH ?_
 have hinit:(0≤l.length)∧((l.take 0).any p=false):=by simp
 refine cP (ι:={z:Nat // (z≤l.length)∧((l.take z).any p=false)}) (fun z=>[(0,(Value.slice lA l.length lC)),(1,f),(7,(Value.int .i64 ((l.length:Nat):Int))),(8,(Value.int .i64 ((z.1:Nat):Int)))]) (fun z=>[(rd lA l.length 2 (List.zipWith ao.cells l az)).ro,(c_ (aP ao.eX l az)).ro,X.ro]) (fun z=>l.length-z.1) ⟨0,hinit⟩ (an.cons rfl<|an.cons rfl<|an.cons rfl<|an.cons rfl<|an.nil _) (fun w hs=>St.bB [0,1,2] rfl rfl hs) ?_
 clear hinit
 rintro ⟨i,⟨hl0_0,hl0_1⟩⟩ J4 hJ4
 try dsimp only
 refine WS fun _ hK5=>rS (BI rfl cq)<|RK hK5<|aw fun _ hK6=>?_
 refine bp rfl (fun h7=>?_) (fun h7=>?_)
 rotate_left 1
 ·replace h7:=DF h7
  refine bM<|ai<|ai<|aI<|KK hK2<|WS fun _ hK13=>rS (AG rfl)<|RK hK13<|aE<|Q1 hQ rfl rfl rfl ?_
  first|exact congrArg (Value.int .i64) (k7 hx hp hl0_1).symm|exact congrArg (Value.int .i64) (iU (by omega) hl0_1).symm
 replace h7:=DT h7
 refine WK hK6<|aw fun _ hK8=>aH<|WS fun _ hK9=>rS (MV rfl)<|rS (AG rfl)<|RK hK9<|WS fun _ hK10=>rS (MV rfl)<|rS (MV rfl) ?_
 refine rS (MV rfl) ?_
 obtain ⟨x,hx⟩: ∃ y_,l[i]? =some y_:=⟨l[i]'(by omega),List.getElem?_eq_getElem _⟩
 obtain ⟨xa,hxa⟩: ∃ y_,az[i]? =some y_:=⟨az[i]'(by omega),List.getElem?_eq_getElem _⟩
 have hxm:(List.zipWith ao.cells l az)[i]? =some (ao.cells x xa):=jH hx hxa
 refine rS (IA i rfl (aQ 0 rfl) vj (by decide) (by omega) (by omega))<|rS (kE i 0 (b_.cells (b_.mk x.cz (aA.mk xa.1 x.aJ.length xa.2))) rfl tY (aQ 0 rfl) hxm rfl (by decide) rfl rfl)<|rS (SX (o6 rfl rfl rfl (hf i x xa hx hxa) (ax 2 rfl rfl<|ar)) rfl rfl)<|RK hK10 ?_
 refine bp rfl (fun hp=>?_) (fun hp=>?_)
 ·refine WS fun _ hK11=>?_
  refine rS (MV rfl)<|rS (AG rfl)<|RK hK11<|aE<|Q1 hQ rfl rfl rfl ?_
  first|exact congrArg (Value.int .i64) (k7 hx hp hl0_1).symm|exact congrArg (Value.int .i64) (iU (by omega) hl0_1).symm
 refine cH<|aL<|KK hK8<|aC<|rS (BI rfl (a9 ⟨by omega,by omega⟩))<|rS (MV rfl)<|aX ?_
 have hb12:(Value.int .i64 (((i+1):Nat):Int))=(Value.int .i64 (((i:Nat):Int)+1)):=by exact congrArg (Value.int .i64) (by omega)
 refine aY (hJ4 ⟨(i+1),⟨by omega,qN hx hl0_1 hp⟩⟩ _ _ _ rfl (by first|omega|(simp; omega)) (an.cons rfl<|an.cons rfl<|an.cons rfl<|a_ rfl hb12<|an.nil _) (fun w hs=>St.bB [0,1,2] rfl rfl hs))
set_option maxRecDepth 100000 in
set_option maxHeartbeats 400000 in
theorem si (l:List ao) (az:List RA) (lA:Option Addr) (lC:Nat) (f:Value) (p:ao→Bool) (X:aD) (hf: ∀ (k:Nat) m a,l[k]? =some m→az[k]? =some a→xL Tryz.prog f [.agg (ao.cells m a).toArray] [X] (.bool (p m))) (hlen:l.length≤1000000) (has:az.length=l.length):
 dY Tryz.prog 108 [(Value.slice lA l.length lC),f] [(rd lA l.length 2 (List.zipWith ao.cells l az)),(c_ (aP ao.eX l az)),X] (Value.bool (l.any p)):=by
 refine bG C3 Tryz.func108 rfl rfl fun w0 Q hQ hN=>?_
 try dsimp only
 refine WS fun _ hK1=>rS (AG rfl)<|RK hK1<|WS fun _ hK2=>rS (MV rfl)<|rS (MV rfl)<|rS (CL (xu l az lA lC f p X (by exact hf) hlen has) (EJ 0 1 2 rfl rfl rfl rfl rfl rfl) rfl)<|rS (BI rfl il)<|rS (AG rfl)<|RK hK2 ?_
 refine aE<|Q1 hQ rfl rfl rfl ?_
 exact congrArg Value.bool oR
set_option maxRecDepth 100000 in
set_option maxHeartbeats 400000 in
theorem xr (l:List aT) (lA:Option Addr) (lC:Nat) (f:Value) (p:aT→Bool) (X:aD) (hf: ∀ x0,x0∈l→xL Tryz.prog f [.agg (aT.cells x0).toArray] [X] (.bool (p x0))) (hlen:l.length≤1000000):
 dY Tryz.prog 132 [(Value.slice lA l.length lC),f] [(rd lA l.length 4 (l.map aT.cells)),X] (Value.int .i64 (ob p l)):=by
 refine bG D9 Tryz.func132 rfl rfl fun w0 Q hQ hN=>?_
 try dsimp only
 refine WS fun _ hK1=>rS (AG rfl)<|RK hK1<|aw fun _ hK2=>WS fun _ hK3=>rS (MV rfl)<|rS (LN rfl jz)<|rS (MV rfl)<|RK hK3<|aH ?_
 have hinit:(0≤l.length)∧((l.take 0).any p=false):=by simp
 refine cP (ι:={z:Nat // (z≤l.length)∧((l.take z).any p=false)}) (fun z=>[(0,(Value.slice lA l.length lC)),(1,f),(7,(Value.int .i64 ((l.length:Nat):Int))),(8,(Value.int .i64 ((z.1:Nat):Int)))]) (fun z=>[(rd lA l.length 4 (l.map aT.cells)).ro,X.ro]) (fun z=>l.length-z.1) ⟨0,hinit⟩ (an.cons rfl<|an.cons rfl<|an.cons rfl<|an.cons rfl<|an.nil _) (fun w hs=>St.bB [0,1] rfl rfl hs) ?_
 clear hinit
 rintro ⟨i,⟨hl0_0,hl0_1⟩⟩ J4 hJ4
 try dsimp only
 refine WS fun _ hK5=>rS (BI rfl cq)<|RK hK5<|aw fun _ hK6=>?_
 refine bp rfl (fun h7=>?_) (fun h7=>?_)
 rotate_left 1
 ·replace h7:=DF h7
  refine bM<|ai<|ai<|aI<|KK hK2<|WS fun _ hK13=>rS (AG rfl)<|RK hK13<|aE<|Q1 hQ rfl rfl rfl ?_
  first|exact congrArg (Value.int .i64) (k7 hx hp hl0_1).symm|exact congrArg (Value.int .i64) (iU (by omega) hl0_1).symm
 replace h7:=DT h7
 refine WK hK6<|aw fun _ hK8=>aH<|WS fun _ hK9=>rS (MV rfl)<|rS (AG rfl)<|RK hK9<|WS fun _ hK10=>rS (MV rfl)<|rS (MV rfl) ?_
 refine rS (MV rfl) ?_
 obtain ⟨x,hx⟩: ∃ y_,l[i]? =some y_:=⟨l[i]'(by omega),List.getElem?_eq_getElem _⟩
 have hxm:(l.map aT.cells)[i]? =some (aT.cells x):=by rw [List.getElem?_map,hx]; rfl
 refine rS (IA i rfl (aQ 0 rfl) pL (by decide) (by omega) (by omega))<|rS (kE i 0 (aT.cells x) rfl Du (aQ 0 rfl) hxm rfl (by decide) rfl rfl)<|rS (SX (o6 rfl rfl rfl (hf x (List.mem_of_getElem? hx)) (ax 1 rfl rfl<|ar)) rfl rfl)<|RK hK10 ?_
 refine bp rfl (fun hp=>?_) (fun hp=>?_)
 ·refine WS fun _ hK11=>?_
  refine rS (MV rfl)<|rS (AG rfl)<|RK hK11<|aE<|Q1 hQ rfl rfl rfl ?_
  first|exact congrArg (Value.int .i64) (k7 hx hp hl0_1).symm|exact congrArg (Value.int .i64) (iU (by omega) hl0_1).symm
 refine cH<|aL<|KK hK8<|aC<|rS (BI rfl (a9 ⟨by omega,by omega⟩))<|rS (MV rfl)<|aX ?_
 have hb12:(Value.int .i64 (((i+1):Nat):Int))=(Value.int .i64 (((i:Nat):Int)+1)):=by exact congrArg (Value.int .i64) (by omega)
 refine aY (hJ4 ⟨(i+1),⟨by omega,qN hx hl0_1 hp⟩⟩ _ _ _ rfl (by first|omega|(simp; omega)) (an.cons rfl<|an.cons rfl<|an.cons rfl<|a_ rfl hb12<|an.nil _) (fun w hs=>St.bB [0,1] rfl rfl hs))
set_option maxRecDepth 100000 in
set_option maxHeartbeats 400000 in
theorem su (l:List aT) (lA:Option Addr) (lC:Nat) (f:Value) (p:aT→Bool) (X:aD) (hf: ∀ x0,x0∈l→xL Tryz.prog f [.agg (aT.cells x0).toArray] [X] (.bool (p x0))) (hlen:l.length≤1000000):
 dY Tryz.prog 112 [(Value.slice lA l.length lC),f] [(rd lA l.length 4 (l.map aT.cells)),X] (Value.bool (l.any p)):=by
 refine bG DB Tryz.func112 rfl rfl fun w0 Q hQ hN=>?_
 try dsimp only
 refine WS fun _ hK1=>rS (AG rfl)<|RK hK1<|WS fun _ hK2=>rS (MV rfl)<|rS (MV rfl)<|rS (CL (xr l lA lC f p X (by exact hf) hlen) (ax 0 rfl rfl<|ax 1 rfl rfl<|ar) rfl)<|rS (BI rfl il)<|rS (AG rfl)<|RK hK2 ?_
 refine aE<|Q1 hQ rfl rfl rfl ?_
 exact congrArg Value.bool oR
end
section
open Go.RowKit
set_option linter.unusedVariables false
set_option maxRecDepth 100000 in
set_option maxHeartbeats 400000 in
theorem lM (a:ab) (l:List ab) (lA:Option Addr) (lC:Nat) (ha:iS a) (hl: ∀ z∈l,iS z) (hlen:l.length≤4):
 dY Tryz.prog 118 [(Value.agg (ab.cells a).toArray),(Value.slice lA l.length lC)] [(rd lA l.length 2 (l.map ab.cells))] (Value.agg (ab.cells (fR a l)).toArray):=by
 refine bG Dh Tryz.func118 rfl rfl fun w0 Q hQ hN=>?_
 try dsimp only
 refine WS fun _ hK1=>gv rfl fun b2=>AL rfl dk fun b3=>RK hK1<|aw fun _ hK4=>WS fun _ hK5=>rS (MV rfl)<|rS (LN rfl C4)<|rS (MV rfl)<|RK hK5 ?_
 refine aH ?_
 have hinit:(0≤l.length):=by exact Nat.zero_le _
 refine cP (ι:={z:Nat // (z≤l.length)}) (fun z=>[(2,(Value.pointer (some ⟨b2,0,none⟩))),(4,(Value.pointer (some ⟨b3,0,none⟩))),(7,(Value.slice lA l.length lC)),(8,(Value.int .i64 ((l.length:Nat):Int))),(9,(Value.int .i64 (z.1:Int)))]) (fun z=>[(aU b3 47 (ab.cells (ab.mk 0 0))),(aU b2 47 (ab.cells (fR a (l.take z.1)))),(rd lA l.length 2 (l.map ab.cells)).ro]) (fun z=>l.length-z.1) ⟨0,hinit⟩ (an.cons rfl<|an.cons rfl<|an.cons rfl<|an.cons rfl<|an.cons rfl<|an.nil _) (fun w hs=>St.bB [0,1,2] rfl rfl hs) ?_
 clear hinit
 rintro ⟨i,hl2_0⟩ J6 hJ6
 try dsimp only
 refine WS fun _ hK7=>rS (BI rfl cq)<|RK hK7<|aw fun _ hK8=>?_
 refine bp rfl (fun h9=>?_) (fun h9=>?_)
 rotate_left 1
 ·replace h9:=DF h9
  refine bM<|ai<|ai<|aI<|KK hK4<|aw fun _ hK15=>?_
  have hb16:(ab.cells (fR a (l.take i)))=(ab.cells (fR a l)):=by rw [za (by omega)]
  rw [hb16]
  refine aC<|rS (LW 1 rfl cB rfl rfl)<|e7 rfl cv rfl<|RK hK15<|aE ?_
  refine hQ _ _ _ (bD (vs:=[(Value.agg (ab.cells (fR a l)).toArray)]) ⟨⟨_,rfl,.inl ⟨_,_,cB,cd (vs:=(ab.cells (fR a l))) 0 rfl rfl,rfl,rfl⟩⟩,trivial⟩ fun w hs=>eR ?_ hs)
  show (Value.agg (ab.cells (fR a l)).toArray)=(Value.agg (ab.cells (fR a l)).toArray)
  clear hs w hQ hN hK15 hK8 hK7 hK5 hK4 hK1
  rfl
 replace h9:=DT h9
 refine WK hK8<|aw fun _ hK10=>aH<|WS fun _ hK11=>?_
 obtain ⟨x,hx⟩: ∃ y_,l[i]? =some y_:=⟨l[i]'(by omega),List.getElem?_eq_getElem _⟩
 have hxm:(l.map ab.cells)[i]? =some (ab.cells x):=by rw [List.getElem?_map,hx]; rfl
 refine rS (IA i rfl (aQ 2 rfl) k8 (by decide) (by omega) (by omega))<|rS (kE i 0 (ab.cells x) rfl cB (aQ 2 rfl) hxm rfl (by decide) rfl rfl)<|AL rfl dk fun b12=>e7 rfl cv rfl<|RK hK11<|aC ?_
 have hb:=CE ha hl i
 have hz:=hl x (List.mem_of_getElem? hx)
 unfold iS at hz
 refine rS (FA 0 rfl bP rfl)<|rS (L1 (Value.int .i64 ((fR a (l.take i)).Lo)) 2 rfl bk rfl rfl)<|rS (FA 0 rfl bP rfl)<|rS (L1 (Value.int .i64 x.Lo) 0 rfl bk rfl rfl)<|rS (BI rfl (a9 ⟨by omega,by omega⟩))<|rS (FA 1 rfl bZ rfl)<|rS (L1 (Value.int .i64 ((fR a (l.take i)).Hi)) 2 rfl bk rfl rfl)<|rS (FA 1 rfl bZ rfl)<|rS (L1 (Value.int .i64 x.Hi) 0 rfl bk rfl rfl)<|rS (BI rfl (a9 ⟨by omega,by omega⟩)) ?_
 refine rS (SX (aS (xs:=[(0,.tmp 17),(1,.tmp 22)]) (cs:=(ab.cells (ab.mk (((fR a (l.take i)).Lo)+x.Lo) (((fR a (l.take i)).Hi)+x.Hi)))) rfl rfl (aR fG rfl)) rfl rfl)<|sL rfl cv rfl<|aX<|aL<|KK hK10 ?_
 have hb13:(ab.cells (ab.mk (((fR a (l.take i)).Lo)+x.Lo) (((fR a (l.take i)).Hi)+x.Hi)))=(ab.cells (fR a (l.take (i+1)))):=by rw [rR hx]; rfl
 rw [hb13]
 refine aC<|rS (BI rfl (a9 ⟨by omega,by omega⟩))<|rS (MV rfl)<|aX ?_
 have hb14:(Value.int .i64 ((i+1):Int))=(Value.int .i64 ((i:Int)+1)):=by exact congrArg (Value.int .i64) (by omega)
 refine aY (hJ6 ⟨(i+1),(by first|omega|(simp only []; omega))⟩ _ _ _ rfl (by first|omega|(simp; omega)) (an.cons rfl<|an.cons rfl<|an.cons rfl<|an.cons rfl<|a_ rfl hb14<|an.nil _) (fun w hs=>St.bB [1,2,3] rfl rfl hs))
set_option maxRecDepth 100000 in
set_option maxHeartbeats 400000 in
theorem vQ (ts:List ah) (tsA:Option Addr) (tsC:Nat) (hlen:ts.length≤1000000) (hside: ∀ x∈ts,0≤x.fx∧x.fx≤255):
 dY Tryz.prog 115 [(Value.agg (ay.cells (ay.mk (aA.mk tsA ts.length tsC))).toArray)] [(rd tsA ts.length 9 (ts.map ah.cells))] (Value.tuple [(Value.agg (bT.cells (bT.mk (ay.mk (aA.mk tsA ts.length tsC)))).toArray),(Value.int .i64 (if bY ts=true then 0 else 10))].toArray):=by
 refine bG Ei Tryz.func115 rfl rfl fun w0 Q hQ hN=>?_
 try dsimp only
 refine WS fun _ hK1=>gv rfl fun b2=>AL rfl zo fun b3=>rS (AG rfl)<|RK hK1<|aw fun _ hK4=>dj ct 4 (by kernel_rfl)<|dS (LW 1 rfl jx rfl rfl)<|dS (SX (aS (xs:=[(0,.tmp 4)]) (cs:=(bT.cells (bT.mk (ay.mk (aA.mk tsA ts.length tsC))))) rfl rfl (aR Ec rfl)) rfl rfl)<|dS (LW 1 rfl jx rfl rfl) ?_
 refine dS (CL (tH ts tsA tsC hlen hside) (ax 2 rfl rfl<|ar) rfl)<|cE<|e7 rfl yA rfl<|rS (AG rfl)<|RK hK4<|aE ?_
 refine hQ _ _ _ (bD (vs:=[(Value.agg (bT.cells (bT.mk (ay.mk (aA.mk tsA ts.length tsC)))).toArray),(Value.int .i64 (if bY ts=true then 0 else 10))]) ⟨⟨_,rfl,.inl ⟨_,_,qU,cd (vs:=(bT.cells (bT.mk (ay.mk (aA.mk tsA ts.length tsC))))) 0 rfl rfl,rfl,rfl⟩⟩,rfl,trivial⟩ fun w hs=>eR ?_ hs)
 show (Value.tuple [(Value.agg (bT.cells (bT.mk (ay.mk (aA.mk tsA ts.length tsC)))).toArray),(Value.int .i64 (if bY ts=true then 0 else 10))].toArray)=(Value.tuple [(Value.agg (bT.cells (bT.mk (ay.mk (aA.mk tsA ts.length tsC)))).toArray),(Value.int .i64 (if bY ts=true then 0 else 10))].toArray)
 clear hs w hQ hN hK4 hK1
 rfl
set_option maxRecDepth 100000 in
set_option maxHeartbeats 400000 in
theorem AR (f:Int) (tsA:Option Addr) (tsN:Nat) (tsC:Nat):
 rM Tryz.prog 135 [(Value.agg (bT.cells (bT.mk (ay.mk (aA.mk tsA tsN tsC)))).toArray),(Value.int .i64 f)] [] (fun (x:Nat×Nat)=>(Value.func (.func 139) [].toArray [(Value.pointer (some ⟨x.1,0,none⟩)),(Value.pointer (some ⟨x.2,0,none⟩))].toArray)) (fun (x:Nat×Nat)=>True) (fun (x:Nat×Nat)=>[(aU x.1 3 [(Value.int .i64 f)]),(aU x.2 173 (bT.cells (bT.mk (ay.mk (aA.mk tsA tsN tsC)))))]):=by
 refine gX Df Tryz.func135 rfl rfl fun w0 Q hQ hN=>?_
 try dsimp only
 refine WS fun _ hK1=>gv rfl fun b2=>vY rfl rfl fun b3=>rS (AG rfl)<|RK hK1<|WS fun _ hK4=>rS (FU rfl)<|rS (AG rfl)<|RK hK4<|aE ?_
 refine hQ _ _ _ (bD (vs:=[(Value.func (.func 139) [].toArray [(Value.pointer (some ⟨b3,0,none⟩)),(Value.pointer (some ⟨b2,0,none⟩))].toArray)]) ⟨rfl,trivial⟩ fun w hs=>fj (b3,b2) [0,1] ?_ ?_ rfl rfl rfl hs)
 ·rfl
 ·trivial
set_option maxRecDepth 100000 in
set_option maxHeartbeats 400000 in
theorem xe (ts:List ah) (tsA:Option Addr) (tsC:Nat) (f:Int) (g1:Nat) (g2:Nat) (hst: ∀ x∈ts,a5 x) (hlen:ts.length≤12) (hf:0≤f∧f≤ts.length):
 CP Tryz.prog 139 [] [(Value.pointer (some ⟨g1,0,none⟩)),(Value.pointer (some ⟨g2,0,none⟩))] [(rd tsA ts.length 9 (ts.map ah.cells)),(aU g1 3 [(Value.int .i64 f)]),(aU g2 173 (bT.cells (bT.mk (ay.mk (aA.mk tsA ts.length tsC)))))] (n9 ts f.toNat):=by
 refine AN EA Tryz.func139 rfl rfl fun l J Z A0 w0 Q hY hJ0 hF0 hQ hN=>?_
 try dsimp only
 refine WS fun _ hK1=>AL rfl dk fun b2=>AL rfl dk fun b3=>RK hK1<|WS fun _ hK4=>rS (rY 4 rfl bk rfl)<|rS (AG rfl)<|RK hK4<|aH ?_
 have hinit:(0≤ts.length-f.toNat)∧(J 0 A0)∧(Fo A0 w0 A0):=by exact ⟨Nat.zero_le _,hJ0,hF0⟩
 have hb5:(Value.int .i64 (f+((0:Nat):Int)))=(Value.int .i64 f):=by exact congrArg (Value.int .i64) (by omega)
 refine cP (ι:={z:Nat×aD // (z.1≤ts.length-f.toNat)∧(J z.1 z.2)∧(Fo A0 w0 z.2)}) (fun z=>[(0,(Value.func (.yield l) #[] #[])),(1,(Value.pointer (some ⟨g1,0,none⟩))),(2,(Value.pointer (some ⟨g2,0,none⟩))),(4,(Value.pointer (some ⟨b2,0,none⟩))),(5,(Value.pointer (some ⟨b3,0,none⟩))),(6,(Value.int .i64 (f+((z.1.1:Nat):Int))))]) (fun z=>[(aU b3 47 (ab.cells (du ts f.toNat z.1.1))),(aU b2 47 (ab.cells (bS ts f.toNat z.1.1))),z.1.2,(rd tsA ts.length 9 (ts.map ah.cells)).ro,(aU g1 3 [(Value.int .i64 f)]).ro,(aU g2 173 (bT.cells (bT.mk (ay.mk (aA.mk tsA ts.length tsC))))).ro]) (fun z=>ts.length-f.toNat-z.1.1) ⟨(0,A0),hinit⟩ (an.cons rfl<|an.cons rfl<|an.cons rfl<|an.cons rfl<|an.cons rfl<|a_ rfl hb5<|an.nil _) (fun w hs=>St.bB [0,1,2,3,4,5] rfl rfl hs) ?_
 clear hinit
 rintro ⟨⟨k,A⟩,⟨hl2_0,hl2_1,hl2_2⟩⟩ J6 hJ6
 try dsimp only at hl2_0 hl2_1 hl2_2
 try dsimp only
 refine aw fun _ hK7=>WS fun _ hK8=>rS (MV rfl)<|rS (LW 1 rfl cB rfl rfl)<|rS (LW 0 rfl cB rfl rfl) ?_
 refine AA 2 hY hl2_1 hl2_2 rfl rfl rfl (rJ (by omega)) rfl rfl (fun B9 hJ10 hF11=>?_) (fun B9 hJ10 hF11=>?_)
 rotate_left 1
 ·refine rS (MV rfl) ?_
  refine rS (OX rfl)<|rS (OX rfl)<|rS (OX rfl)<|rS (OX rfl)<|rS (OX rfl)<|rS (OX rfl)<|rS (PK rfl)<|RK hK8<|bH rfl<|bM ?_
  refine ai<|ai<|aI ?_
  refine hN _ _ _ (bD (vs:=[]) trivial fun w hs=>De 2 rfl hJ10 hF11 hs)
 refine rS (MV rfl)<|rS (MV rfl)<|rS (FA 0 rfl oi rfl)<|rS (FA 0 rfl hU rfl)<|rS (l9 (Value.slice tsA ts.length tsC) 5 rfl nh rfl rfl)<|rS (LN rfl rj)<|rS (BI rfl cq)<|rS (PK rfl)<|RK hK8 ?_
 refine bp rfl (fun h12=>?_) (fun h12=>?_)
 rotate_left 1
 ·replace h12:=DF h12
  refine bM<|ai<|ai<|aI ?_
  refine hN _ _ _ (bD (vs:=[]) trivial fun w hs=>Fg 2 rfl (by rw [oo]; have e:ts.length-f.toNat+1=k+1:=(by omega); rw [e]; exact hJ10) hF11 hs)
 replace h12:=DT h12
 refine WK hK7<|aw fun _ hK13=>aH<|lK ct [0,1,2,3,4,5,6,7,10,11,12,13,14,15,16,17] [8,9,18,19,20,21] [true,false,false,false,false,false,false,false,true,false,false,false,false,false,false,false] [8,9,18] [B9,(rd tsA ts.length 9 (ts.map ah.cells)).ro,(aU g1 3 [(Value.int .i64 f)]).ro,(aU g2 173 (bT.cells (bT.mk (ay.mk (aA.mk tsA ts.length tsC))))).ro] [(aU b3 47 (ab.cells (du ts f.toNat k))),(aU b2 47 (ab.cells (bS ts f.toNat k))),B9,(rd tsA ts.length 9 (ts.map ah.cells)).ro,(aU g1 3 [(Value.int .i64 f)]).ro,(aU g2 173 (bT.cells (bT.mk (ay.mk (aA.mk tsA ts.length tsC))))).ro] (by kernel_rfl) (fun w hs=>St.bB [2,3,4,5] rfl rfl hs) (fun w hs=>St.bB [0,1,2,3,4,5] rfl rfl hs)<|fS rfl (LW 1 rfl cB rfl rfl)<|eS rfl (FA 0 rfl oi rfl)<|eS rfl (FA 0 rfl hU rfl)<|eS rfl (l9 (Value.slice tsA ts.length tsC) 3 rfl nh rfl rfl)<|eS rfl (MV rfl) ?_
 obtain ⟨x,hx⟩: ∃ y_,ts[(f.toNat+k)]? =some y_:=⟨ts[(f.toNat+k)]'(by omega),List.getElem?_eq_getElem _⟩
 have hxm:(ts.map ah.cells)[(f.toNat+k)]? =some (ah.cells x):=by rw [List.getElem?_map,hx]; rfl
 refine eS rfl (IA (f.toNat+k) rfl (aQ 1 rfl) ru (by decide) (by omega) (by omega)) ?_
 have hxo:=hst x (List.mem_of_getElem? hx)
 refine eS rfl (qP (((f.toNat+k)*9)+1) rfl (aQ 1 rfl) (Nat.mul_pos (by omega) (by decide)) kq rfl)<|eS rfl (kE (f.toNat+k) 1 (ab.cells x.g7) rfl cB (aQ 1 rfl) hxm rfl (by decide) rfl rfl)<|fS rfl (LW 0 rfl cB rfl rfl)<|eS rfl (FA 0 rfl oi rfl)<|eS rfl (FA 0 rfl hU rfl)<|eS rfl (l9 (Value.slice tsA ts.length tsC) 3 rfl nh rfl rfl)<|eS rfl (MV rfl)<|eS rfl (IA (f.toNat+k) rfl (aQ 1 rfl) ru (by decide) (by omega) (by omega))<|eS rfl (qP (((f.toNat+k)*9)+3) rfl (aQ 1 rfl) (Nat.mul_pos (by omega) (by decide)) mQ rfl)<|eS rfl (kE (f.toNat+k) 3 (ab.cells x.iL) rfl cB (aQ 1 rfl) hxm rfl (by decide) rfl rfl) ?_
 refine eJ rfl ?_
 refine kH [8,18] (by kernel_rfl) (gr ?_<|gr ?_<|nx)
 rotate_left 1
 ·refine py (rem':=[8,9,19,20,21]) rfl (by kernel_rfl) fun T14 hT14=>?_
  refine dV (xs:=[.tmp 39]) (cs:=(ab.cells x.iL)) rfl k8 dk rfl rfl rfl rfl (by simp [Value.cells,ab.aM]) rfl rfl fun b15=>?_
  refine aX (hT14 _ _ (fun w hs=>St.bB [3,4,5,6] rfl rfl hs) (fun w hs=>St.bB [1,2,3,4,5,6] rfl rfl hs) ?_)
  refine N1 8<|py (rem':=[9,19,20,21]) rfl (by kernel_rfl) fun T16 hT16=>dV (xs:=[.tmp 29]) (cs:=(ab.cells x.g7)) rfl k8 dk rfl rfl rfl rfl (by simp [Value.cells,ab.aM]) rfl rfl fun b17=>?_
  refine aX (hT16 _ _ (fun w hs=>St.bB [4,5,6,7] rfl rfl hs) (fun w hs=>St.bB [2,3,4,5,6,7] rfl rfl hs) ?_)
  refine N1 9<|py (rem':=[19,20,21]) rfl (by kernel_rfl) fun T18 hT18=>rS (CL (dY.eq (lM (bS ts f.toNat k) ([x.g7]) (some ⟨b17,0,none⟩) 1 (by exact mL hst (by omega)) (by intro z hz; simp only [List.mem_singleton] at hz; subst hz; exact pa hxo) (by simp)) kd) (aF (a4 0 rfl rfl (by simp [ab.aM]) rfl)<|ar) rfl) ?_
  refine aX (hT18 _ _ (fun w hs=>St.bB [4,5,6,7] rfl rfl hs) (fun w hs=>St.bB [2,3,4,5,6,7] rfl rfl hs) ?_)
  refine N1 19<|NO rfl rfl [20,21] fun T19 hT19=>rS (CL (dY.eq (lM (du ts f.toNat k) ([x.iL]) (some ⟨b15,0,none⟩) 1 (by exact q8 hst (by omega)) (by intro z hz; simp only [List.mem_singleton] at hz; subst hz; exact oX hxo) (by simp)) kd) (aF (a4 1 rfl rfl (by simp [ab.aM]) rfl)<|ar) rfl)<|RD hT19 4 rfl<|N1 20<|NO rfl rfl [21] fun T20 hT20=>By rfl cv rfl<|RD hT20 4 rfl<|N1 21<|NO rfl rfl [] fun T21 hT21=>?_
  refine sL rfl cv rfl<|RD hT21 4 rfl<|kD<|aL<|KK hK13 ?_
  have hb22:(ab.cells (fZ (bS ts f.toNat k) x.g7))=(ab.cells (bS ts f.toNat (k+1))):=by rw [lz hx]
  rw [hb22]
  have hb23:(ab.cells (fZ (du ts f.toNat k) x.iL))=(ab.cells (du ts f.toNat (k+1))):=by rw [lH hx]
  rw [hb23]
  refine aC<|rS (MV rfl)<|rS (BI rfl (a9 ⟨by omega,by omega⟩))<|rS (AG rfl)<|aX ?_
  have hb24:(Value.int .i64 (f+(((k+1):Nat):Int)))=(Value.int .i64 ((f+((k:Nat):Int))+1)):=by exact congrArg (Value.int .i64) (by omega)
  refine aY (hJ6 ⟨((k+1),B9),⟨by omega,hJ10,hF11⟩⟩ _ _ _ rfl (by first|omega|(simp; omega)) (an.cons rfl<|an.cons rfl<|an.cons rfl<|an.cons rfl<|an.cons rfl<|a_ rfl hb24<|an.nil _) (fun w hs=>St.bB [2,3,4,5,6,7] rfl rfl hs))
 refine py (rem':=[9,18,19,20,21]) rfl (by kernel_rfl) fun T14 hT14=>dV (xs:=[.tmp 29]) (cs:=(ab.cells x.g7)) rfl k8 dk rfl rfl rfl rfl (by simp [Value.cells,ab.aM]) rfl rfl fun b15=>?_
 refine aX (hT14 _ _ (fun w hs=>St.bB [3,4,5,6] rfl rfl hs) (fun w hs=>St.bB [1,2,3,4,5,6] rfl rfl hs) ?_)
 refine kH [9,18] (by kernel_rfl) (gr ?_<|gr ?_<|nx)
 rotate_left 1
 ·refine py (rem':=[9,19,20,21]) rfl (by kernel_rfl) fun T16 hT16=>?_
  refine dV (xs:=[.tmp 39]) (cs:=(ab.cells x.iL)) rfl k8 dk rfl rfl rfl rfl (by simp [Value.cells,ab.aM]) rfl rfl fun b17=>?_
  refine aX (hT16 _ _ (fun w hs=>St.bB [4,5,6,7] rfl rfl hs) (fun w hs=>St.bB [2,3,4,5,6,7] rfl rfl hs) ?_)
  refine N1 9<|py (rem':=[19,20,21]) rfl (by kernel_rfl) fun T18 hT18=>rS (CL (dY.eq (lM (bS ts f.toNat k) ([x.g7]) (some ⟨b15,0,none⟩) 1 (by exact mL hst (by omega)) (by intro z hz; simp only [List.mem_singleton] at hz; subst hz; exact pa hxo) (by simp)) kd) (aF (a4 1 rfl rfl (by simp [ab.aM]) rfl)<|ar) rfl) ?_
  refine aX (hT18 _ _ (fun w hs=>St.bB [4,5,6,7] rfl rfl hs) (fun w hs=>St.bB [2,3,4,5,6,7] rfl rfl hs) ?_)
  refine N1 19<|NO rfl rfl [20,21] fun T19 hT19=>rS (CL (dY.eq (lM (du ts f.toNat k) ([x.iL]) (some ⟨b17,0,none⟩) 1 (by exact q8 hst (by omega)) (by intro z hz; simp only [List.mem_singleton] at hz; subst hz; exact oX hxo) (by simp)) kd) (aF (a4 0 rfl rfl (by simp [ab.aM]) rfl)<|ar) rfl)<|RD hT19 4 rfl<|N1 20<|NO rfl rfl [21] fun T20 hT20=>By rfl cv rfl<|RD hT20 4 rfl<|N1 21<|NO rfl rfl [] fun T21 hT21=>?_
  refine sL rfl cv rfl<|RD hT21 4 rfl<|kD<|aL<|KK hK13 ?_
  have hb22:(ab.cells (fZ (bS ts f.toNat k) x.g7))=(ab.cells (bS ts f.toNat (k+1))):=by rw [lz hx]
  rw [hb22]
  have hb23:(ab.cells (fZ (du ts f.toNat k) x.iL))=(ab.cells (du ts f.toNat (k+1))):=by rw [lH hx]
  rw [hb23]
  refine aC<|rS (MV rfl)<|rS (BI rfl (a9 ⟨by omega,by omega⟩))<|rS (AG rfl)<|aX ?_
  have hb24:(Value.int .i64 (f+(((k+1):Nat):Int)))=(Value.int .i64 ((f+((k:Nat):Int))+1)):=by exact congrArg (Value.int .i64) (by omega)
  refine aY (hJ6 ⟨((k+1),B9),⟨by omega,hJ10,hF11⟩⟩ _ _ _ rfl (by first|omega|(simp; omega)) (an.cons rfl<|an.cons rfl<|an.cons rfl<|an.cons rfl<|an.cons rfl<|a_ rfl hb24<|an.nil _) (fun w hs=>St.bB [2,3,4,5,6,7] rfl rfl hs))
 refine py (rem':=[18,19,20,21]) rfl (by kernel_rfl) fun T16 hT16=>rS (CL (dY.eq (lM (bS ts f.toNat k) ([x.g7]) (some ⟨b15,0,none⟩) 1 (by exact mL hst (by omega)) (by intro z hz; simp only [List.mem_singleton] at hz; subst hz; exact pa hxo) (by simp)) kd) (aF (a4 0 rfl rfl (by simp [ab.aM]) rfl)<|ar) rfl) ?_
 refine aX (hT16 _ _ (fun w hs=>St.bB [3,4,5,6] rfl rfl hs) (fun w hs=>St.bB [1,2,3,4,5,6] rfl rfl hs) ?_)
 refine N1 18<|py (rem':=[19,20,21]) rfl (by kernel_rfl) fun T17 hT17=>dV (xs:=[.tmp 39]) (cs:=(ab.cells x.iL)) rfl k8 dk rfl rfl rfl rfl (by simp [Value.cells,ab.aM]) rfl rfl fun b18=>?_
 refine aX (hT17 _ _ (fun w hs=>St.bB [4,5,6,7] rfl rfl hs) (fun w hs=>St.bB [2,3,4,5,6,7] rfl rfl hs) ?_)
 refine N1 19<|NO rfl rfl [20,21] fun T19 hT19=>rS (CL (dY.eq (lM (du ts f.toNat k) ([x.iL]) (some ⟨b18,0,none⟩) 1 (by exact q8 hst (by omega)) (by intro z hz; simp only [List.mem_singleton] at hz; subst hz; exact oX hxo) (by simp)) kd) (aF (a4 0 rfl rfl (by simp [ab.aM]) rfl)<|ar) rfl)<|RD hT19 4 rfl<|N1 20<|NO rfl rfl [21] fun T20 hT20=>By rfl cv rfl<|RD hT20 4 rfl<|N1 21<|NO rfl rfl [] fun T21 hT21=>?_
 refine sL rfl cv rfl<|RD hT21 4 rfl<|kD<|aL<|KK hK13 ?_
 have hb22:(ab.cells (fZ (bS ts f.toNat k) x.g7))=(ab.cells (bS ts f.toNat (k+1))):=by rw [lz hx]
 rw [hb22]
 have hb23:(ab.cells (fZ (du ts f.toNat k) x.iL))=(ab.cells (du ts f.toNat (k+1))):=by rw [lH hx]
 rw [hb23]
 refine aC<|rS (MV rfl)<|rS (BI rfl (a9 ⟨by omega,by omega⟩))<|rS (AG rfl)<|aX ?_
 have hb24:(Value.int .i64 (f+(((k+1):Nat):Int)))=(Value.int .i64 ((f+((k:Nat):Int))+1)):=by exact congrArg (Value.int .i64) (by omega)
 refine aY (hJ6 ⟨((k+1),B9),⟨by omega,hJ10,hF11⟩⟩ _ _ _ rfl (by first|omega|(simp; omega)) (an.cons rfl<|an.cons rfl<|an.cons rfl<|an.cons rfl<|an.cons rfl<|a_ rfl hb24<|an.nil _) (fun w hs=>St.bB [2,3,4,5,6,7] rfl rfl hs))
set_option maxRecDepth 100000 in
set_option maxHeartbeats 400000 in
theorem yP (ts:List ah) (tsA:Option Addr) (tsC:Nat) (f:Int) (t:Int) (hst: ∀ x∈ts,a5 x) (hlen:ts.length≤12) (hf:0≤f∧f≤t∧t≤ts.length):
 dY Tryz.prog 117 [(Value.agg (bT.cells (bT.mk (ay.mk (aA.mk tsA ts.length tsC)))).toArray),(Value.int .i64 f),(Value.int .i64 t)] [(rd tsA ts.length 9 (ts.map ah.cells))] (Value.tuple [(Value.agg (ab.cells (bS ts f.toNat (t-f).toNat)).toArray),(Value.agg (ab.cells (du ts f.toNat (t-f).toNat)).toArray)].toArray):=by
 refine bG DG Tryz.func117 rfl rfl fun w0 Q hQ hN=>?_
 try dsimp only
 refine WS fun _ hK1=>gv rfl fun b2=>vY rfl rfl fun b3=>vY rfl rfl fun b4=>AL rfl dk fun b5=>AL rfl dk fun b6=>RK hK1<|aw fun _ hK7=>WS fun _ hK8=>rS (LW 4 rfl qU rfl rfl) ?_
 refine rS (jc 3 rfl bk rfl)<|cX (AR f tsA ts.length tsC) (ar) rfl fun y9 hy10=>?_
 obtain ⟨b111,b212⟩:=y9
 try dsimp only
 refine RK hK8<|aH<|k4 7 rfl (by exact fun _ h=>h) ?_
 refine Ab (L0:=[(3,(Value.pointer (some ⟨b2,0,none⟩))),(4,(Value.pointer (some ⟨b3,0,none⟩))),(5,(Value.pointer (some ⟨b4,0,none⟩))),(6,(Value.pointer (some ⟨b5,0,none⟩))),(7,(Value.pointer (some ⟨b6,0,none⟩)))]) (F:=[(rd tsA ts.length 9 (ts.map ah.cells)).ro,(aU b111 3 [(Value.int .i64 f)]),(aU b212 173 (bT.cells (bT.mk (ay.mk (aA.mk tsA ts.length tsC)))))]) (xs:=(n9 ts f.toNat)) (fun k (y:ab×ab×Int)=>(k≤(t-f).toNat)∧(y.2.2=f+((k:Nat):Int))) (fun k y=>[(aU b6 47 (ab.cells y.2.1)),(aU b5 47 (ab.cells y.1)),(aU b4 3 [(Value.int .i64 t)]),(aU b3 3 [(Value.int .i64 y.2.2)]),(aU b2 173 (bT.cells (bT.mk (ay.mk (aA.mk tsA ts.length tsC))))),(rd tsA ts.length 9 (ts.map ah.cells)).ro]) (fun c (z:Unit)=>(c= .exit 0)) (fun _ z=>[(aU b6 47 (ab.cells (du ts f.toNat (t-f).toNat))),(aU b5 47 (ab.cells (bS ts f.toNat (t-f).toNat))),(aU b4 3 [(Value.int .i64 t)]),(aU b3 3 [(Value.int .i64 t)]),(aU b2 173 (bT.cells (bT.mk (ay.mk (aA.mk tsA ts.length tsC))))),(rd tsA ts.length 9 (ts.map ah.cells)).ro]) [3,4,5,6,7,8] [0,1,2] (gP,gP,f) rfl rfl (xe ts tsA tsC f b111 b212 (by first|assumption|omega|(simp; done)) (by first|assumption|omega|(simp; done)) (by omega)) rfl rfl rfl (by exact ⟨Nat.zero_le _,by simp⟩) (by simp only [List.forall_mem_cons,List.not_mem_nil,false_imp_iff,implies_true,and_true]; exact ⟨⟨_,by simp,(iW (cT _))⟩,⟨_,by simp,(cT _)⟩,⟨_,by simp,(cT _)⟩⟩) (by exact vo) rfl (an.cons rfl<|an.cons rfl<|an.cons rfl<|an.cons rfl<|an.cons rfl<|an.nil _) ?_ ?_ ?_ ?_
 rotate_left 1
 ·rintro r25 ⟨z1,z2,m⟩ hin26
  obtain ⟨hr0,hr1⟩:=hin26
  try dsimp only at hr0 hr1
  try dsimp only
  exfalso; rw [oo] at hr0; omega
 ·rintro r27 id _ hx28
  have hc:=hx28
  cases hc
  try dsimp only
  refine aI<|KK hK7<|aw fun _ hK29=>dA ct [0,1] [2,3] [false,false] [false,false] [(g5 r27 (.deferred (some []))),(rd tsA ts.length 9 (ts.map ah.cells)).ro,(aU b111 3 [(Value.int .i64 f)]),(aU b212 173 (bT.cells (bT.mk (ay.mk (aA.mk tsA ts.length tsC))))),(aU b6 47 (ab.cells (du ts f.toNat (t-f).toNat))),(aU b5 47 (ab.cells (bS ts f.toNat (t-f).toNat))),(aU b4 3 [(Value.int .i64 t)]),(aU b3 3 [(Value.int .i64 t)]),(aU b2 173 (bT.cells (bT.mk (ay.mk (aA.mk tsA ts.length tsC))))),(rd tsA ts.length 9 (ts.map ah.cells)).ro] [] (by kernel_rfl) (fun w hs=>St.bB [0,1,2,3,4,5,6,7,8,9] rfl rfl hs) (fun w hs=>St.bB [] rfl rfl hs)<|eS rfl (LW 5 rfl cB rfl rfl)<|eS rfl (LW 4 rfl cB rfl rfl)<|eJ rfl<|cf rfl fun T30 hT30=>AU rfl cv rfl<|RN hT30 [0,1,2,3,4,5,6,7,8,9] rfl rfl ?_
  refine cf rfl fun T31 hT31=>CU rfl cv rfl<|RN hT31 [0,1,2,3,4,5,6,7,8,9] rfl rfl<|fJ rfl<|KK hK29<|aE ?_
  refine hQ _ _ _ (o2 0 rfl rfl<|bD (vs:=[(Value.agg (ab.cells (bS ts f.toNat (t-f).toNat)).toArray),(Value.agg (ab.cells (du ts f.toNat (t-f).toNat)).toArray)]) ⟨⟨_,rfl,.inl ⟨_,_,cB,cd (vs:=(ab.cells (bS ts f.toNat (t-f).toNat))) 5 rfl rfl,rfl,rfl⟩⟩,⟨_,rfl,.inl ⟨_,_,cB,cd (vs:=(ab.cells (du ts f.toNat (t-f).toNat))) 4 rfl rfl,rfl,rfl⟩⟩,trivial⟩ fun w hs=>eR ?_ hs)
  show (Value.tuple [(Value.agg (ab.cells (bS ts f.toNat (t-f).toNat)).toArray),(Value.agg (ab.cells (du ts f.toNat (t-f).toNat)).toArray)].toArray)=(Value.tuple [(Value.agg (ab.cells (bS ts f.toNat (t-f).toNat)).toArray),(Value.agg (ab.cells (du ts f.toNat (t-f).toNat)).toArray)].toArray)
  clear hs w hQ hN hT31 T31 hT30 T30 hK29 hK8 hK7 hK1
  rfl
 ·rintro r32 _ hx33
  cases hx33
 rintro k x ⟨z1,z2,m⟩ l ra rb S w1 K13 Qr14 hx hin15 hK13 hQr14 xQr14 yQr14
 obtain ⟨hk,rfl⟩:=wC hx
 obtain ⟨hr0,hr1⟩:=hin15
 try dsimp only at hr0 hr1
 try dsimp only
 refine WS fun _ hK16=>AL rfl dk fun b17=>e7 rfl cv rfl<|RK hK16<|aC<|AL rfl dk fun b18=>e7 rfl cv rfl<|aX<|iz (fun _ _ h=>h) (fun w hs=>St.bB [2,0,1,3,4,5,6,7,8] rfl rfl hs) ?_
 refine aY (hK13 _ _ ?_)
 refine aH<|aw fun _ hK19=>aw fun _ hK20=>dA ct [0,1] [2,3] [false,false] [false,false] [(g5 l (.loop rb)),(aU b18 47 (ab.cells (du ts f.toNat k))),(aU b17 47 (ab.cells (bS ts f.toNat k))),(aU b4 3 [(Value.int .i64 t)]),(aU b3 3 [(Value.int .i64 m)]),(aU b2 173 (bT.cells (bT.mk (ay.mk (aA.mk tsA ts.length tsC))))),(rd tsA ts.length 9 (ts.map ah.cells)).ro] [] (by kernel_rfl) (fun w hs=>St.bB [0,1,2,5,6,7,8] rfl rfl hs) (fun w hs=>St.bB [] rfl rfl hs)<|eS rfl (LW 2 rfl cB rfl rfl)<|eS rfl (LW 1 rfl cB rfl rfl)<|eJ rfl<|cf rfl fun T21 hT21=>CU rfl cv rfl<|RN hT21 [0,1,2,5,6,7,8] rfl rfl ?_
 refine cf rfl fun T22 hT22=>By rfl cv rfl<|RN hT22 [0,1,2,5,6,7,8] rfl rfl<|fJ rfl<|KK hK20<|WS fun _ hK23=>rS (jc 6 rfl bk rfl)<|rS (jc 5 rfl bk rfl)<|rS (BI rfl eC)<|RK hK23 ?_
 refine bp rfl (fun h24=>?_) (fun h24=>?_)
 ·replace h24:=DT h24
  refine bM<|ai<|dZ rfl ?_
  rw [show m=t from by omega]
  obtain rfl:k=(t-f).toNat:=by omega
  exact xQr14 _ () _ _ (by exact rfl) (fun w hs=>St.bB [0,3,4,5,6,7,8] rfl rfl hs)
 replace h24:=DF h24
 refine WK hK19<|aC<|rS (jc 6 rfl bk rfl)<|rS (BI rfl (a9 ⟨by omega,by omega⟩))<|Ha rfl uQ rfl rfl<|aX<|aL ?_
 exact hQr14 ((bS ts f.toNat k),(du ts f.toNat k),(m+1)) _ _ (by refine ⟨by omega,?_⟩; dsimp only; omega) (fun w hs=>St.bB [0,3,4,5,6,7,8] rfl rfl hs)
end
section
open Go.RowKit
set_option linter.unusedVariables false
set_option maxRecDepth 100000 in
set_option maxHeartbeats 400000 in
theorem wS (i:Int) (s:br) (ts:List ah) (tsA:Option Addr) (tsC:Nat) (g1:Nat) (hst: ∀ x∈ts,a5 x) (hlen:ts.length≤12):
 dY Tryz.prog 134 [(Value.int .i64 i),(Value.agg (br.cells s).toArray),(Value.pointer (some ⟨g1,0,none⟩))] [(rd tsA ts.length 9 (ts.map ah.cells)),(aU g1 173 (bT.cells (bT.mk (ay.mk (aA.mk tsA ts.length tsC)))))] (Value.bool (!(decide (dB ts s)))):=by
 refine bG C5 Tryz.func134 rfl rfl fun w0 Q hQ hN=>?_
 try dsimp only
 refine WS fun _ hK1=>gv rfl fun b2=>rS (AG rfl)<|RK hK1<|aw fun _ hK3=>lK ct [0,1,2,3,4,5,6] [7,8,9,10,11,12,13,14,15,16,17,18,19,20,21,22,23,24,25,26] [false,false,false,false,false,false,false] [] [(aU b2 99 (br.cells s)),(rd tsA ts.length 9 (ts.map ah.cells)).ro,(aU g1 173 (bT.cells (bT.mk (ay.mk (aA.mk tsA ts.length tsC))))).ro] [] (by kernel_rfl) (fun w hs=>St.bB [0,1,2] rfl rfl hs) (fun w hs=>St.bB [] rfl rfl hs)<|eS rfl (FA 0 rfl oi rfl)<|eS rfl (FA 0 rfl hU rfl)<|eS rfl (l9 (Value.slice tsA ts.length tsC) 2 rfl nh rfl rfl)<|eS rfl (LN rfl rj) ?_
 refine eS rfl (BI rfl (cr ⟨by omega,by omega⟩))<|eS rfl (FA 0 rfl fP rfl)<|eS rfl (L1 (Value.int .i64 s.aj) 0 rfl bk rfl rfl)<|eJ rfl<|N1 7<|NO rfl rfl [8,9,10,11,12,13,14,15,16,17,18,19,20,21,22,23,24,25,26] fun T4 hT4=>dV (xs:=[.tmp 12]) (cs:=[(Value.int .i64 s.aj)]) rfl di kb rfl rfl rfl rfl (by simp [Value.cells]) rfl rfl fun b5=>RD hT4 1 rfl<|x4 [14,15,16,17,18,19,20,21,22,23,24,25,26,27,28,29,30,31,5] (by kernel_rfl) (by kernel_rfl) rfl _ rfl rfl (fun w hs=>St.bB [1,2,3] rfl rfl hs)<|dS (CL (dY.eq (kN 0 (((ts.length:Nat):Int)-1) ([s.aj]) (some ⟨b5,0,none⟩) 1 (by first|assumption|omega|(simp; done)|(simp; omega))) cI) (aF (a4 0 rfl rfl (by simp [bO]) rfl)<|ar) rfl) ?_
 refine dS (NT rfl)<|dS (MV rfl) ?_
 refine db (t:=16) rfl (fun h16=>?_) (fun h16=>?_)
 ·replace h16:=XT h16
  refine dS (OX rfl)<|dS (OX rfl)<|dS (OX rfl)<|dS (OX rfl)<|dS (OX rfl)<|dS (OX rfl)<|dS (OX rfl)<|dS (OX rfl)<|dS (OX rfl)<|dS (OX rfl) ?_
  refine dS (OX rfl)<|dS (OX rfl)<|dS (OX rfl)<|dS (OX rfl)<|dS (PK rfl)<|dS (AG rfl)<|cE<|RK hK3<|aE<|Q1 hQ rfl rfl rfl ?_
  first|(refine congrArg Value.bool ?_; rw [decide_eq_false (oa (by omega))]; rfl)|exact congrArg (fun b=>Value.bool (!b)) (decide_eq_decide.2 (oy (by omega) hx).symm)
 replace h16:=XF h16
 refine dS (FA 1 rfl fc rfl)<|dS (LP (ab.cells s.dU) 1 rfl cB rfl rfl rfl)<|dS (FA 0 rfl oi rfl)<|dS (FA 0 rfl hU rfl)<|dS (l9 (Value.slice tsA ts.length tsC) 3 rfl nh rfl rfl)<|dS (FA 0 rfl fP rfl)<|dS (L1 (Value.int .i64 s.aj) 1 rfl bk rfl rfl) ?_
 obtain ⟨x,hx⟩: ∃ y_,ts[(s.aj).toNat]? =some y_:=⟨ts[(s.aj).toNat]'(by omega),List.getElem?_eq_getElem _⟩
 have hxm:(ts.map ah.cells)[(s.aj).toNat]? =some (ah.cells x):=by rw [List.getElem?_map,hx]; rfl
 refine dS (IA ((s.aj).toNat) rfl (aQ 2 rfl) ru (by decide) (by omega) (by omega))<|dS (qP ((((s.aj).toNat)*9)+1) rfl (aQ 2 rfl) (Nat.mul_pos (by omega) (by decide)) kq rfl) ?_
 have hxo:=(hst x (List.mem_of_getElem? hx)).2.1
 simp only [cG] at hxo
 refine dS (qP ((((s.aj).toNat)*9)+1) rfl (aQ 2 rfl) (Nat.mul_pos (by omega) (by decide)) bP rfl)<|dS (ir ((s.aj).toNat) 1 (Value.int .i64 x.g7.Lo) rfl bk (aQ 2 rfl) hxm rfl (by decide) rfl)<|dS (BI rfl (cr ⟨by omega,by omega⟩))<|dS (CL (pV s.dU 0 (x.g7.Lo-1)) (ar) rfl)<|dS (NT rfl)<|dS (PK rfl)<|dS (AG rfl)<|cE<|RK hK3<|aE ?_
 refine Q1 hQ rfl rfl rfl ?_
 first|(refine congrArg Value.bool ?_; rw [decide_eq_false (oa (by omega))]; rfl)|exact congrArg (fun b=>Value.bool (!b)) (decide_eq_decide.2 (oy (by omega) hx).symm)
set_option maxRecDepth 100000 in
set_option maxHeartbeats 400000 in
theorem u6 (l:List br) (lA:Option Addr) (lC:Nat) (f:Value) (p:Int→br→Bool) (X:aD) (hf: ∀ x0 x1,(∃ k:Nat,x0=(k:Int)∧l[k]? =some x1)→xL Tryz.prog f [.int .i64 x0,.agg (br.cells x1).toArray] [X] (.bool (p x0 x1))) (hlen:l.length≤1000000):
 rM Tryz.prog 133 [(Value.slice lA l.length lC),f] [(rd lA l.length 3 (l.map br.cells)),X] (fun (x:(Option Addr)×Nat)=>(Value.slice x.1 ((xx (fun jj yy=>p (jj:Int) yy) l).length) x.2)) (fun (x:(Option Addr)×Nat)=>True) (fun (x:(Option Addr)×Nat)=>[(own x.1 x.2 3 1 ((xx (fun jj yy=>p (jj:Int) yy) l).map iC))]):=by
 refine gX Eb Tryz.func133 rfl rfl fun w0 Q hQ hN=>?_
 try dsimp only
 refine WS fun _ hK1=>rS (AG rfl)<|RK hK1<|WS fun _ hK2=>rS (AG rfl)<|RK hK2<|aw fun _ hK3=>WS fun _ hK4=>rS (MV rfl)<|rS (LN rfl DY) ?_
 refine rS (MV rfl)<|RK hK4<|aH<|fY 3 1 ?_
 have hinit:(0≤l.length):=by exact Nat.zero_le _
 refine cP (ι:={z:Nat×(Option Addr)×Nat // (z.1≤l.length)}) (fun z=>[(0,(Value.slice lA l.length lC)),(1,f),(5,(Value.slice z.1.2.1 ((nA (fun jj yy=>p (jj:Int) yy) l z.1.1).length) z.1.2.2)),(8,(Value.slice lA l.length lC)),(9,(Value.int .i64 ((l.length:Nat):Int))),(10,(Value.int .i64 ((z.1.1:Nat):Int)))]) (fun z=>[(own z.1.2.1 z.1.2.2 3 1 ((nA (fun jj yy=>p (jj:Int) yy) l z.1.1).map iC)),(rd lA l.length 3 (l.map br.cells)).ro,X.ro]) (fun z=>l.length-z.1.1) ⟨(0,none,0),hinit⟩ (an.cons rfl<|an.cons rfl<|an.cons rfl<|an.cons rfl<|an.cons rfl<|an.cons rfl<|an.nil _) (fun w hs=>St.bB [0,1,2] rfl rfl hs) ?_
 clear hinit
 rintro ⟨⟨i,a,c⟩,hl0_0⟩ J5 hJ5
 try dsimp only at hl0_0
 try dsimp only
 refine WS fun _ hK6=>rS (BI rfl cq)<|RK hK6<|aw fun _ hK7=>?_
 refine bp rfl (fun h8=>?_) (fun h8=>?_)
 rotate_left 1
 ·replace h8:=DF h8
  refine bM<|ai<|ai<|aI<|KK hK3<|WS fun _ hK18=>?_
  rw [AJ (p:=fun (i:Nat) x=>p (i:Int) x) (show i=l.length by omega)]
  refine rS (MV rfl)<|rS (AG rfl)<|RK hK18<|aE ?_
  refine hQ _ _ _ (bD (vs:=[(Value.slice a ((xx (fun jj yy=>p (jj:Int) yy) l).length) c)]) ⟨rfl,trivial⟩ fun w hs=>fj (a,c) [0] ?_ ?_ rfl rfl rfl hs)
  ·rfl
  ·trivial
 replace h8:=DT h8
 refine WK hK7<|aw fun _ hK9=>aH<|WS fun _ hK10=>rS (MV rfl) ?_
 obtain ⟨x,hx⟩: ∃ y_,l[i]? =some y_:=⟨l[i]'(by omega),List.getElem?_eq_getElem _⟩
 have hxm:(l.map br.cells)[i]? =some (br.cells x):=by rw [List.getElem?_map,hx]; rfl
 refine rS (IA i rfl (aQ 1 rfl) yd (by decide) (by omega) (by omega))<|rS (kE i 0 (br.cells x) rfl ki (aQ 1 rfl) hxm rfl (by decide) rfl rfl)<|AL rfl Ax fun b11=>rS (AG rfl)<|e7 rfl DX rfl<|RK hK10<|WS fun _ hK12=>rS (MV rfl)<|rS (MV rfl)<|rS (LW 0 rfl ki rfl rfl) ?_
 refine rS (SX (o6 rfl rfl rfl (hf ((i:Nat):Int) x ⟨i,rfl,hx⟩) (ax 3 rfl rfl<|ar)) rfl rfl)<|RK hK12 ?_
 refine bp rfl (fun hp=>?_) (fun hp=>?_)
 rotate_left 1
 ·refine cH ?_
  refine aL<|KK hK9<|aC ?_
  rw [← zK (p:=fun (i:Nat) x=>p (i:Int) x) hx hp]
  refine rS (BI rfl (a9 ⟨by omega,by omega⟩))<|rS (MV rfl)<|aX ?_
  have hb17:(Value.int .i64 (((i+1):Nat):Int))=(Value.int .i64 (((i:Nat):Int)+1)):=by exact congrArg (Value.int .i64) (by omega)
  refine aY (hJ5 ⟨((i+1),a,c),(by first|omega|(simp only []; omega))⟩ _ _ _ rfl (by first|omega|(simp; omega)) (an.cons rfl<|an.cons rfl<|an.cons rfl<|an.cons rfl<|an.cons rfl<|a_ rfl hb17<|an.nil _) (fun w hs=>St.bB [1,2,3] rfl rfl hs))
 refine aC<|rS (MV rfl)<|rS (MV rfl)<|dV (xs:=[.tmp 20]) (cs:=[(Value.int .i64 ((i:Nat):Int))]) rfl di kb rfl rfl rfl rfl (by simp [Value.cells]) rfl rfl fun b13=>gz (es2:=(List.map iC (nA (fun jj yy=>p (jj:Int) yy) l (i+1)))) (m':=(nA (fun jj yy=>p (jj:Int) yy) l (i+1)).length) 2 rfl rfl rfl tF rfl rfl (by simp) (a4 (es:=List.map iC [((i:Nat):Int)]) 0 rfl rfl (by simp [bO]) rfl) (mu _) (by have:=tf (p:=fun (i:Nat) x=>p (i:Int) x) (l:=l) (n:=i); simp; omega) (by have:=tf (p:=fun (i:Nat) x=>p (i:Int) x) (l:=l) (n:=i); simp only [maxLen]; omega) (by rw [yQ hx hp]; simp) (by simp) rfl fun a14 c15=>?_
 try dsimp only
 refine rS (AG rfl)<|aX<|aL<|KK hK9<|aC<|rS (BI rfl (a9 ⟨by omega,by omega⟩))<|rS (MV rfl)<|aX ?_
 have hb16:(Value.int .i64 (((i+1):Nat):Int))=(Value.int .i64 (((i:Nat):Int)+1)):=by exact congrArg (Value.int .i64) (by omega)
 refine aY (hJ5 ⟨((i+1),a14,c15),(by first|omega|(simp only []; omega))⟩ _ _ _ rfl (by first|omega|(simp; omega)) (an.cons rfl<|an.cons rfl<|an.cons rfl<|an.cons rfl<|an.cons rfl<|a_ rfl hb16<|an.nil _) (fun w hs=>St.bB [2,3,4] rfl rfl hs))
set_option maxRecDepth 100000 in
set_option maxHeartbeats 400000 in
theorem t_ (ts:List ah) (tsA:Option Addr) (tsC:Nat) (l:List br) (lA:Option Addr) (lC:Nat) (hst: ∀ x∈ts,a5 x) (hlen:ts.length≤12) (hl:l.length≤4):
 dY Tryz.prog 116 [(Value.agg (bT.cells (bT.mk (ay.mk (aA.mk tsA ts.length tsC)))).toArray),(Value.slice lA l.length lC)] [(rd tsA ts.length 9 (ts.map ah.cells)),(rd lA l.length 3 (l.map br.cells))] (Value.bool (decide (∀ s∈l,dB ts s))):=by
 refine bG DS Tryz.func116 rfl rfl fun w0 Q hQ hN=>?_
 try dsimp only
 refine WS fun _ hK1=>gv rfl fun b2=>rS (AG rfl)<|RK hK1<|WS fun _ hK3=>rS (MV rfl)<|rS (FU rfl)<|cX (u6 l lA lC (Value.func (.func 134) [].toArray [(Value.pointer (some ⟨b2,0,none⟩))].toArray) (fun u4 u5=>(!(decide (dB ts u5)))) (c_ [(rd tsA ts.length 9 (ts.map ah.cells)),(aU b2 173 (bT.cells (bT.mk (ay.mk (aA.mk tsA ts.length tsC)))))]) (by intro u4 u5 _; exact mg (fi:=[]) (ca:=[(Value.pointer (some ⟨b2,0,none⟩))]) (lk (wS u4 u5 ts tsA tsC b2 (by first|assumption|omega) (by first|assumption|omega)) (ax 0 rfl rfl<|ax 1 rfl rfl<|ar))) (by first|assumption|omega|(simp; done)|(simp; omega))) (ax 2 rfl rfl<|aF (lN (ax 1 rfl rfl<|ax 0 rfl rfl<|ar))<|ar) rfl fun y6 hy7=>?_
 obtain ⟨a8,c9⟩:=y6
 try dsimp only
 refine rS (LN rfl jD)<|rS (BI rfl eC)<|rS (AG rfl)<|RK hK3<|aE<|Q1 hQ rfl rfl rfl ?_
 exact congrArg Value.bool (decide_eq_decide.2 (by rw [show ∀ n:Nat,((n:Int)=0)↔n=0 from fun n=>by omega,wI]; simp only [Bool.not_eq_false',decide_eq_true_eq]; exact ⟨fun h s hs=>by obtain ⟨k,hk⟩:=List.getElem?_of_mem hs; exact h k s hk,fun h k s hk=>h s (List.mem_of_getElem? hk)⟩))
set_option maxRecDepth 100000 in
set_option maxHeartbeats 400000 in
theorem uR (z:ab) (hz:iS z):
 dY Tryz.prog 119 [(Value.agg (ab.cells z).toArray)] [] (Value.agg (ab.cells (gD z)).toArray):=by
 unfold iS at hz
 refine bG Dg Tryz.func119 rfl rfl fun w0 Q hQ hN=>?_
 try dsimp only
 refine WS fun _ hK1=>gv rfl fun b2=>AL rfl dk fun b3=>RK hK1<|WS fun _ hK4=>rS (FA 1 rfl bZ rfl)<|rS (L1 (Value.int .i64 z.Hi) 1 rfl bk rfl rfl)<|rS (NG rfl ⟨by omega,by omega⟩)<|rS (FA 0 rfl bP rfl)<|rS (L1 (Value.int .i64 z.Lo) 1 rfl bk rfl rfl) ?_
 refine rS (NG rfl ⟨by omega,by omega⟩)<|rS (SX (aS (xs:=[(0,.tmp 5),(1,.tmp 8)]) (cs:=(ab.cells (ab.mk (-z.Hi) (-z.Lo)))) rfl rfl (aR fG rfl)) rfl rfl)<|e7 rfl cv rfl<|RK hK4<|aE ?_
 refine hQ _ _ _ (bD (vs:=[(Value.agg (ab.cells (ab.mk (-z.Hi) (-z.Lo))).toArray)]) ⟨⟨_,rfl,.inl ⟨_,_,cB,cd (vs:=(ab.cells (ab.mk (-z.Hi) (-z.Lo)))) 0 rfl rfl,rfl,rfl⟩⟩,trivial⟩ fun w hs=>eR ?_ hs)
 show (Value.agg (ab.cells (ab.mk (-z.Hi) (-z.Lo))).toArray)=(Value.agg (ab.cells (gD z)).toArray)
 clear hs w hQ hN hK4 hK1
 rfl
set_option maxRecDepth 100000 in
set_option maxHeartbeats 400000 in
theorem Eh (ts:List ah) (tsA:Option Addr) (tsC:Nat) (s:br) (hlen:ts.length≤1000000) (hside: ∀ x∈ts,0≤x.fx∧x.fx≤255):
 dY Tryz.prog 78 [(Value.agg (ay.cells (ay.mk (aA.mk tsA ts.length tsC))).toArray),(Value.agg (br.cells s).toArray)] [(rd tsA ts.length 9 (ts.map ah.cells))] (Value.tuple [(Value.agg (ab.cells (s_ ts s)).toArray),(Value.int .i64 (qg ts s))].toArray):=by
 refine bG GF Tryz.func78 rfl rfl fun w0 Q hQ hN=>?_
 try dsimp only
 refine WS fun _ hK1=>gv rfl fun b2=>gv rfl fun b3=>AL rfl dk fun b4=>rS (AG rfl)<|RK hK1<|WS fun _ hK5=>rS (LW 2 rfl jx rfl rfl)<|rS (CL (vQ ts tsA tsC hlen hside) (ax 3 rfl rfl<|ar) rfl)<|rS (MV rfl) ?_
 refine rS (EX rfl)<|rS (EX rfl)<|AL rfl zo fun b6=>e7 rfl yA rfl<|rS (AG rfl)<|RK hK5<|aw fun _ hK7=>WS fun _ hK8=>rS (MV rfl)<|rS (BI rfl eB) ?_
 refine RK hK8 ?_
 refine bp rfl (fun he=>?_) (fun he=>?_)
 ·replace he:=XT he
  refine WS fun _ hK9=>rS (SX (aS (xs:=[]) (cs:=(ab.cells (ab.mk 0 0))) rfl rfl (aR fG rfl)) rfl rfl)<|rS (MV rfl)<|oL rfl cv rfl<|rS (AG rfl)<|RK hK9<|aE ?_
  refine hQ _ _ _ (bD (vs:=[(Value.agg (ab.cells (ab.mk 0 0)).toArray),(Value.int .i64 (if bY ts=true then 0 else 10))]) ⟨⟨_,rfl,.inl ⟨_,_,cB,cd (vs:=(ab.cells (ab.mk 0 0))) 1 rfl rfl,rfl,rfl⟩⟩,rfl,trivial⟩ fun w hs=>eR ?_ hs)
  show (Value.tuple [(Value.agg (ab.cells (ab.mk 0 0)).toArray),(Value.int .i64 (if bY ts=true then 0 else 10))].toArray)=(Value.tuple [(Value.agg (ab.cells (s_ ts s)).toArray),(Value.int .i64 (qg ts s))].toArray)
  clear hs w hQ hN hK9 hK8 hK7 hK5 hK1
  first|(have e:=lI (s:=s) (gi he).1; rw [e.1,e.2,(gi he).2]<;>rfl)|(have e:=lQ htr h23; rw [e.1,e.2]<;>rfl)|(have e:=kS htr h23; rw [e.1,e.2]; unfold xz; rw [show (s.aj-0).toNat=s.aj.toNat by rw [Int.sub_zero]]<;>rfl)
 replace he:=XF he
 refine WK hK7<|aw fun _ hK10=>WS fun _ hK11=>?_
 have htr:=vh he
 have hst:=gV htr
 have hl12:=iv htr
 refine rS (LW 0 rfl qU rfl rfl)<|rS (LW 2 rfl ki rfl rfl)<|dV (xs:=[.tmp 20]) (cs:=(br.cells s)) rfl yd Ax rfl rfl rfl rfl (by simp [Value.cells,br.aM]) rfl rfl fun b12=>rS (CL (dY.eq (t_ ts tsA tsC ([s]) (some ⟨b12,0,none⟩) 1 (by first|assumption|omega|(simp; done)|(simp; omega)) (by first|assumption|omega|(simp; done)|(simp; omega)) (by first|assumption|omega|(simp; done)|(simp; omega))) vl) (ax 5 rfl rfl<|aF (a4 0 rfl rfl (by simp [br.aM]) rfl)<|ar) rfl)<|rS (NT rfl)<|RK hK11 ?_
 refine bp rfl (fun h23=>?_) (fun h23=>?_)
 ·replace h23:=XT h23
  refine WS fun _ hK13=>rS (SX (aS (xs:=[]) (cs:=(ab.cells (ab.mk 0 0))) rfl rfl (aR fG rfl)) rfl rfl)<|sL rfl cv rfl<|rS (AG rfl)<|RK hK13<|aE ?_
  refine hQ _ _ _ (bD (vs:=[(Value.agg (ab.cells (ab.mk 0 0)).toArray),(Value.int .i64 12)]) ⟨⟨_,rfl,.inl ⟨_,_,cB,cd (vs:=(ab.cells (ab.mk 0 0))) 2 rfl rfl,rfl,rfl⟩⟩,rfl,trivial⟩ fun w hs=>eR ?_ hs)
  show (Value.tuple [(Value.agg (ab.cells (ab.mk 0 0)).toArray),(Value.int .i64 12)].toArray)=(Value.tuple [(Value.agg (ab.cells (s_ ts s)).toArray),(Value.int .i64 (qg ts s))].toArray)
  clear hs w hQ hN hK13 hK11 hK10 hK8 hK7 hK5 hK1
  first|(have e:=lI (s:=s) (gi he).1; rw [e.1,e.2,(gi he).2]<;>rfl)|(have e:=lQ htr h23; rw [e.1,e.2]<;>rfl)|(have e:=kS htr h23; rw [e.1,e.2]; unfold xz; rw [show (s.aj-0).toNat=s.aj.toNat by rw [Int.sub_zero]]<;>rfl)
 replace h23:=XF h23
 refine WK hK10<|WS fun _ hK14=>?_
 have hsb:=h23.1
 have hof:=l_ hst h23
 refine rS (LW 1 rfl qU rfl rfl)<|rS (FA 0 rfl fP rfl)<|rS (L1 (Value.int .i64 s.aj) 3 rfl bk rfl rfl)<|rS (CL (yP ts tsA tsC 0 s.aj (by first|assumption|omega|(simp; done)|(simp; omega)) (by first|assumption|omega|(simp; done)|(simp; omega)) (by omega)) (ax 5 rfl rfl<|ar) rfl)<|rS (MV rfl)<|rS (EX rfl)<|rS (EX rfl)<|AL rfl dk fun b15=>AL rfl dk fun b16=>oL rfl cv rfl ?_
 refine e7 rfl cv rfl<|RK hK14<|WS fun _ hK17=>rS (LW 1 rfl cB rfl rfl)<|rS (FA 1 rfl fc rfl)<|rS (LP (ab.cells s.dU) 5 rfl cB rfl rfl rfl)<|dV (xs:=[.tmp 34]) (cs:=(ab.cells s.dU)) rfl k8 dk rfl rfl rfl rfl (by simp [Value.cells,ab.aM]) rfl rfl fun b18=>rS (CL (dY.eq (lM (bS ts (0:Int).toNat (s.aj-0).toNat) ([s.dU]) (some ⟨b18,0,none⟩) 1 (by exact mL hst (by omega)) (by intro z hz; simp only [List.mem_singleton] at hz; subst hz; exact hof) (by simp)) kd) (aF (a4 0 rfl rfl (by simp [ab.aM]) rfl)<|ar) rfl)<|AU rfl cv rfl<|rS (AG rfl) ?_
 refine RK hK17<|aE ?_
 refine hQ _ _ _ (bD (vs:=[(Value.agg (ab.cells (fZ (bS ts (0:Int).toNat (s.aj-0).toNat) s.dU)).toArray),(Value.int .i64 0)]) ⟨⟨_,rfl,.inl ⟨_,_,cB,cd (vs:=(ab.cells (fZ (bS ts (0:Int).toNat (s.aj-0).toNat) s.dU))) 5 rfl rfl,rfl,rfl⟩⟩,rfl,trivial⟩ fun w hs=>eR ?_ hs)
 show (Value.tuple [(Value.agg (ab.cells (fZ (bS ts (0:Int).toNat (s.aj-0).toNat) s.dU)).toArray),(Value.int .i64 0)].toArray)=(Value.tuple [(Value.agg (ab.cells (s_ ts s)).toArray),(Value.int .i64 (qg ts s))].toArray)
 clear hs w hQ hN hK17 hK14 hK11 hK10 hK8 hK7 hK5 hK1
 first|(have e:=lI (s:=s) (gi he).1; rw [e.1,e.2,(gi he).2]<;>rfl)|(have e:=lQ htr h23; rw [e.1,e.2]<;>rfl)|(have e:=kS htr h23; rw [e.1,e.2]; unfold xz; rw [show (s.aj-0).toNat=s.aj.toNat by rw [Int.sub_zero]]<;>rfl)
set_option maxRecDepth 100000 in
set_option maxHeartbeats 400000 in
theorem AE (ts:List ah) (tsA:Option Addr) (tsC:Nat) (p:br) (q:br) (hlen:ts.length≤1000000) (hside: ∀ x∈ts,0≤x.fx∧x.fx≤255):
 dY Tryz.prog 79 [(Value.agg (ay.cells (ay.mk (aA.mk tsA ts.length tsC))).toArray),(Value.agg (br.cells p).toArray),(Value.agg (br.cells q).toArray)] [(rd tsA ts.length 9 (ts.map ah.cells))] (Value.tuple [(Value.agg (ab.cells (dp ts p q)).toArray),(Value.int .i64 (eM ts p q))].toArray):=by
 refine bG FI Tryz.func79 rfl rfl fun w0 Q hQ hN=>?_
 try dsimp only
 refine WS fun _ hK1=>gv rfl fun b2=>gv rfl fun b3=>gv rfl fun b4=>AL rfl dk fun b5=>rS (AG rfl)<|RK hK1<|WS fun _ hK6=>rS (LW 3 rfl jx rfl rfl)<|rS (CL (vQ ts tsA tsC hlen hside) (ax 4 rfl rfl<|ar) rfl) ?_
 refine rS (MV rfl)<|rS (EX rfl)<|rS (EX rfl)<|AL rfl zo fun b7=>e7 rfl yA rfl<|rS (AG rfl)<|RK hK6<|aw fun _ hK8=>WS fun _ hK9=>rS (MV rfl) ?_
 refine rS (BI rfl eB)<|RK hK9 ?_
 refine bp rfl (fun he=>?_) (fun he=>?_)
 ·replace he:=XT he
  refine WS fun _ hK10=>rS (SX (aS (xs:=[]) (cs:=(ab.cells (ab.mk 0 0))) rfl rfl (aR fG rfl)) rfl rfl)<|rS (MV rfl)<|oL rfl cv rfl<|rS (AG rfl)<|RK hK10<|aE ?_
  refine hQ _ _ _ (bD (vs:=[(Value.agg (ab.cells (ab.mk 0 0)).toArray),(Value.int .i64 (if bY ts=true then 0 else 10))]) ⟨⟨_,rfl,.inl ⟨_,_,cB,cd (vs:=(ab.cells (ab.mk 0 0))) 1 rfl rfl,rfl,rfl⟩⟩,rfl,trivial⟩ fun w hs=>eR ?_ hs)
  show (Value.tuple [(Value.agg (ab.cells (ab.mk 0 0)).toArray),(Value.int .i64 (if bY ts=true then 0 else 10))].toArray)=(Value.tuple [(Value.agg (ab.cells (dp ts p q)).toArray),(Value.int .i64 (eM ts p q))].toArray)
  clear hs w hQ hN hK10 hK9 hK8 hK6 hK1
  first|(have e:=eW (a:=p) (b:=q) (gi he).1; rw [e.1,e.2,(gi he).2]<;>rfl)|(have e:=eY htr h26; rw [e.1,e.2]<;>rfl)|(have e:=cj htr ⟨hp,hq⟩; rw [e.1,e.2]; unfold e_ mz; rw [if_pos h47]<;>rfl)|(have e:=cj htr ⟨hp,hq⟩; rw [e.1,e.2]; unfold e_ mz; rw [if_neg h47]<;>rfl)
 replace he:=XF he
 refine WK hK8<|aw fun _ hK11=>WS fun _ hK12=>?_
 have htr:=vh he
 have hst:=gV htr
 have hl12:=iv htr
 refine rS (LW 0 rfl qU rfl rfl)<|rS (LW 3 rfl ki rfl rfl)<|rS (LW 2 rfl ki rfl rfl)<|dV (xs:=[.tmp 22,.tmp 23]) (cs:=((br.cells p)++(br.cells q))) rfl yd Ax rfl rfl rfl rfl (by simp [Value.cells,br.aM]) rfl rfl fun b13=>rS (CL (dY.eq (t_ ts tsA tsC ([p,q]) (some ⟨b13,0,none⟩) 2 (by first|assumption|omega|(simp; done)|(simp; omega)) (by first|assumption|omega|(simp; done)|(simp; omega)) (by first|assumption|omega|(simp; done)|(simp; omega))) uT) (ax 6 rfl rfl<|aF (a4 0 rfl rfl (by simp [br.aM]) rfl)<|ar) rfl)<|rS (NT rfl)<|RK hK12 ?_
 refine bp rfl (fun h26=>?_) (fun h26=>?_)
 ·replace h26:=XT h26
  refine WS fun _ hK14=>rS (SX (aS (xs:=[]) (cs:=(ab.cells (ab.mk 0 0))) rfl rfl (aR fG rfl)) rfl rfl)<|sL rfl cv rfl<|rS (AG rfl)<|RK hK14<|aE ?_
  refine hQ _ _ _ (bD (vs:=[(Value.agg (ab.cells (ab.mk 0 0)).toArray),(Value.int .i64 12)]) ⟨⟨_,rfl,.inl ⟨_,_,cB,cd (vs:=(ab.cells (ab.mk 0 0))) 2 rfl rfl,rfl,rfl⟩⟩,rfl,trivial⟩ fun w hs=>eR ?_ hs)
  show (Value.tuple [(Value.agg (ab.cells (ab.mk 0 0)).toArray),(Value.int .i64 12)].toArray)=(Value.tuple [(Value.agg (ab.cells (dp ts p q)).toArray),(Value.int .i64 (eM ts p q))].toArray)
  clear hs w hQ hN hK14 hK12 hK11 hK9 hK8 hK6 hK1
  first|(have e:=eW (a:=p) (b:=q) (gi he).1; rw [e.1,e.2,(gi he).2]<;>rfl)|(have e:=eY htr h26; rw [e.1,e.2]<;>rfl)|(have e:=cj htr ⟨hp,hq⟩; rw [e.1,e.2]; unfold e_ mz; rw [if_pos h47]<;>rfl)|(have e:=cj htr ⟨hp,hq⟩; rw [e.1,e.2]; unfold e_ mz; rw [if_neg h47]<;>rfl)
 replace h26:=XF h26
 refine WK hK11<|WS fun _ hK15=>?_
 obtain ⟨hp,hq⟩:=h26
 have hpb:=hp.1
 have hqb:=hq.1
 have hpo:=l_ hst hp
 have hqo:=l_ hst hq
 have hlo:=sB hpo
 have hwy:=mL hst (f:=(min p.aj q.aj).toNat) (k:=(max p.aj q.aj-min p.aj q.aj).toNat) (by omega)
 refine rS (LW 1 rfl qU rfl rfl)<|rS (FA 0 rfl fP rfl)<|rS (L1 (Value.int .i64 p.aj) 4 rfl bk rfl rfl)<|rS (FA 0 rfl fP rfl)<|rS (L1 (Value.int .i64 q.aj) 3 rfl bk rfl rfl)<|rS (MN rfl)<|rS (FA 0 rfl fP rfl)<|rS (L1 (Value.int .i64 p.aj) 4 rfl bk rfl rfl)<|rS (FA 0 rfl fP rfl)<|rS (L1 (Value.int .i64 q.aj) 3 rfl bk rfl rfl) ?_
 refine rS (MX rfl)<|rS (CL (yP ts tsA tsC (min p.aj q.aj) (max p.aj q.aj) (by first|assumption|omega|(simp; done)|(simp; omega)) (by first|assumption|omega|(simp; done)|(simp; omega)) (by omega)) (ax 6 rfl rfl<|ar) rfl)<|rS (MV rfl)<|rS (EX rfl)<|rS (EX rfl)<|AL rfl dk fun b16=>AL rfl dk fun b17=>oL rfl cv rfl<|e7 rfl cv rfl<|RK hK15 ?_
 refine aw fun _ hK18=>WS fun _ hK19=>rS (FA 0 rfl fP rfl)<|rS (L1 (Value.int .i64 q.aj) 5 rfl bk rfl rfl)<|rS (FA 0 rfl fP rfl)<|rS (L1 (Value.int .i64 p.aj) 6 rfl bk rfl rfl)<|rS (BI rfl cq)<|RK hK19 ?_
 refine bp rfl (fun h47=>?_) (fun h47=>?_)
 rotate_left 1
 ·replace h47:=DF h47
  refine WK hK18<|aw fun _ hK25=>dA ct [0,1,2,3,4,5,9] [6,7,8] [false,false,false,false,false,false,false] [false,false,false] [(aU b17 47 (ab.cells (du ts (min p.aj q.aj).toNat ((max p.aj q.aj)-(min p.aj q.aj)).toNat))),(aU b16 47 (ab.cells (bS ts (min p.aj q.aj).toNat ((max p.aj q.aj)-(min p.aj q.aj)).toNat))),(aU b13 99 ((br.cells p)++(br.cells q))),(aU b7 173 (bT.cells (bT.mk (ay.mk (aA.mk tsA ts.length tsC))))),(aU b4 99 (br.cells q)),(aU b3 99 (br.cells p)),(aU b2 24 (ay.cells (ay.mk (aA.mk tsA ts.length tsC)))),(rd tsA ts.length 9 (ts.map ah.cells)).ro] [] (by kernel_rfl) (fun w hs=>St.bB [0,1,2,3,5,6,7,8] rfl rfl hs) (fun w hs=>St.bB [] rfl rfl hs)<|eS rfl (LW 1 rfl cB rfl rfl)<|eS rfl (FA 1 rfl fc rfl)<|eS rfl (LP (ab.cells q.dU) 4 rfl cB rfl rfl rfl)<|eS rfl (FA 1 rfl fc rfl)<|eS rfl (LP (ab.cells p.dU) 5 rfl cB rfl rfl rfl)<|eS rfl (CL (uR p.dU (by first|assumption|omega|(simp; done)|(simp; omega))) (ar) rfl)<|eS rfl (AG rfl) ?_
  refine eJ rfl<|cf rfl fun T26 hT26=>dV (xs:=[.tmp 52,.tmp 55]) (cs:=((ab.cells q.dU)++(ab.cells (gD p.dU)))) rfl k8 dk rfl rfl rfl rfl (by simp [Value.cells,ab.aM]) rfl rfl fun b27=>RN hT26 [1,2,3,4,6,7,8,9] rfl rfl<|cf rfl fun T28 hT28=>rS (CL (dY.eq (lM (bS ts (min p.aj q.aj).toNat ((max p.aj q.aj)-(min p.aj q.aj)).toNat) ([q.dU,(gD p.dU)]) (some ⟨b27,0,none⟩) 2 (by first|exact hwy|exact sB hwy) (by intro z hz; simp only [List.mem_cons,List.not_mem_nil,or_false] at hz; rcases hz with rfl|rfl; exact hqo; exact hlo) (by simp)) tw) (aF (a4 0 rfl rfl (by simp [ab.aM]) rfl)<|ar) rfl)<|RN hT28 [1,2,3,4,6,7,8,9] rfl rfl<|cf rfl fun T29 hT29=>AU rfl cv rfl<|RN hT29 [1,2,3,4,6,7,8,9] rfl rfl ?_
  refine fJ rfl<|KK hK25<|aE ?_
  refine hQ _ _ _ (bD (vs:=[(Value.agg (ab.cells (fZ (fZ (bS ts (min p.aj q.aj).toNat ((max p.aj q.aj)-(min p.aj q.aj)).toNat) q.dU) (gD p.dU))).toArray),(Value.int .i64 0)]) ⟨⟨_,rfl,.inl ⟨_,_,cB,cd (vs:=(ab.cells (fZ (fZ (bS ts (min p.aj q.aj).toNat ((max p.aj q.aj)-(min p.aj q.aj)).toNat) q.dU) (gD p.dU)))) 5 rfl rfl,rfl,rfl⟩⟩,rfl,trivial⟩ fun w hs=>eR ?_ hs)
  show (Value.tuple [(Value.agg (ab.cells (fZ (fZ (bS ts (min p.aj q.aj).toNat ((max p.aj q.aj)-(min p.aj q.aj)).toNat) q.dU) (gD p.dU))).toArray),(Value.int .i64 0)].toArray)=(Value.tuple [(Value.agg (ab.cells (dp ts p q)).toArray),(Value.int .i64 (eM ts p q))].toArray)
  clear hs w hQ hN hT29 T29 hT28 T28 hT26 T26 hK25 hK19 hK18 hK15 hK12 hK11 hK9 hK8 hK6 hK1
  first|(have e:=eW (a:=p) (b:=q) (gi he).1; rw [e.1,e.2,(gi he).2]<;>rfl)|(have e:=eY htr h26; rw [e.1,e.2]<;>rfl)|(have e:=cj htr ⟨hp,hq⟩; rw [e.1,e.2]; unfold e_ mz; rw [if_pos h47]<;>rfl)|(have e:=cj htr ⟨hp,hq⟩; rw [e.1,e.2]; unfold e_ mz; rw [if_neg h47]<;>rfl)
 replace h47:=DT h47
 refine aC<|rS (LW 1 rfl cB rfl rfl)<|rS (CL (uR (bS ts (min p.aj q.aj).toNat ((max p.aj q.aj)-(min p.aj q.aj)).toNat) (by first|assumption|omega|(simp; done)|(simp; omega))) (ar) rfl)<|oL rfl cv rfl<|RK hK18<|aw fun _ hK20=>dA ct [0,1,2,3,4,5,9] [6,7,8] [false,false,false,false,false,false,false] [false,false,false] [(aU b17 47 (ab.cells (du ts (min p.aj q.aj).toNat ((max p.aj q.aj)-(min p.aj q.aj)).toNat))),(aU b16 47 (ab.cells (gD (bS ts (min p.aj q.aj).toNat ((max p.aj q.aj)-(min p.aj q.aj)).toNat)))),(aU b13 99 ((br.cells p)++(br.cells q))),(aU b7 173 (bT.cells (bT.mk (ay.mk (aA.mk tsA ts.length tsC))))),(aU b4 99 (br.cells q)),(aU b3 99 (br.cells p)),(aU b2 24 (ay.cells (ay.mk (aA.mk tsA ts.length tsC)))),(rd tsA ts.length 9 (ts.map ah.cells)).ro] [] (by kernel_rfl) (fun w hs=>St.bB [0,1,2,3,5,6,7,8] rfl rfl hs) (fun w hs=>St.bB [] rfl rfl hs)<|eS rfl (LW 1 rfl cB rfl rfl)<|eS rfl (FA 1 rfl fc rfl)<|eS rfl (LP (ab.cells q.dU) 4 rfl cB rfl rfl rfl) ?_
 refine eS rfl (FA 1 rfl fc rfl)<|eS rfl (LP (ab.cells p.dU) 5 rfl cB rfl rfl rfl)<|eS rfl (CL (uR p.dU (by first|assumption|omega|(simp; done)|(simp; omega))) (ar) rfl)<|eS rfl (AG rfl)<|eJ rfl<|cf rfl fun T21 hT21=>dV (xs:=[.tmp 52,.tmp 55]) (cs:=((ab.cells q.dU)++(ab.cells (gD p.dU)))) rfl k8 dk rfl rfl rfl rfl (by simp [Value.cells,ab.aM]) rfl rfl fun b22=>RN hT21 [1,2,3,4,6,7,8,9] rfl rfl<|cf rfl fun T23 hT23=>rS (CL (dY.eq (lM (gD (bS ts (min p.aj q.aj).toNat ((max p.aj q.aj)-(min p.aj q.aj)).toNat)) ([q.dU,(gD p.dU)]) (some ⟨b22,0,none⟩) 2 (by first|exact hwy|exact sB hwy) (by intro z hz; simp only [List.mem_cons,List.not_mem_nil,or_false] at hz; rcases hz with rfl|rfl; exact hqo; exact hlo) (by simp)) tw) (aF (a4 0 rfl rfl (by simp [ab.aM]) rfl)<|ar) rfl) ?_
 refine RN hT23 [1,2,3,4,6,7,8,9] rfl rfl<|cf rfl fun T24 hT24=>AU rfl cv rfl<|RN hT24 [1,2,3,4,6,7,8,9] rfl rfl<|fJ rfl<|KK hK20<|aE ?_
 refine hQ _ _ _ (bD (vs:=[(Value.agg (ab.cells (fZ (fZ (gD (bS ts (min p.aj q.aj).toNat ((max p.aj q.aj)-(min p.aj q.aj)).toNat)) q.dU) (gD p.dU))).toArray),(Value.int .i64 0)]) ⟨⟨_,rfl,.inl ⟨_,_,cB,cd (vs:=(ab.cells (fZ (fZ (gD (bS ts (min p.aj q.aj).toNat ((max p.aj q.aj)-(min p.aj q.aj)).toNat)) q.dU) (gD p.dU)))) 5 rfl rfl,rfl,rfl⟩⟩,rfl,trivial⟩ fun w hs=>eR ?_ hs)
 show (Value.tuple [(Value.agg (ab.cells (fZ (fZ (gD (bS ts (min p.aj q.aj).toNat ((max p.aj q.aj)-(min p.aj q.aj)).toNat)) q.dU) (gD p.dU))).toArray),(Value.int .i64 0)].toArray)=(Value.tuple [(Value.agg (ab.cells (dp ts p q)).toArray),(Value.int .i64 (eM ts p q))].toArray)
 clear hs w hQ hN hT24 T24 hT23 T23 hT21 T21 hK20 hK19 hK18 hK15 hK12 hK11 hK9 hK8 hK6 hK1
 first|(have e:=eW (a:=p) (b:=q) (gi he).1; rw [e.1,e.2,(gi he).2]<;>rfl)|(have e:=eY htr h26; rw [e.1,e.2]<;>rfl)|(have e:=cj htr ⟨hp,hq⟩; rw [e.1,e.2]; unfold e_ mz; rw [if_pos h47]<;>rfl)|(have e:=cj htr ⟨hp,hq⟩; rw [e.1,e.2]; unfold e_ mz; rw [if_neg h47]<;>rfl)
set_option maxRecDepth 100000 in
set_option maxHeartbeats 400000 in
theorem mO (ts:List ah) (tsA:Option Addr) (tsC:Nat) (s:br) (hst: ∀ x∈ts,a5 x) (hlen:ts.length≤12):
 dY Tryz.prog 91 [(Value.agg (ay.cells (ay.mk (aA.mk tsA ts.length tsC))).toArray),(Value.agg (br.cells s).toArray)] [(rd tsA ts.length 9 (ts.map ah.cells))] (Value.bool (decide (dB ts s))):=by
 refine bG GQ Tryz.func91 rfl rfl fun w0 Q hQ hN=>?_
 try dsimp only
 refine WS fun _ hK1=>gv rfl fun b2=>gv rfl fun b3=>rS (AG rfl)<|RK hK1<|aw fun _ hK4=>dj ct 22 (by kernel_rfl)<|dS (FA 0 rfl fP rfl)<|dS (L1 (Value.int .i64 s.aj) 0 rfl bk rfl rfl)<|dS (FA 0 rfl hU rfl) ?_
 refine dS (L1 (Value.slice tsA ts.length tsC) 1 rfl nh rfl rfl)<|dS (LN rfl rj)<|dS (BI rfl (cr ⟨by omega,by omega⟩))<|dS (CL (kQ s.aj 0 (((ts.length:Nat):Int)-1)) (ar) rfl)<|dS (MV rfl) ?_
 refine db (t:=12) rfl (fun h12=>?_) (fun h12=>?_)
 rotate_left 1
 ·replace h12:=DF h12
  refine dS (OX rfl)<|dS (OX rfl)<|dS (OX rfl)<|dS (OX rfl)<|dS (OX rfl)<|dS (OX rfl)<|dS (OX rfl)<|dS (OX rfl)<|dS (OX rfl)<|dS (OX rfl) ?_
  refine dS (OX rfl)<|dS (OX rfl)<|dS (PK rfl)<|dS (AG rfl)<|cE<|RK hK4<|aE<|Q1 hQ rfl rfl rfl ?_
  first|(refine congrArg Value.bool ?_; rw [decide_eq_false (oa (by omega))])|exact congrArg Value.bool (decide_eq_decide.2 (oy (by omega) hx).symm)
 replace h12:=DT h12
 refine dS (FA 1 rfl fc rfl)<|dS (LP (ab.cells s.dU) 0 rfl cB rfl rfl rfl)<|dS (FA 0 rfl hU rfl)<|dS (L1 (Value.slice tsA ts.length tsC) 1 rfl nh rfl rfl)<|dS (FA 0 rfl fP rfl)<|dS (L1 (Value.int .i64 s.aj) 0 rfl bk rfl rfl) ?_
 obtain ⟨x,hx⟩: ∃ y_,ts[(s.aj).toNat]? =some y_:=⟨ts[(s.aj).toNat]'(by omega),List.getElem?_eq_getElem _⟩
 have hxm:(ts.map ah.cells)[(s.aj).toNat]? =some (ah.cells x):=by rw [List.getElem?_map,hx]; rfl
 refine dS (IA ((s.aj).toNat) rfl (aQ 2 rfl) ru (by decide) (by omega) (by omega))<|dS (qP ((((s.aj).toNat)*9)+1) rfl (aQ 2 rfl) (Nat.mul_pos (by omega) (by decide)) kq rfl) ?_
 have hxo:=(hst x (List.mem_of_getElem? hx)).2.1
 simp only [cG] at hxo
 refine dS (qP ((((s.aj).toNat)*9)+1) rfl (aQ 2 rfl) (Nat.mul_pos (by omega) (by decide)) bP rfl)<|dS (ir ((s.aj).toNat) 1 (Value.int .i64 x.g7.Lo) rfl bk (aQ 2 rfl) hxm rfl (by decide) rfl)<|dS (BI rfl (cr ⟨by omega,by omega⟩))<|dS (CL (lE s.dU 0 (x.g7.Lo-1)) (ar) rfl)<|dS (PK rfl)<|dS (AG rfl)<|cE<|RK hK4<|aE<|Q1 hQ rfl rfl rfl ?_
 first|(refine congrArg Value.bool ?_; rw [decide_eq_false (oa (by omega))])|exact congrArg Value.bool (decide_eq_decide.2 (oy (by omega) hx).symm)
set_option maxRecDepth 100000 in
set_option maxHeartbeats 400000 in
theorem ss (ts:List ah) (tsA:Option Addr) (tsC:Nat) (f:Int) (t:Int) (hst: ∀ x∈ts,a5 x) (hlen:ts.length≤12) (hf:0≤f∧f≤t∧t≤ts.length):
 dY Tryz.prog 137 [(Value.agg (ay.cells (ay.mk (aA.mk tsA ts.length tsC))).toArray),(Value.int .i64 f),(Value.int .i64 t)] [(rd tsA ts.length 9 (ts.map ah.cells))] (Value.tuple [(Value.agg (ab.cells (bS ts f.toNat (t-f).toNat)).toArray),(Value.agg (ab.cells (du ts f.toNat (t-f).toNat)).toArray)].toArray):=by
 refine bG DO Tryz.func137 rfl rfl fun w0 Q hQ hN=>?_
 try dsimp only
 refine WS fun _ hK1=>gv rfl fun b2=>AL rfl dk fun b3=>AL rfl dk fun b4=>RK hK1<|WS fun _ hK5=>AL rfl dk fun b6=>AL rfl dk fun b7=>RK hK5<|aw fun _ hK8=>?_
 refine WS fun _ hK9=>rS (MV rfl)<|rS (AG rfl)<|RK hK9<|aH ?_
 have hinit:(0≤(t-f).toNat):=by exact Nat.zero_le _
 have hb10:(Value.int .i64 (f+((0:Nat):Int)))=(Value.int .i64 f):=by exact congrArg (Value.int .i64) (by omega)
 refine cP (ι:={z:Nat // (z≤(t-f).toNat)}) (fun z=>[(1,(Value.int .i64 f)),(2,(Value.int .i64 t)),(3,(Value.pointer (some ⟨b2,0,none⟩))),(6,(Value.pointer (some ⟨b3,0,none⟩))),(7,(Value.pointer (some ⟨b4,0,none⟩))),(8,(Value.pointer (some ⟨b6,0,none⟩))),(9,(Value.pointer (some ⟨b7,0,none⟩))),(10,(Value.int .i64 (f+((z.1:Nat):Int))))]) (fun z=>[(aU b7 47 (ab.cells (du ts f.toNat z.1))),(aU b6 47 (ab.cells (bS ts f.toNat z.1))),(aU b4 47 (ab.cells (ab.mk 0 0))),(aU b3 47 (ab.cells (ab.mk 0 0))),(aU b2 24 (ay.cells (ay.mk (aA.mk tsA ts.length tsC)))),(rd tsA ts.length 9 (ts.map ah.cells)).ro]) (fun z=>(t-f).toNat-z.1) ⟨0,hinit⟩ (an.cons rfl<|an.cons rfl<|an.cons rfl<|an.cons rfl<|an.cons rfl<|an.cons rfl<|an.cons rfl<|a_ rfl hb10<|an.nil _) (fun w hs=>St.bB [0,1,2,3,4,5] rfl rfl hs) ?_
 clear hinit
 rintro ⟨k,hl3_0⟩ J11 hJ11
 try dsimp only
 refine aw fun _ hK12=>WS fun _ hK13=>rS (MV rfl)<|rS (MV rfl)<|rS (BI rfl cq)<|RK hK13 ?_
 refine bp rfl (fun h14=>?_) (fun h14=>?_)
 rotate_left 1
 ·replace h14:=DF h14
  refine bM<|ai<|ai<|aI<|KK hK8<|aw fun _ hK22=>dA ct [0,1] [2,3] [false,false] [false,false] [(aU b7 47 (ab.cells (du ts f.toNat k))),(aU b6 47 (ab.cells (bS ts f.toNat k))),(aU b2 24 (ay.cells (ay.mk (aA.mk tsA ts.length tsC)))),(rd tsA ts.length 9 (ts.map ah.cells)).ro] [] (by kernel_rfl) (fun w hs=>St.bB [0,1,4,5] rfl rfl hs) (fun w hs=>St.bB [] rfl rfl hs)<|eS rfl (LW 1 rfl cB rfl rfl)<|eS rfl (LW 0 rfl cB rfl rfl)<|eJ rfl ?_
  refine cf rfl fun T23 hT23=>By rfl cv rfl<|RN hT23 [0,1,4,5] rfl rfl<|cf rfl fun T24 hT24=>sL rfl cv rfl<|RN hT24 [0,1,4,5] rfl rfl<|fJ rfl<|KK hK22<|aE ?_
  refine hQ _ _ _ (bD (vs:=[(Value.agg (ab.cells (bS ts f.toNat k)).toArray),(Value.agg (ab.cells (du ts f.toNat k)).toArray)]) ⟨⟨_,rfl,.inl ⟨_,_,cB,cd (vs:=(ab.cells (bS ts f.toNat k))) 3 rfl rfl,rfl,rfl⟩⟩,⟨_,rfl,.inl ⟨_,_,cB,cd (vs:=(ab.cells (du ts f.toNat k))) 2 rfl rfl,rfl,rfl⟩⟩,trivial⟩ fun w hs=>eR ?_ hs)
  show (Value.tuple [(Value.agg (ab.cells (bS ts f.toNat k)).toArray),(Value.agg (ab.cells (du ts f.toNat k)).toArray)].toArray)=(Value.tuple [(Value.agg (ab.cells (bS ts f.toNat (t-f).toNat)).toArray),(Value.agg (ab.cells (du ts f.toNat (t-f).toNat)).toArray)].toArray)
  clear hs w hQ hN hT24 T24 hT23 T23 hK22 hK13 hK12 hK9 hK8 hK5 hK1
  obtain rfl:k=(t-f).toNat:=(by omega); rfl
 replace h14:=DT h14
 refine WK hK12<|aw fun _ hK15=>aH<|WS fun _ hK16=>rS (FA 0 rfl hU rfl)<|rS (L1 (Value.slice tsA ts.length tsC) 4 rfl nh rfl rfl)<|rS (MV rfl) ?_
 obtain ⟨x,hx⟩: ∃ y_,ts[(f.toNat+k)]? =some y_:=⟨ts[(f.toNat+k)]'(by omega),List.getElem?_eq_getElem _⟩
 have hxm:(ts.map ah.cells)[(f.toNat+k)]? =some (ah.cells x):=by rw [List.getElem?_map,hx]; rfl
 refine rS (IA (f.toNat+k) rfl (aQ 5 rfl) ru (by decide) (by omega) (by omega))<|rS (kE (f.toNat+k) 0 (ah.cells x) rfl v5 (aQ 5 rfl) hxm rfl (by decide) rfl rfl)<|AL rfl uq fun b17=>e7 rfl yh rfl<|RK hK16<|WS fun _ hK18=>?_
 have hxo:=hst x (List.mem_of_getElem? hx)
 have hlb:=jl hst f.toNat k
 have hfb:=vO hst f.toNat k
 have hx1:=hxo.2.1
 have hx2:=hxo.2.2.1
 simp only [cG] at hx1 hx2
 refine rS (FA 0 rfl bP rfl)<|rS (L1 (Value.int .i64 ((bS ts f.toNat k).Lo)) 2 rfl bk rfl rfl)<|rS (FA 1 rfl kq rfl)<|rS (FA 1 rfl bP rfl)<|rS (L1 (Value.int .i64 x.g7.Lo) 0 rfl bk rfl rfl)<|rS (BI rfl (a9 ⟨by omega,by omega⟩))<|rS (FA 1 rfl bZ rfl)<|rS (L1 (Value.int .i64 ((bS ts f.toNat k).Hi)) 2 rfl bk rfl rfl)<|rS (FA 1 rfl kq rfl)<|rS (FA 2 rfl bZ rfl) ?_
 refine rS (L1 (Value.int .i64 x.g7.Hi) 0 rfl bk rfl rfl)<|rS (BI rfl (a9 ⟨by omega,by omega⟩))<|rS (SX (aS (xs:=[(0,.tmp 28),(1,.tmp 34)]) (cs:=(ab.cells (ab.mk (((bS ts f.toNat k).Lo)+x.g7.Lo) (((bS ts f.toNat k).Hi)+x.g7.Hi)))) rfl rfl (aR fG rfl)) rfl rfl)<|sL rfl cv rfl<|RK hK18<|aC<|rS (FA 0 rfl bP rfl)<|rS (L1 (Value.int .i64 ((du ts f.toNat k).Lo)) 1 rfl bk rfl rfl)<|rS (FA 3 rfl mQ rfl)<|rS (FA 3 rfl bP rfl) ?_
 refine rS (L1 (Value.int .i64 x.iL.Lo) 0 rfl bk rfl rfl)<|rS (BI rfl (a9 ⟨by omega,by omega⟩))<|rS (FA 1 rfl bZ rfl)<|rS (L1 (Value.int .i64 ((du ts f.toNat k).Hi)) 1 rfl bk rfl rfl)<|rS (FA 3 rfl mQ rfl)<|rS (FA 4 rfl bZ rfl)<|rS (L1 (Value.int .i64 x.iL.Hi) 0 rfl bk rfl rfl)<|rS (BI rfl (a9 ⟨by omega,by omega⟩))<|rS (SX (aS (xs:=[(0,.tmp 41),(1,.tmp 47)]) (cs:=(ab.cells (ab.mk (((du ts f.toNat k).Lo)+x.iL.Lo) (((du ts f.toNat k).Hi)+x.iL.Hi)))) rfl rfl (aR fG rfl)) rfl rfl)<|oL rfl cv rfl ?_
 refine aX<|aL<|KK hK15 ?_
 have hb19:(ab.cells (ab.mk (((bS ts f.toNat k).Lo)+x.g7.Lo) (((bS ts f.toNat k).Hi)+x.g7.Hi)))=(ab.cells (bS ts f.toNat (k+1))):=by rw [lz hx]; rfl
 rw [hb19]
 have hb20:(ab.cells (ab.mk (((du ts f.toNat k).Lo)+x.iL.Lo) (((du ts f.toNat k).Hi)+x.iL.Hi)))=(ab.cells (du ts f.toNat (k+1))):=by rw [lH hx]; rfl
 rw [hb20]
 refine aC<|rS (MV rfl)<|rS (BI rfl (a9 ⟨by omega,by omega⟩))<|rS (AG rfl)<|aX ?_
 have hb21:(Value.int .i64 (f+(((k+1):Nat):Int)))=(Value.int .i64 ((f+((k:Nat):Int))+1)):=by exact congrArg (Value.int .i64) (by omega)
 refine aY (hJ11 ⟨(k+1),(by first|omega|(simp only []; omega))⟩ _ _ _ rfl (by first|omega|(simp; omega)) (an.cons rfl<|an.cons rfl<|an.cons rfl<|an.cons rfl<|an.cons rfl<|an.cons rfl<|an.cons rfl<|a_ rfl hb21<|an.nil _) (fun w hs=>St.bB [1,2,3,4,5,6] rfl rfl hs))
end
section
open Go.RowKit
set_option linter.unusedVariables false
set_option maxRecDepth 100000 in
set_option maxHeartbeats 400000 in
theorem CJ (l:aV) (kA:Option Addr) (kC:Nat) (az:List RA) (cA:Option Addr) (cC:Nat) (bA:Option Addr) (bC:Nat) (hin:dM l az):
 dY Tryz.prog 106 [(Value.agg (aG.cells (aG.mk (ay.mk (aA.mk kA l.au.length kC)) l.bJ (aA.mk cA l.ag.length cC) (aA.mk bA l.aa.length bC) l.aB l.aZ l.aO)).toArray)] [(rd kA l.au.length 9 (l.au.map ah.cells)),(rd cA l.ag.length 2 (List.zipWith ao.cells l.ag az)),(c_ (aP ao.eX l.ag az)),(rd bA l.aa.length 4 (l.aa.map aT.cells))] (Value.bool (decide (cU l))):=by
 have htk:=hin.o0
 have hck:=hin.oZ
 have has:=hin.oG
 have hbm:=hin.oI
 refine bG D7 Tryz.func106 rfl rfl fun w0 Q hQ hN=>?_
 try dsimp only
 refine WS fun _ hK1=>gv rfl fun b2=>rS (AG rfl)<|RK hK1<|WS fun _ hK3=>rS (FA 1 rfl qt rfl)<|rS (L1 (Value.int .i64 l.bJ) 0 rfl bk rfl rfl)<|dV (xs:=[.tmp 4]) (cs:=[(Value.int .i64 l.bJ)]) rfl di kb rfl rfl rfl rfl (by simp [Value.cells]) rfl rfl fun b4=>rS (CL (dY.eq (d_ 1 5000 ([l.bJ]) (some ⟨b4,0,none⟩) 1 (by first|assumption|omega|(simp; done)|(simp; omega))) cI) (aF (a4 0 rfl rfl (by simp [bO]) rfl)<|ar) rfl)<|rS (MV rfl) ?_
 refine bo (t:=7) rfl (fun h5=>?_) (fun h5=>?_)
 rotate_left 1
 ·replace h5:=DF h5
  refine rS (OX rfl)<|rS (OX rfl)<|rS (OX rfl)<|rS (OX rfl)<|rS (OX rfl)<|rS (PK rfl)<|rS (MV rfl)<|rS (OX rfl)<|rS (OX rfl)<|rS (OX rfl) ?_
  refine rS (OX rfl)<|rS (OX rfl)<|rS (PK rfl)<|rS (MV rfl)<|rS (OX rfl)<|rS (OX rfl)<|rS (OX rfl)<|rS (OX rfl)<|rS (OX rfl)<|rS (OX rfl) ?_
  refine rS (OX rfl)<|rS (OX rfl)<|rS (PK rfl)<|rS (MV rfl)<|rS (OX rfl)<|rS (OX rfl)<|rS (OX rfl)<|rS (OX rfl)<|rS (PK rfl)<|rS (MV rfl) ?_
  refine rS (OX rfl)<|rS (OX rfl)<|rS (OX rfl)<|rS (OX rfl)<|rS (PK rfl)<|rS (AG rfl)<|RK hK3<|aE<|Q1 hQ rfl rfl rfl ?_
  exact congrArg Value.bool (decide_eq_false (by unfold cU; omega)).symm
 replace h5:=DT h5
 refine rS (FA 2 rfl iY rfl)<|rS (L1 (Value.slice cA l.ag.length cC) 1 rfl oP rfl rfl)<|rS (LN rfl rm)<|dV (xs:=[.tmp 10]) (cs:=[(Value.int .i64 ((l.ag.length:Nat):Int))]) rfl di kb rfl rfl rfl rfl (by simp [Value.cells]) rfl rfl fun b6=>rS (CL (dY.eq (d_ 1 4 ([((l.ag.length:Nat):Int)]) (some ⟨b6,0,none⟩) 1 (by first|assumption|omega|(simp; done)|(simp; omega))) cI) (aF (a4 0 rfl rfl (by simp [bO]) rfl)<|ar) rfl)<|rS (PK rfl)<|rS (MV rfl) ?_
 refine bo (t:=14) rfl (fun h7=>?_) (fun h7=>?_)
 rotate_left 1
 ·replace h7:=DF h7
  refine rS (OX rfl)<|rS (OX rfl)<|rS (OX rfl)<|rS (OX rfl)<|rS (OX rfl)<|rS (PK rfl)<|rS (MV rfl)<|rS (OX rfl)<|rS (OX rfl)<|rS (OX rfl) ?_
  refine rS (OX rfl)<|rS (OX rfl)<|rS (OX rfl)<|rS (OX rfl)<|rS (OX rfl)<|rS (PK rfl)<|rS (MV rfl)<|rS (OX rfl)<|rS (OX rfl)<|rS (OX rfl) ?_
  refine rS (OX rfl)<|rS (PK rfl)<|rS (MV rfl)<|rS (OX rfl)<|rS (OX rfl)<|rS (OX rfl)<|rS (OX rfl)<|rS (PK rfl)<|rS (AG rfl)<|RK hK3 ?_
  refine aE<|Q1 hQ rfl rfl rfl ?_
  exact congrArg Value.bool (decide_eq_false (by unfold cU; omega)).symm
 replace h7:=DT h7
 refine rS (FA 3 rfl dQ rfl)<|rS (L1 (Value.slice bA l.aa.length bC) 2 rfl hP rfl rfl)<|rS (LN rfl jz)<|dV (xs:=[.tmp 17]) (cs:=[(Value.int .i64 ((l.aa.length:Nat):Int))]) rfl di kb rfl rfl rfl rfl (by simp [Value.cells]) rfl rfl fun b8=>rS (CL (dY.eq (d_ 1 6 ([((l.aa.length:Nat):Int)]) (some ⟨b8,0,none⟩) 1 (by first|assumption|omega|(simp; done)|(simp; omega))) cI) (aF (a4 0 rfl rfl (by simp [bO]) rfl)<|ar) rfl)<|rS (PK rfl)<|rS (MV rfl) ?_
 refine bo (t:=21) rfl (fun h9=>?_) (fun h9=>?_)
 rotate_left 1
 ·replace h9:=DF h9
  refine rS (OX rfl)<|rS (OX rfl)<|rS (OX rfl)<|rS (OX rfl)<|rS (OX rfl)<|rS (OX rfl)<|rS (OX rfl)<|rS (OX rfl)<|rS (PK rfl)<|rS (MV rfl) ?_
  refine rS (OX rfl)<|rS (OX rfl)<|rS (OX rfl)<|rS (OX rfl)<|rS (PK rfl)<|rS (MV rfl)<|rS (OX rfl)<|rS (OX rfl)<|rS (OX rfl)<|rS (OX rfl) ?_
  refine rS (PK rfl)<|rS (AG rfl)<|RK hK3<|aE<|Q1 hQ rfl rfl rfl ?_
  exact congrArg Value.bool (decide_eq_false (by unfold cU; omega)).symm
 replace h9:=DT h9
 refine rS (FA 3 rfl dQ rfl)<|rS (L1 (Value.slice bA l.aa.length bC) 3 rfl hP rfl rfl)<|rS (LN rfl jz)<|rS (BI rfl (cr ⟨by omega,by omega⟩))<|rS (FA 4 rfl fV rfl)<|rS (L1 (Value.int .i64 l.aB) 3 rfl bk rfl rfl)<|dV (xs:=[.tmp 27]) (cs:=[(Value.int .i64 l.aB)]) rfl di kb rfl rfl rfl rfl (by simp [Value.cells]) rfl rfl fun b10=>rS (CL (dY.eq (d_ 0 (((l.aa.length:Nat):Int)-1) ([l.aB]) (some ⟨b10,0,none⟩) 1 (by first|assumption|omega|(simp; done)|(simp; omega))) cI) (aF (a4 0 rfl rfl (by simp [bO]) rfl)<|ar) rfl)<|rS (PK rfl)<|rS (MV rfl) ?_
 refine bo (t:=31) rfl (fun h11=>?_) (fun h11=>?_)
 rotate_left 1
 ·replace h11:=DF h11
  refine rS (OX rfl)<|rS (OX rfl)<|rS (OX rfl)<|rS (OX rfl)<|rS (PK rfl)<|rS (MV rfl)<|rS (OX rfl)<|rS (OX rfl)<|rS (OX rfl)<|rS (OX rfl) ?_
  refine rS (PK rfl)<|rS (AG rfl)<|RK hK3<|aE<|Q1 hQ rfl rfl rfl ?_
  exact congrArg Value.bool (decide_eq_false (by unfold cU; omega)).symm
 replace h11:=DT h11
 refine rS (FA 5 rfl sx rfl)<|rS (L1 (Value.int .i64 l.aZ) 4 rfl bk rfl rfl)<|dV (xs:=[.tmp 33]) (cs:=[(Value.int .i64 l.aZ)]) rfl di kb rfl rfl rfl rfl (by simp [Value.cells]) rfl rfl fun b12=>rS (CL (dY.eq (d_ 0 3 ([l.aZ]) (some ⟨b12,0,none⟩) 1 (by first|assumption|omega|(simp; done)|(simp; omega))) cI) (aF (a4 0 rfl rfl (by simp [bO]) rfl)<|ar) rfl)<|rS (PK rfl)<|rS (MV rfl) ?_
 refine bo (t:=37) rfl (fun h13=>?_) (fun h13=>?_)
 rotate_left 1
 ·replace h13:=DF h13
  refine rS (OX rfl)<|rS (OX rfl)<|rS (OX rfl)<|rS (OX rfl)<|rS (PK rfl)<|rS (AG rfl)<|RK hK3<|aE<|Q1 hQ rfl rfl rfl ?_
  exact congrArg Value.bool (decide_eq_false (by unfold cU; omega)).symm
 replace h13:=DT h13
 refine rS (FA 6 rfl sk rfl)<|rS (L1 (Value.int .i64 l.aO) 5 rfl bk rfl rfl)<|dV (xs:=[.tmp 39]) (cs:=[(Value.int .i64 l.aO)]) rfl di kb rfl rfl rfl rfl (by simp [Value.cells]) rfl rfl fun b14=>rS (CL (dY.eq (d_ 0 3 ([l.aO]) (some ⟨b14,0,none⟩) 1 (by first|assumption|omega|(simp; done)|(simp; omega))) cI) (aF (a4 0 rfl rfl (by simp [bO]) rfl)<|ar) rfl)<|rS (PK rfl)<|rS (AG rfl)<|RK hK3<|aE<|Q1 hQ rfl rfl rfl ?_
 exact congrArg Value.bool (decide_eq_decide.2 (by unfold cU; omega))
set_option maxRecDepth 100000 in
set_option maxHeartbeats 400000 in
theorem Cu (l:aV) (kA:Option Addr) (kC:Nat) (az:List RA) (cA:Option Addr) (cC:Nat) (bA:Option Addr) (bC:Nat) (hin:dM l az):
 dY Tryz.prog 107 [(Value.agg (aG.cells (aG.mk (ay.mk (aA.mk kA l.au.length kC)) l.bJ (aA.mk cA l.ag.length cC) (aA.mk bA l.aa.length bC) l.aB l.aZ l.aO)).toArray)] [(rd kA l.au.length 9 (l.au.map ah.cells)),(rd cA l.ag.length 2 (List.zipWith ao.cells l.ag az)),(c_ (aP ao.eX l.ag az)),(rd bA l.aa.length 4 (l.aa.map aT.cells))] (Value.bool (decide (∀ c∈l.ag,dv c))):=by
 have htk:=hin.o0
 have hck:=hin.oZ
 have has:=hin.oG
 have hbm:=hin.oI
 refine bG Dt Tryz.func107 rfl rfl fun w0 Q hQ hN=>?_
 try dsimp only
 refine WS fun _ hK1=>gv rfl fun b2=>rS (AG rfl)<|RK hK1<|WS fun _ hK3=>rS (FA 2 rfl iY rfl)<|rS (L1 (Value.slice cA l.ag.length cC) 0 rfl oP rfl rfl)<|rS (CL (si l.ag az cA cC (Value.func (.func 109) [].toArray [].toArray) (fun m=>(!(decide (dv m)))) (c_ (aP ao.eX l.ag az)) (by intro k_ m a hm_ ha_; exact mg (fi:=[]) (ca:=[]) (Er l.ag az k_ m a (by exact hm_) (by exact ha_) (by exact hin.EM _ _ _ hm_ ha_))) (by first|assumption|omega|(simp; done)|(simp; omega)) (by first|assumption|omega|(simp; done)|(simp; omega))) (EJ 2 3 3 rfl rfl rfl rfl rfl rfl) rfl)<|rS (NT rfl)<|rS (AG rfl) ?_
 refine RK hK3<|aE<|Q1 hQ rfl rfl rfl ?_
 exact congrArg Value.bool (by rw [Bool.eq_iff_iff,decide_eq_true_eq]; exact uV)
set_option maxRecDepth 100000 in
set_option maxHeartbeats 400000 in
theorem Co (b:aT) (l:aV) (kA:Option Addr) (kC:Nat) (az:List RA) (cA:Option Addr) (cC:Nat) (bA:Option Addr) (bC:Nat) (g1:Nat) (hin:dM l az) (htr:bY l.au=true):
 dY Tryz.prog 113 [(Value.agg (aT.cells b).toArray),(Value.pointer (some ⟨g1,0,none⟩))] [(rd kA l.au.length 9 (l.au.map ah.cells)),(rd cA l.ag.length 2 (List.zipWith ao.cells l.ag az)),(c_ (aP ao.eX l.ag az)),(rd bA l.aa.length 4 (l.aa.map aT.cells)),(aU g1 28 (aG.cells (aG.mk (ay.mk (aA.mk kA l.au.length kC)) l.bJ (aA.mk cA l.ag.length cC) (aA.mk bA l.aa.length bC) l.aB l.aZ l.aO)))] (Value.bool (!(decide (gO l b)))):=by
 have htk:=hin.o0
 have hck:=hin.oZ
 have has:=hin.oG
 have hbm:=hin.oI
 have hsd:=hin.side
 refine bG DE Tryz.func113 rfl rfl fun w0 Q hQ hN=>?_
 try dsimp only
 refine WS fun _ hK1=>gv rfl fun b2=>rS (AG rfl)<|RK hK1<|WS fun _ hK3=>rS (FA 0 rfl lF rfl)<|rS (G_ (ay.cells (ay.mk (aA.mk kA l.au.length kC))) 5 rfl jx rfl rfl rfl)<|rS (FA 0 rfl lD rfl)<|rS (LP (br.cells b.ic) 0 rfl ki rfl rfl rfl)<|rS (CL (Eh l.au kA kC b.ic (by first|assumption|omega|(simp; done)|(simp; omega)) (by first|assumption|omega|(simp; done)|(simp; omega))) (ax 1 rfl rfl<|ar) rfl) ?_
 refine rS (MV rfl)<|rS (EX rfl)<|rS (EX rfl)<|AL rfl dk fun b4=>e7 rfl cv rfl<|rS (AG rfl)<|RK hK3<|WS fun _ hK5=>rS (MV rfl)<|rS (BI rfl eB) ?_
 refine rS (MV rfl) ?_
 refine bo (t:=16) rfl (fun h16=>?_) (fun h16=>?_)
 ·replace h16:=XT h16
  refine rS (OX rfl)<|rS (OX rfl)<|rS (OX rfl)<|rS (OX rfl)<|rS (OX rfl)<|rS (OX rfl)<|rS (OX rfl)<|rS (OX rfl)<|rS (OX rfl)<|rS (PK rfl) ?_
  refine rS (AG rfl)<|RK hK5<|aE<|Q1 hQ rfl rfl rfl ?_
  first|(refine congrArg Value.bool ?_; rw [decide_eq_false (fun h:gO l b=>h16 ((p8 htr).2 h.1))]; rfl)|(refine congrArg Value.bool ?_; refine congrArg Bool.not (decide_eq_decide.2 ⟨fun h=>⟨(p8 htr).1 h16,by omega,by omega⟩,fun h=>by have:=h.2; omega⟩))
 replace h16:=XF h16
 refine rS (FA 2 rfl iY rfl)<|rS (l9 (Value.slice cA l.ag.length cC) 6 rfl oP rfl rfl)<|rS (LN rfl rm)<|rS (BI rfl (cr ⟨by omega,by omega⟩))<|rS (FA 3 rfl p5 rfl)<|rS (L1 (Value.int .i64 b.cO) 1 rfl bk rfl rfl)<|dV (xs:=[.tmp 22]) (cs:=[(Value.int .i64 b.cO)]) rfl di kb rfl rfl rfl rfl (by simp [Value.cells]) rfl rfl fun b6=>rS (CL (dY.eq (d_ 0 (((l.ag.length:Nat):Int)-1) ([b.cO]) (some ⟨b6,0,none⟩) 1 (by first|assumption|omega|(simp; done)|(simp; omega))) cI) (aF (a4 0 rfl rfl (by simp [bO]) rfl)<|ar) rfl)<|rS (NT rfl)<|rS (PK rfl) ?_
 refine rS (AG rfl)<|RK hK5<|aE<|Q1 hQ rfl rfl rfl ?_
 first|(refine congrArg Value.bool ?_; rw [decide_eq_false (fun h:gO l b=>h16 ((p8 htr).2 h.1))]; rfl)|(refine congrArg Value.bool ?_; refine congrArg Bool.not (decide_eq_decide.2 ⟨fun h=>⟨(p8 htr).1 h16,by omega,by omega⟩,fun h=>by have:=h.2; omega⟩))
set_option maxRecDepth 100000 in
set_option maxHeartbeats 400000 in
theorem B7 (l:aV) (kA:Option Addr) (kC:Nat) (az:List RA) (cA:Option Addr) (cC:Nat) (bA:Option Addr) (bC:Nat) (hin:dM l az) (htr:bY l.au=true):
 dY Tryz.prog 111 [(Value.agg (aG.cells (aG.mk (ay.mk (aA.mk kA l.au.length kC)) l.bJ (aA.mk cA l.ag.length cC) (aA.mk bA l.aa.length bC) l.aB l.aZ l.aO)).toArray)] [(rd kA l.au.length 9 (l.au.map ah.cells)),(rd cA l.ag.length 2 (List.zipWith ao.cells l.ag az)),(c_ (aP ao.eX l.ag az)),(rd bA l.aa.length 4 (l.aa.map aT.cells))] (Value.bool (decide (∀ b∈l.aa,gO l b))):=by
 have htk:=hin.o0
 have hck:=hin.oZ
 have has:=hin.oG
 have hbm:=hin.oI
 refine bG Ez Tryz.func111 rfl rfl fun w0 Q hQ hN=>?_
 try dsimp only
 refine WS fun _ hK1=>gv rfl fun b2=>rS (AG rfl)<|RK hK1<|WS fun _ hK3=>rS (FA 3 rfl dQ rfl)<|rS (L1 (Value.slice bA l.aa.length bC) 0 rfl hP rfl rfl)<|rS (FU rfl)<|rS (CL (su l.aa bA bC (Value.func (.func 113) [].toArray [(Value.pointer (some ⟨b2,0,none⟩))].toArray) (fun u4=>(!(decide (gO l u4)))) (c_ [(rd kA l.au.length 9 (l.au.map ah.cells)),(rd cA l.ag.length 2 (List.zipWith ao.cells l.ag az)),(c_ (aP ao.eX l.ag az)),(rd bA l.aa.length 4 (l.aa.map aT.cells)),(aU b2 28 (aG.cells (aG.mk (ay.mk (aA.mk kA l.au.length kC)) l.bJ (aA.mk cA l.ag.length cC) (aA.mk bA l.aa.length bC) l.aB l.aZ l.aO)))]) (by intro u4 _; exact mg (fi:=[]) (ca:=[(Value.pointer (some ⟨b2,0,none⟩))]) (lk (Co u4 l kA kC az cA cC bA bC b2 (by first|assumption|omega) (by first|assumption|omega)) (ax 0 rfl rfl<|ax 1 rfl rfl<|ax 2 rfl rfl<|ax 3 rfl rfl<|ax 4 rfl rfl<|ar))) (by first|assumption|omega|(simp; done)|(simp; omega))) (ax 4 rfl rfl<|aF (lN (ax 1 rfl rfl<|ax 2 rfl rfl<|ax 3 rfl rfl<|ax 4 rfl rfl<|ax 0 rfl rfl<|ar))<|ar) rfl)<|rS (NT rfl) ?_
 refine rS (AG rfl)<|RK hK3<|aE<|Q1 hQ rfl rfl rfl ?_
 exact congrArg Value.bool (by rw [Bool.eq_iff_iff,decide_eq_true_eq]; exact xw)
set_option maxRecDepth 100000 in
set_option maxHeartbeats 400000 in
theorem vy (l:aV) (kA:Option Addr) (kC:Nat) (az:List RA) (cA:Option Addr) (cC:Nat) (bA:Option Addr) (bC:Nat) (n:Int) (hin:dM l az) (htr:bY l.au=true) (hbk: ∀ b∈l.aa,gO l b) (hn:0≤n∧n<(l.aa.length:Int)):
 dY Tryz.prog 59 [(Value.agg (aG.cells (aG.mk (ay.mk (aA.mk kA l.au.length kC)) l.bJ (aA.mk cA l.ag.length cC) (aA.mk bA l.aa.length bC) l.aB l.aZ l.aO)).toArray),(Value.int .i64 n)] [(rd kA l.au.length 9 (l.au.map ah.cells)),(rd cA l.ag.length 2 (List.zipWith ao.cells l.ag az)),(c_ (aP ao.eX l.ag az)),(rd bA l.aa.length 4 (l.aa.map aT.cells))] (Value.int .i64 (iw l n.toNat)):=by
 have htk:=hin.o0
 have hck:=hin.oZ
 have has:=hin.oG
 have hbm:=hin.oI
 have hsd:=hin.side
 refine bG Gl Tryz.func59 rfl rfl fun w0 Q hQ hN=>?_
 try dsimp only
 refine WS fun _ hK1=>gv rfl fun b2=>rS (AG rfl)<|RK hK1<|WS fun _ hK3=>rS (FA 3 rfl dQ rfl)<|rS (L1 (Value.slice bA l.aa.length bC) 0 rfl hP rfl rfl)<|rS (MV rfl) ?_
 obtain ⟨x,hx⟩: ∃ y_,l.aa[(n).toNat]? =some y_:=⟨l.aa[(n).toNat]'(by omega),List.getElem?_eq_getElem _⟩
 have hxm:(l.aa.map aT.cells)[(n).toNat]? =some (aT.cells x):=by rw [List.getElem?_map,hx]; rfl
 refine rS (IA ((n).toNat) rfl (aQ 4 rfl) pL (by decide) (by omega) (by omega))<|rS (qP (((n).toNat)*4) rfl (aQ 4 rfl) (Nat.mul_pos (by omega) (by decide)) lD rfl)<|rS (kE ((n).toNat) 0 (br.cells x.ic) rfl ki (aQ 4 rfl) hxm rfl (by decide) rfl rfl)<|AL rfl Ax fun b4=>e7 rfl DX rfl<|RK hK3<|WS fun _ hK5=>rS (FA 0 rfl lF rfl)<|rS (LP (ay.cells (ay.mk (aA.mk kA l.au.length kC))) 1 rfl jx rfl rfl rfl)<|rS (LW 0 rfl ki rfl rfl) ?_
 refine rS (CL (Eh l.au kA kC x.ic (by first|assumption|omega|(simp; done)|(simp; omega)) (by first|assumption|omega|(simp; done)|(simp; omega))) (ax 2 rfl rfl<|ar) rfl)<|rS (MV rfl)<|rS (EX rfl)<|rS (EX rfl)<|AL rfl dk fun b6=>e7 rfl cv rfl<|rS (AG rfl)<|RK hK5<|aw fun _ hK7=>WS fun _ hK8=>?_
 refine rS (MV rfl)<|rS (BI rfl eL)<|RK hK8 ?_
 refine bp rfl (fun h22=>?_) (fun h22=>?_)
 rotate_left 1
 ·replace h22:=DF h22
  refine WK hK7<|WS fun _ hK11=>rS (FA 0 rfl bP rfl)<|rS (L1 (Value.int .i64 ((s_ l.au x.ic).Lo)) 0 rfl bk rfl rfl)<|rS (AG rfl)<|RK hK11<|aE<|Q1 hQ rfl rfl rfl ?_
  first|(refine congrArg (Value.int .i64) ?_; rw [n_ (by omega) hx (by rw [show n.toNat-1=(n-1).toNat by omega]; exact hy),(cj htr ⟨(hbk _ (List.mem_of_getElem? hy)).1,(hbk _ (List.mem_of_getElem? hx)).1⟩).2])|(refine congrArg (Value.int .i64) ?_; rw [show n.toNat=0 by omega] at hx ⊢; rw [mY hx,(kS htr (hbk _ (List.mem_of_getElem? hx)).1).2])
 replace h22:=DT h22
 refine dA ct [0,1,2,3,4,5,6,7,8,9,10,11,12,13] [14] [false,false,false,false,false,false,false,false,false,false,false,false,false,false] [false] [(aU b4 99 (br.cells x.ic)),(aU b2 28 (aG.cells (aG.mk (ay.mk (aA.mk kA l.au.length kC)) l.bJ (aA.mk cA l.ag.length cC) (aA.mk bA l.aa.length bC) l.aB l.aZ l.aO))),(rd kA l.au.length 9 (l.au.map ah.cells)).ro,(rd cA l.ag.length 2 (List.zipWith ao.cells l.ag az)).ro,(c_ (aP ao.eX l.ag az)).ro,(rd bA l.aa.length 4 (l.aa.map aT.cells)).ro] [] (by kernel_rfl) (fun w hs=>St.bB [1,2,3,4,5,6] rfl rfl hs) (fun w hs=>St.bB [] rfl rfl hs)<|eS rfl (FA 0 rfl lF rfl)<|eS rfl (LP (ay.cells (ay.mk (aA.mk kA l.au.length kC))) 1 rfl jx rfl rfl rfl)<|eS rfl (FA 3 rfl dQ rfl)<|eS rfl (L1 (Value.slice bA l.aa.length bC) 1 rfl hP rfl rfl)<|eS rfl (MV rfl)<|eS rfl (BI rfl (cr ⟨by omega,by omega⟩)) ?_
 obtain ⟨y,hy⟩: ∃ y_,l.aa[((n-1)).toNat]? =some y_:=⟨l.aa[((n-1)).toNat]'(by omega),List.getElem?_eq_getElem _⟩
 have hym:(l.aa.map aT.cells)[((n-1)).toNat]? =some (aT.cells y):=by rw [List.getElem?_map,hy]; rfl
 refine eS rfl (IA (((n-1)).toNat) rfl (aQ 5 rfl) pL (by decide) (by omega) (by omega))<|eS rfl (qP ((((n-1)).toNat)*4) rfl (aQ 5 rfl) (Nat.mul_pos (by omega) (by decide)) lD rfl)<|eS rfl (kE (((n-1)).toNat) 0 (br.cells y.ic) rfl ki (aQ 5 rfl) hym rfl (by decide) rfl rfl)<|eS rfl (LW 0 rfl ki rfl rfl)<|eS rfl (CL (AE l.au kA kC y.ic x.ic (by first|assumption|omega|(simp; done)|(simp; omega)) (by first|assumption|omega|(simp; done)|(simp; omega))) (ax 2 rfl rfl<|ar) rfl)<|eS rfl (MV rfl)<|eS rfl (EX rfl)<|eS rfl (EX rfl)<|eJ rfl<|cf rfl fun T9 hT9=>?_
 refine e7 rfl cv rfl<|RN hT9 [1,2,3,4,5,6] rfl rfl<|fJ rfl<|KK hK7<|WS fun _ hK10=>rS (FA 0 rfl bP rfl)<|rS (L1 (Value.int .i64 ((dp l.au y.ic x.ic).Lo)) 0 rfl bk rfl rfl)<|rS (AG rfl)<|RK hK10<|aE ?_
 refine Q1 hQ rfl rfl rfl ?_
 first|(refine congrArg (Value.int .i64) ?_; rw [n_ (by omega) hx (by rw [show n.toNat-1=(n-1).toNat by omega]; exact hy),(cj htr ⟨(hbk _ (List.mem_of_getElem? hy)).1,(hbk _ (List.mem_of_getElem? hx)).1⟩).2])|(refine congrArg (Value.int .i64) ?_; rw [show n.toNat=0 by omega] at hx ⊢; rw [mY hx,(kS htr (hbk _ (List.mem_of_getElem? hx)).1).2])
set_option maxRecDepth 100000 in
set_option maxHeartbeats 400000 in
theorem BL (l:aV) (kA:Option Addr) (kC:Nat) (az:List RA) (cA:Option Addr) (cC:Nat) (bA:Option Addr) (bC:Nat) (hin:dM l az) (htr:bY l.au=true) (hbk: ∀ b∈l.aa,gO l b):
 dY Tryz.prog 114 [(Value.agg (aG.cells (aG.mk (ay.mk (aA.mk kA l.au.length kC)) l.bJ (aA.mk cA l.ag.length cC) (aA.mk bA l.aa.length bC) l.aB l.aZ l.aO)).toArray)] [(rd kA l.au.length 9 (l.au.map ah.cells)),(rd cA l.ag.length 2 (List.zipWith ao.cells l.ag az)),(c_ (aP ao.eX l.ag az)),(rd bA l.aa.length 4 (l.aa.map aT.cells))] (Value.bool (decide (∀ i,i<l.aa.length→1≤iw l i))):=by
 have htk:=hin.o0
 have hck:=hin.oZ
 have has:=hin.oG
 have hbm:=hin.oI
 refine bG Dy Tryz.func114 rfl rfl fun w0 Q hQ hN=>?_
 try dsimp only
 refine WS fun _ hK1=>gv rfl fun b2=>rS (AG rfl)<|RK hK1<|aw fun _ hK3=>WS fun _ hK4=>rS (FA 3 rfl dQ rfl)<|rS (L1 (Value.slice bA l.aa.length bC) 0 rfl hP rfl rfl)<|rS (LN rfl jz)<|rS (MV rfl) ?_
 refine RK hK4<|aH ?_
 have hinit:(0≤l.aa.length)∧(∀ j,j<0→1≤iw l j):=by exact ⟨Nat.zero_le _,fun j hj=>absurd hj (Nat.not_lt_zero _)⟩
 refine cP (ι:={z:Nat // (z≤l.aa.length)∧(∀ j,j<z→1≤iw l j)}) (fun z=>[(1,(Value.pointer (some ⟨b2,0,none⟩))),(6,(Value.int .i64 ((l.aa.length:Nat):Int))),(7,(Value.int .i64 ((z.1:Nat):Int)))]) (fun z=>[(aU b2 28 (aG.cells (aG.mk (ay.mk (aA.mk kA l.au.length kC)) l.bJ (aA.mk cA l.ag.length cC) (aA.mk bA l.aa.length bC) l.aB l.aZ l.aO))),(rd kA l.au.length 9 (l.au.map ah.cells)).ro,(rd cA l.ag.length 2 (List.zipWith ao.cells l.ag az)).ro,(c_ (aP ao.eX l.ag az)).ro,(rd bA l.aa.length 4 (l.aa.map aT.cells)).ro]) (fun z=>l.aa.length-z.1) ⟨0,hinit⟩ (an.cons rfl<|an.cons rfl<|an.cons rfl<|an.nil _) (fun w hs=>St.bB [0,1,2,3,4] rfl rfl hs) ?_
 clear hinit
 rintro ⟨i,⟨hl0_0,hl0_1⟩⟩ J5 hJ5
 try dsimp only
 refine WS fun _ hK6=>rS (BI rfl cq)<|RK hK6<|aw fun _ hK7=>?_
 refine bp rfl (fun h8=>?_) (fun h8=>?_)
 rotate_left 1
 ·replace h8:=DF h8
  refine bM<|ai<|ai<|aI<|KK hK3<|WS fun _ hK14=>rS (AG rfl)<|RK hK14<|aE<|Q1 hQ rfl rfl rfl ?_
  first|exact congrArg Value.bool (decide_eq_false (fun h=>by have:=h i (by omega); simp only [Int.toNat_natCast] at h13; omega)).symm|exact congrArg Value.bool (decide_eq_true (fun j hj=>hl0_1 j (by omega))).symm
 replace h8:=DT h8
 refine WK hK7<|aw fun _ hK9=>aH<|WS fun _ hK10=>rS (MV rfl)<|rS (AG rfl)<|RK hK10<|WS fun _ hK11=>rS (LW 0 rfl eP rfl rfl)<|rS (MV rfl) ?_
 refine rS (CL (vy l kA kC az cA cC bA bC ((i:Nat):Int) hin htr hbk (by first|assumption|omega|(simp; done)|(simp; omega))) (ax 1 rfl rfl<|ax 2 rfl rfl<|ax 3 rfl rfl<|ax 4 rfl rfl<|ar) rfl)<|rS (BI rfl cq)<|RK hK11 ?_
 refine bp rfl (fun h13=>?_) (fun h13=>?_)
 ·replace h13:=DT h13
  refine WS fun _ hK12=>rS (AG rfl)<|RK hK12<|aE<|Q1 hQ rfl rfl rfl ?_
  first|exact congrArg Value.bool (decide_eq_false (fun h=>by have:=h i (by omega); simp only [Int.toNat_natCast] at h13; omega)).symm|exact congrArg Value.bool (decide_eq_true (fun j hj=>hl0_1 j (by omega))).symm
 replace h13:=DF h13
 refine cH<|aL<|KK hK9<|aC<|rS (BI rfl (a9 ⟨by omega,by omega⟩))<|rS (MV rfl)<|aX ?_
 have hb13:(Value.int .i64 (((i+1):Nat):Int))=(Value.int .i64 (((i:Nat):Int)+1)):=by exact congrArg (Value.int .i64) (by omega)
 refine aY (hJ5 ⟨(i+1),⟨by omega,fun j hj=>by rcases Nat.lt_or_ge j i with q|q; exact hl0_1 j q; (obtain rfl:j=i:=by omega); simp only [Int.toNat_natCast] at h13; omega⟩⟩ _ _ _ rfl (by first|omega|(simp; omega)) (an.cons rfl<|an.cons rfl<|a_ rfl hb13<|an.nil _) (fun w hs=>St.bB [0,1,2,3,4] rfl rfl hs))
end
section
open Go.RowKit
set_option linter.unusedVariables false
set_option maxRecDepth 100000 in
set_option maxHeartbeats 400000 in
theorem BR:
 dY Tryz.prog 77 [] [] (Value.agg ((cK.cells (cK.mk (Value.func (.func 106) [].toArray [].toArray)))++(cK.cells (cK.mk (Value.func (.func 107) [].toArray [].toArray)))++(cK.cells (cK.mk (Value.func (.func 111) [].toArray [].toArray)))++(cK.cells (cK.mk (Value.func (.func 114) [].toArray [].toArray)))).toArray):=by
 refine bG Fm Tryz.func77 rfl rfl fun w0 Q hQ hN=>?_
 try dsimp only
 refine WS fun _ hK1=>AL rfl DN fun b2=>RK hK1<|WS fun _ hK3=>rS (SX (aS (xs:=[(0,.func 106)]) (cs:=(cK.cells (cK.mk (Value.func (.func 106) [].toArray [].toArray)))) rfl rfl (aR vA rfl)) rfl rfl)<|rS (SX (aS (xs:=[(0,.func 107)]) (cs:=(cK.cells (cK.mk (Value.func (.func 107) [].toArray [].toArray)))) rfl rfl (aR vA rfl)) rfl rfl)<|rS (SX (aS (xs:=[(0,.func 111)]) (cs:=(cK.cells (cK.mk (Value.func (.func 111) [].toArray [].toArray)))) rfl rfl (aR vA rfl)) rfl rfl)<|rS (SX (aS (xs:=[(0,.func 114)]) (cs:=(cK.cells (cK.mk (Value.func (.func 114) [].toArray [].toArray)))) rfl rfl (aR vA rfl)) rfl rfl)<|rS (SX (aS (xs:=[(0,.tmp 1),(1,.tmp 2),(2,.tmp 3),(3,.tmp 4)]) (cs:=((cK.cells (cK.mk (Value.func (.func 106) [].toArray [].toArray)))++(cK.cells (cK.mk (Value.func (.func 107) [].toArray [].toArray)))++(cK.cells (cK.mk (Value.func (.func 111) [].toArray [].toArray)))++(cK.cells (cK.mk (Value.func (.func 114) [].toArray [].toArray))))) rfl rfl (aR Ey rfl)) rfl rfl)<|e7 rfl Dk rfl ?_
 refine RK hK3<|aE ?_
 refine hQ _ _ _ (bD (vs:=[(Value.agg ((cK.cells (cK.mk (Value.func (.func 106) [].toArray [].toArray)))++(cK.cells (cK.mk (Value.func (.func 107) [].toArray [].toArray)))++(cK.cells (cK.mk (Value.func (.func 111) [].toArray [].toArray)))++(cK.cells (cK.mk (Value.func (.func 114) [].toArray [].toArray)))).toArray)]) ⟨⟨_,rfl,.inl ⟨_,_,Bm,cd (vs:=((cK.cells (cK.mk (Value.func (.func 106) [].toArray [].toArray)))++(cK.cells (cK.mk (Value.func (.func 107) [].toArray [].toArray)))++(cK.cells (cK.mk (Value.func (.func 111) [].toArray [].toArray)))++(cK.cells (cK.mk (Value.func (.func 114) [].toArray [].toArray))))) 0 rfl rfl,rfl,rfl⟩⟩,trivial⟩ fun w hs=>eR ?_ hs)
 show (Value.agg ((cK.cells (cK.mk (Value.func (.func 106) [].toArray [].toArray)))++(cK.cells (cK.mk (Value.func (.func 107) [].toArray [].toArray)))++(cK.cells (cK.mk (Value.func (.func 111) [].toArray [].toArray)))++(cK.cells (cK.mk (Value.func (.func 114) [].toArray [].toArray)))).toArray)=(Value.agg ((cK.cells (cK.mk (Value.func (.func 106) [].toArray [].toArray)))++(cK.cells (cK.mk (Value.func (.func 107) [].toArray [].toArray)))++(cK.cells (cK.mk (Value.func (.func 111) [].toArray [].toArray)))++(cK.cells (cK.mk (Value.func (.func 114) [].toArray [].toArray)))).toArray)
 clear hs w hQ hN hK3 hK1
 rfl
set_option maxRecDepth 100000 in
set_option maxHeartbeats 400000 in
theorem mK (l:aV) (kA:Option Addr) (kC:Nat) (az:List RA) (cA:Option Addr) (cC:Nat) (bA:Option Addr) (bC:Nat) (hin:dM l az):
 dY Tryz.prog 57 [(Value.agg (aG.cells (aG.mk (ay.mk (aA.mk kA l.au.length kC)) l.bJ (aA.mk cA l.ag.length cC) (aA.mk bA l.aa.length bC) l.aB l.aZ l.aO)).toArray)] [(rd kA l.au.length 9 (l.au.map ah.cells)),(rd cA l.ag.length 2 (List.zipWith ao.cells l.ag az)),(c_ (aP ao.eX l.ag az)),(rd bA l.aa.length 4 (l.aa.map aT.cells))] (Value.int .i64 (cw l)):=by
 have htk:=hin.o0
 have hck:=hin.oZ
 have has:=hin.oG
 have hbm:=hin.oI
 have hsd:=hin.side
 refine bG Gb Tryz.func57 rfl rfl fun w0 Q hQ hN=>?_
 try dsimp only
 refine WS fun _ hK1=>gv rfl fun b2=>rS (AG rfl)<|RK hK1<|aw fun _ hK3=>WS fun _ hK4=>rS (FA 0 rfl lF rfl)<|rS (LP (ay.cells (ay.mk (aA.mk kA l.au.length kC))) 0 rfl jx rfl rfl rfl)<|rS (CL (tH l.au kA kC (by first|assumption|omega|(simp; done)|(simp; omega)) (by first|assumption|omega|(simp; done)|(simp; omega))) (ax 1 rfl rfl<|ar) rfl)<|rS (AG rfl) ?_
 refine RK hK4<|WS fun _ hK5=>rS (MV rfl)<|rS (BI rfl eB)<|RK hK5 ?_
 refine bp rfl (fun h10=>?_) (fun h10=>?_)
 ·replace h10:=XT h10
  refine WS fun _ hK6=>rS (MV rfl)<|rS (AG rfl)<|RK hK6<|aE<|Q1 hQ rfl rfl rfl ?_
  first|(refine congrArg (Value.int .i64) ?_; rw [(gi h10).2,g_ (gi h10).1])|exact congrArg (Value.int .i64) (dh htr fun h=>absurd h.head (by assumption)).symm|exact congrArg (Value.int .i64) (dh htr fun h=>absurd h.clock (by assumption)).symm|exact congrArg (Value.int .i64) (dh htr fun h=>absurd h.ij (by assumption)).symm|exact congrArg (Value.int .i64) (dh htr fun h=>absurd h.re (by assumption)).symm|exact congrArg (Value.int .i64) (gR htr (ef (by assumption) (by assumption) (by assumption) (by assumption))).symm
 replace h10:=XF h10
 refine WK hK3<|aw fun _ hK7=>WS fun _ hK8=>?_
 have htr:=vh h10
 refine rS (CL BR (ar) rfl)<|rS (MV rfl)<|RK hK8<|aH<|oe 5<|jK fun R9 hR9=>WS fun _ hK10=>rS (SX (gn (r:= .bool true) rfl rfl rfl cq) rfl rfl)<|RK hK10<|aw fun _ hK11=>?_
 refine aW rfl<|WK hK11<|aw fun _ hK12=>aH<|WS fun _ hK13=>rS (SX (ov (vs:=(cK.cells (cK.mk (Value.func (.func 106) [].toArray [].toArray)))) 0 rfl rfl rfl vK ti rfl (by decide) rfl) rfl rfl)<|AL rfl vG fun b14=>e7 rfl v8 rfl<|RK hK13<|WS fun _ hK15=>?_
 refine rS (FA 0 rfl p9 rfl)<|rS (L1 (Value.func (.func 106) [].toArray [].toArray) 0 rfl z8 rfl rfl)<|rS (LW 1 rfl eP rfl rfl)<|rS (CL (CJ l kA kC az cA cC bA bC hin) (ax 2 rfl rfl<|ax 3 rfl rfl<|ax 4 rfl rfl<|ax 5 rfl rfl<|ar) rfl)<|rS (NT rfl)<|RK hK15 ?_
 refine bp rfl (fun h16=>?_) (fun h16=>?_)
 ·replace h16:=XT h16
  refine WS fun _ hK17=>rS (AG rfl)<|RK hK17<|aE<|Q1 hQ rfl rfl rfl ?_
  first|(refine congrArg (Value.int .i64) ?_; rw [(gi h10).2,g_ (gi h10).1])|exact congrArg (Value.int .i64) (dh htr fun h=>absurd h.head (by assumption)).symm|exact congrArg (Value.int .i64) (dh htr fun h=>absurd h.clock (by assumption)).symm|exact congrArg (Value.int .i64) (dh htr fun h=>absurd h.ij (by assumption)).symm|exact congrArg (Value.int .i64) (dh htr fun h=>absurd h.re (by assumption)).symm|exact congrArg (Value.int .i64) (gR htr (ef (by assumption) (by assumption) (by assumption) (by assumption))).symm
 replace h16:=XF h16
 refine cH<|aL<|KK hK12<|aC<|rS (SX (gn (r:= .int .i64 1) rfl rfl rfl (a9 ⟨by decide,by decide⟩)) rfl rfl)<|rS (MV rfl)<|RK hR9<|jK fun R18 hR18=>WS fun _ hK19=>rS (SX (gn (r:= .bool true) rfl rfl rfl cq) rfl rfl) ?_
 refine RK hK19<|aw fun _ hK20=>aW rfl<|WK hK20<|aw fun _ hK21=>aH<|WS fun _ hK22=>rS (SX (ov (vs:=(cK.cells (cK.mk (Value.func (.func 107) [].toArray [].toArray)))) 1 rfl rfl rfl vK ti rfl (by decide) rfl) rfl rfl)<|AL rfl vG fun b23=>e7 rfl v8 rfl ?_
 refine RK hK22<|WS fun _ hK24=>rS (FA 0 rfl p9 rfl)<|rS (L1 (Value.func (.func 107) [].toArray [].toArray) 0 rfl z8 rfl rfl)<|rS (LW 2 rfl eP rfl rfl)<|rS (CL (Cu l kA kC az cA cC bA bC hin) (ax 3 rfl rfl<|ax 4 rfl rfl<|ax 5 rfl rfl<|ax 6 rfl rfl<|ar) rfl)<|rS (NT rfl)<|RK hK24 ?_
 refine bp rfl (fun h25=>?_) (fun h25=>?_)
 ·replace h25:=XT h25
  refine WS fun _ hK26=>rS (AG rfl)<|RK hK26<|aE<|Q1 hQ rfl rfl rfl ?_
  first|(refine congrArg (Value.int .i64) ?_; rw [(gi h10).2,g_ (gi h10).1])|exact congrArg (Value.int .i64) (dh htr fun h=>absurd h.head (by assumption)).symm|exact congrArg (Value.int .i64) (dh htr fun h=>absurd h.clock (by assumption)).symm|exact congrArg (Value.int .i64) (dh htr fun h=>absurd h.ij (by assumption)).symm|exact congrArg (Value.int .i64) (dh htr fun h=>absurd h.re (by assumption)).symm|exact congrArg (Value.int .i64) (gR htr (ef (by assumption) (by assumption) (by assumption) (by assumption))).symm
 replace h25:=XF h25
 refine cH<|aL<|KK hK21<|aC<|rS (SX (gn (r:= .int .i64 2) rfl rfl rfl (a9 ⟨by decide,by decide⟩)) rfl rfl)<|rS (MV rfl)<|RK hR18<|jK fun R27 hR27=>WS fun _ hK28=>rS (SX (gn (r:= .bool true) rfl rfl rfl cq) rfl rfl) ?_
 refine RK hK28<|aw fun _ hK29=>aW rfl<|WK hK29<|aw fun _ hK30=>aH<|WS fun _ hK31=>rS (SX (ov (vs:=(cK.cells (cK.mk (Value.func (.func 111) [].toArray [].toArray)))) 2 rfl rfl rfl vK ti rfl (by decide) rfl) rfl rfl)<|AL rfl vG fun b32=>e7 rfl v8 rfl ?_
 refine RK hK31<|WS fun _ hK33=>rS (FA 0 rfl p9 rfl)<|rS (L1 (Value.func (.func 111) [].toArray [].toArray) 0 rfl z8 rfl rfl)<|rS (LW 3 rfl eP rfl rfl)<|rS (CL (B7 l kA kC az cA cC bA bC hin (by first|assumption|omega|(simp; done)|(simp; omega))) (ax 4 rfl rfl<|ax 5 rfl rfl<|ax 6 rfl rfl<|ax 7 rfl rfl<|ar) rfl)<|rS (NT rfl)<|RK hK33 ?_
 refine bp rfl (fun h34=>?_) (fun h34=>?_)
 ·replace h34:=XT h34
  refine WS fun _ hK35=>rS (AG rfl)<|RK hK35<|aE<|Q1 hQ rfl rfl rfl ?_
  first|(refine congrArg (Value.int .i64) ?_; rw [(gi h10).2,g_ (gi h10).1])|exact congrArg (Value.int .i64) (dh htr fun h=>absurd h.head (by assumption)).symm|exact congrArg (Value.int .i64) (dh htr fun h=>absurd h.clock (by assumption)).symm|exact congrArg (Value.int .i64) (dh htr fun h=>absurd h.ij (by assumption)).symm|exact congrArg (Value.int .i64) (dh htr fun h=>absurd h.re (by assumption)).symm|exact congrArg (Value.int .i64) (gR htr (ef (by assumption) (by assumption) (by assumption) (by assumption))).symm
 replace h34:=XF h34
 refine cH<|aL<|KK hK30<|aC<|rS (SX (gn (r:= .int .i64 3) rfl rfl rfl (a9 ⟨by decide,by decide⟩)) rfl rfl)<|rS (MV rfl)<|RK hR27<|jK fun R36 hR36=>WS fun _ hK37=>rS (SX (gn (r:= .bool true) rfl rfl rfl cq) rfl rfl) ?_
 refine RK hK37<|aw fun _ hK38=>aW rfl<|WK hK38<|aw fun _ hK39=>aH<|WS fun _ hK40=>rS (SX (ov (vs:=(cK.cells (cK.mk (Value.func (.func 114) [].toArray [].toArray)))) 3 rfl rfl rfl vK ti rfl (by decide) rfl) rfl rfl)<|AL rfl vG fun b41=>e7 rfl v8 rfl ?_
 refine RK hK40<|WS fun _ hK42=>rS (FA 0 rfl p9 rfl)<|rS (L1 (Value.func (.func 114) [].toArray [].toArray) 0 rfl z8 rfl rfl)<|rS (LW 4 rfl eP rfl rfl)<|rS (CL (BL l kA kC az cA cC bA bC hin (by first|assumption|omega|(simp; done)|(simp; omega)) (by first|assumption|omega|(simp; done)|(simp; omega))) (ax 5 rfl rfl<|ax 6 rfl rfl<|ax 7 rfl rfl<|ax 8 rfl rfl<|ar) rfl)<|rS (NT rfl)<|RK hK42 ?_
 refine bp rfl (fun h43=>?_) (fun h43=>?_)
 ·replace h43:=XT h43
  refine WS fun _ hK44=>rS (AG rfl)<|RK hK44<|aE<|Q1 hQ rfl rfl rfl ?_
  first|(refine congrArg (Value.int .i64) ?_; rw [(gi h10).2,g_ (gi h10).1])|exact congrArg (Value.int .i64) (dh htr fun h=>absurd h.head (by assumption)).symm|exact congrArg (Value.int .i64) (dh htr fun h=>absurd h.clock (by assumption)).symm|exact congrArg (Value.int .i64) (dh htr fun h=>absurd h.ij (by assumption)).symm|exact congrArg (Value.int .i64) (dh htr fun h=>absurd h.re (by assumption)).symm|exact congrArg (Value.int .i64) (gR htr (ef (by assumption) (by assumption) (by assumption) (by assumption))).symm
 replace h43:=XF h43
 refine cH<|aL<|KK hK39<|aC<|rS (SX (gn (r:= .int .i64 4) rfl rfl rfl (a9 ⟨by decide,by decide⟩)) rfl rfl)<|rS (MV rfl)<|RK hR36<|jK fun R45 hR45=>WS fun _ hK46=>rS (SX (gn (r:= .bool false) rfl rfl rfl cq) rfl rfl) ?_
 refine RK hK46<|aw fun _ hK47=>bH rfl<|bM<|ai<|ai<|aI<|KK hK7<|WS fun _ hK48=>rS (AG rfl) ?_
 refine RK hK48<|aE<|Q1 hQ rfl rfl rfl ?_
 first|(refine congrArg (Value.int .i64) ?_; rw [(gi h10).2,g_ (gi h10).1])|exact congrArg (Value.int .i64) (dh htr fun h=>absurd h.head (by assumption)).symm|exact congrArg (Value.int .i64) (dh htr fun h=>absurd h.clock (by assumption)).symm|exact congrArg (Value.int .i64) (dh htr fun h=>absurd h.ij (by assumption)).symm|exact congrArg (Value.int .i64) (dh htr fun h=>absurd h.re (by assumption)).symm|exact congrArg (Value.int .i64) (gR htr (ef (by assumption) (by assumption) (by assumption) (by assumption))).symm
set_option maxRecDepth 100000 in
set_option maxHeartbeats 400000 in
theorem vv (l:aV) (kA:Option Addr) (kC:Nat) (az:List RA) (cA:Option Addr) (cC:Nat) (bA:Option Addr) (bC:Nat) (ck:Int) (at_:Int) (hin:dM l az):
 dY Tryz.prog 56 [(Value.agg (aG.cells (aG.mk (ay.mk (aA.mk kA l.au.length kC)) l.bJ (aA.mk cA l.ag.length cC) (aA.mk bA l.aa.length bC) l.aB l.aZ l.aO)).toArray),(Value.int .i64 ck),(Value.int .i64 at_)] [(rd kA l.au.length 9 (l.au.map ah.cells)),(rd cA l.ag.length 2 (List.zipWith ao.cells l.ag az)),(c_ (aP ao.eX l.ag az)),(rd bA l.aa.length 4 (l.aa.map aT.cells))] (Value.tuple [(Value.agg (ab.cells (cN l ck at_)).toArray),(Value.int .i64 (gN l ck at_))].toArray):=by
 have htk:=hin.o0
 have hck:=hin.oZ
 have has:=hin.oG
 have hbm:=hin.oI
 refine bG Gn Tryz.func56 rfl rfl fun w0 Q hQ hN=>?_
 try dsimp only
 refine WS fun _ hK1=>gv rfl fun b2=>AL rfl dk fun b3=>rS (AG rfl)<|RK hK1<|aw fun _ hK4=>WS fun _ hK5=>rS (LW 1 rfl eP rfl rfl)<|rS (CL (mK l kA kC az cA cC bA bC hin) (ax 2 rfl rfl<|ax 3 rfl rfl<|ax 4 rfl rfl<|ax 5 rfl rfl<|ar) rfl)<|rS (AG rfl) ?_
 refine RK hK5<|WS fun _ hK6=>rS (MV rfl)<|rS (BI rfl eB)<|RK hK6 ?_
 refine bp rfl (fun h12=>?_) (fun h12=>?_)
 ·replace h12:=XT h12
  refine WS fun _ hK7=>rS (SX (aS (xs:=[]) (cs:=(ab.cells (ab.mk 0 0))) rfl rfl (aR fG rfl)) rfl rfl)<|rS (MV rfl)<|e7 rfl cv rfl<|rS (AG rfl)<|RK hK7<|aE ?_
  refine hQ _ _ _ (bD (vs:=[(Value.agg (ab.cells (ab.mk 0 0)).toArray),(Value.int .i64 (cw l))]) ⟨⟨_,rfl,.inl ⟨_,_,cB,cd (vs:=(ab.cells (ab.mk 0 0))) 0 rfl rfl,rfl,rfl⟩⟩,rfl,trivial⟩ fun w hs=>eR ?_ hs)
  show (Value.tuple [(Value.agg (ab.cells (ab.mk 0 0)).toArray),(Value.int .i64 (cw l))].toArray)=(Value.tuple [(Value.agg (ab.cells (cN l ck at_)).toArray),(Value.int .i64 (gN l ck at_))].toArray)
  clear hs w hQ hN hK7 hK6 hK5 hK4 hK1
  first|(have e:=mN (ck:=ck) (at_:=at_) h12; rw [e.1,e.2]<;>rfl)|(have e:=jV (ck:=ck) (at_:=at_) h12 (by omega) hx; rw [e.1,e.2]<;>rfl)|(have e:=jR (ck:=ck) (at_:=at_) h12 (by omega); rw [e.1,e.2]<;>rfl)
 replace h12:=XF h12
 refine WK hK4<|aw fun _ hK8=>WS fun _ hK9=>?_
 obtain ⟨htr,hok⟩:=dD h12
 refine rS (FA 2 rfl iY rfl)<|rS (L1 (Value.slice cA l.ag.length cC) 1 rfl oP rfl rfl)<|rS (LN rfl rm)<|rS (BI rfl (cr ⟨by omega,by omega⟩))<|rS (MV rfl)<|dV (xs:=[.tmp 19]) (cs:=[(Value.int .i64 ck)]) rfl di kb rfl rfl rfl rfl (by simp [Value.cells]) rfl rfl fun b10=>rS (CL (dY.eq (d_ 0 (((l.ag.length:Nat):Int)-1) ([ck]) (some ⟨b10,0,none⟩) 1 (by first|assumption|omega|(simp; done)|(simp; omega))) cI) (aF (a4 0 rfl rfl (by simp [bO]) rfl)<|ar) rfl)<|rS (NT rfl)<|rS (MV rfl) ?_
 refine bo (t:=23) rfl (fun h23=>?_) (fun h23=>?_)
 ·replace h23:=XT h23
  refine rS (OX rfl)<|rS (OX rfl)<|rS (OX rfl)<|rS (OX rfl)<|rS (PK rfl)<|RK hK9<|aW rfl<|WS fun _ hK11=>rS (SX (aS (xs:=[]) (cs:=(ab.cells (ab.mk 0 0))) rfl rfl (aR fG rfl)) rfl rfl)<|oL rfl cv rfl ?_
  refine rS (AG rfl)<|RK hK11<|aE ?_
  refine hQ _ _ _ (bD (vs:=[(Value.agg (ab.cells (ab.mk 0 0)).toArray),(Value.int .i64 2)]) ⟨⟨_,rfl,.inl ⟨_,_,cB,cd (vs:=(ab.cells (ab.mk 0 0))) 1 rfl rfl,rfl,rfl⟩⟩,rfl,trivial⟩ fun w hs=>eR ?_ hs)
  show (Value.tuple [(Value.agg (ab.cells (ab.mk 0 0)).toArray),(Value.int .i64 2)].toArray)=(Value.tuple [(Value.agg (ab.cells (cN l ck at_)).toArray),(Value.int .i64 (gN l ck at_))].toArray)
  clear hs w hQ hN hK11 hK9 hK8 hK6 hK5 hK4 hK1
  first|(have e:=mN (ck:=ck) (at_:=at_) h12; rw [e.1,e.2]<;>rfl)|(have e:=jV (ck:=ck) (at_:=at_) h12 (by omega) hx; rw [e.1,e.2]<;>rfl)|(have e:=jR (ck:=ck) (at_:=at_) h12 (by omega); rw [e.1,e.2]<;>rfl)
 replace h23:=XF h23
 refine rS (MV rfl)<|dV (xs:=[.tmp 24]) (cs:=[(Value.int .i64 at_)]) rfl di kb rfl rfl rfl rfl (by simp [Value.cells]) rfl rfl fun b12=>rS (CL (dY.eq (d_ 0 86400000 ([at_]) (some ⟨b12,0,none⟩) 1 (by first|assumption|omega|(simp; done)|(simp; omega))) cI) (aF (a4 0 rfl rfl (by simp [bO]) rfl)<|ar) rfl)<|rS (NT rfl)<|rS (PK rfl)<|RK hK9 ?_
 refine bp rfl (fun h28=>?_) (fun h28=>?_)
 ·replace h28:=XT h28
  refine WS fun _ hK13=>rS (SX (aS (xs:=[]) (cs:=(ab.cells (ab.mk 0 0))) rfl rfl (aR fG rfl)) rfl rfl)<|sL rfl cv rfl<|rS (AG rfl)<|RK hK13<|aE ?_
  refine hQ _ _ _ (bD (vs:=[(Value.agg (ab.cells (ab.mk 0 0)).toArray),(Value.int .i64 2)]) ⟨⟨_,rfl,.inl ⟨_,_,cB,cd (vs:=(ab.cells (ab.mk 0 0))) 2 rfl rfl,rfl,rfl⟩⟩,rfl,trivial⟩ fun w hs=>eR ?_ hs)
  show (Value.tuple [(Value.agg (ab.cells (ab.mk 0 0)).toArray),(Value.int .i64 2)].toArray)=(Value.tuple [(Value.agg (ab.cells (cN l ck at_)).toArray),(Value.int .i64 (gN l ck at_))].toArray)
  clear hs w hQ hN hK13 hK9 hK8 hK6 hK5 hK4 hK1
  first|(have e:=mN (ck:=ck) (at_:=at_) h12; rw [e.1,e.2]<;>rfl)|(have e:=jV (ck:=ck) (at_:=at_) h12 (by omega) hx; rw [e.1,e.2]<;>rfl)|(have e:=jR (ck:=ck) (at_:=at_) h12 (by omega); rw [e.1,e.2]<;>rfl)
 replace h28:=XF h28
 refine WK hK8<|WS fun _ hK14=>rS (FA 2 rfl iY rfl)<|rS (L1 (Value.slice cA l.ag.length cC) 3 rfl oP rfl rfl)<|rS (MV rfl) ?_
 obtain ⟨x,hx⟩: ∃ y_,l.ag[(ck).toNat]? =some y_:=⟨l.ag[(ck).toNat]'(by omega),List.getElem?_eq_getElem _⟩
 obtain ⟨xa,hxa⟩: ∃ y_,az[(ck).toNat]? =some y_:=⟨az[(ck).toNat]'(by omega),List.getElem?_eq_getElem _⟩
 have hxm:(List.zipWith ao.cells l.ag az)[(ck).toNat]? =some (ao.cells x xa):=jH hx hxa
 refine rS (IA ((ck).toNat) rfl (aQ 5 rfl) vj (by decide) (by omega) (by omega))<|rS (kE ((ck).toNat) 0 (b_.cells (b_.mk x.cz (aA.mk xa.1 x.aJ.length xa.2))) rfl tY (aQ 5 rfl) hxm rfl (by decide) rfl rfl)<|rS (MV rfl)<|rS (CL (sj x xa.1 xa.2 at_ (by exact hok.clock _ (List.mem_of_getElem? hx)) (by first|assumption|omega|(simp; done)|(simp; omega))) (aF (show nj _ (rd xa.1 x.aJ.length 3 (x.aJ.map bI.cells)).holds from (jI 6 rfl (fg hx hxa (by simp [ao.eX]))))<|ar) rfl)<|sL rfl cv rfl<|rS (AG rfl)<|RK hK14<|aE ?_
 refine hQ _ _ _ (bD (vs:=[(Value.agg (ab.cells (ee x at_)).toArray),(Value.int .i64 0)]) ⟨⟨_,rfl,.inl ⟨_,_,cB,cd (vs:=(ab.cells (ee x at_))) 2 rfl rfl,rfl,rfl⟩⟩,rfl,trivial⟩ fun w hs=>eR ?_ hs)
 show (Value.tuple [(Value.agg (ab.cells (ee x at_)).toArray),(Value.int .i64 0)].toArray)=(Value.tuple [(Value.agg (ab.cells (cN l ck at_)).toArray),(Value.int .i64 (gN l ck at_))].toArray)
 clear hs w hQ hN hK14 hK9 hK8 hK6 hK5 hK4 hK1
 first|(have e:=mN (ck:=ck) (at_:=at_) h12; rw [e.1,e.2]<;>rfl)|(have e:=jV (ck:=ck) (at_:=at_) h12 (by omega) hx; rw [e.1,e.2]<;>rfl)|(have e:=jR (ck:=ck) (at_:=at_) h12 (by omega); rw [e.1,e.2]<;>rfl)
set_option maxRecDepth 100000 in
set_option maxHeartbeats 400000 in
theorem tW (lo:Int) (hi:Int) (f:Value) (p:Int→Bool) (X:aD) (r:Int) (hf: ∀ x0,0≤x0∧x0<hi→xL Tryz.prog f [.int .i64 x0] [X] (.bool (p x0))) (hb:0≤lo∧lo≤r∧r≤hi∧hi≤100000000) (hno: ∀ x,lo≤x→x<r→p x=false) (hyes: ∀ x,r≤x→x<hi→p x=true):
 dY Tryz.prog 80 [(Value.int .i64 lo),(Value.int .i64 hi),f] [X] (Value.int .i64 r):=by
 refine bG Gw Tryz.func80 rfl rfl fun w0 Q hQ hN=>?_
 try dsimp only
 refine WS fun _ hK1=>rS (AG rfl)<|RK hK1<|aw fun _ hK2=>aH ?_
 have hinit:(lo≤lo∧lo≤r)∧(r≤hi∧hi≤hi):=by first|trivial|omega|(refine ⟨?_,?_⟩<;>first|trivial|omega|simp)
 refine cP (ι:={z:Int×Int // (lo≤z.1∧z.1≤r)∧(r≤z.2∧z.2≤hi)}) (fun z=>[(0,(Value.int .i64 z.1.1)),(1,(Value.int .i64 z.1.2)),(2,f)]) (fun z=>[X.ro]) (fun z=>(z.1.2-z.1.1).toNat) ⟨(lo,hi),hinit⟩ (an.cons rfl<|an.cons rfl<|an.cons rfl<|an.nil _) (fun w hs=>St.bB [0] rfl rfl hs) ?_
 clear hinit
 rintro ⟨⟨a,b⟩,⟨hl0_0,hl0_1⟩⟩ J3 hJ3
 try dsimp only at hl0_0 hl0_1
 try dsimp only
 refine aw fun _ hK4=>WS fun _ hK5=>rS (MV rfl)<|rS (MV rfl)<|rS (BI rfl cq)<|RK hK5 ?_
 refine bp rfl (fun h6=>?_) (fun h6=>?_)
 rotate_left 1
 ·replace h6:=DF h6
  refine bM<|ai<|ai<|aI<|KK hK2<|WS fun _ hK9=>rS (MV rfl)<|rS (AG rfl)<|RK hK9<|aE ?_
  refine Q1 hQ rfl rfl rfl ?_
  exact congrArg (Value.int .i64) (by omega)
 replace h6:=DT h6
 refine WK hK4<|aH<|WS fun _ hK7=>rS (MV rfl)<|rS (MV rfl)<|rS (MV rfl)<|rS (BI rfl (cr ⟨by omega,by omega⟩))<|rS (BI rfl (vu (by omega) (by omega) (by omega)))<|rS (BI rfl (a9 ⟨by omega,by omega⟩))<|rS (AG rfl) ?_
 refine RK hK7<|WS fun _ hK8=>rS (MV rfl)<|rS (MV rfl)<|rS (SX (o6 rfl rfl rfl (hf (a+((b-a)/2)) (by omega)) (ax 0 rfl rfl<|ar)) rfl rfl)<|RK hK8 ?_
 refine bp rfl (fun hp=>?_) (fun hp=>?_)
 ·refine aC ?_
  refine rS (MV rfl)<|rS (AG rfl)<|aX<|aL ?_
  refine aY (hJ3 ⟨(a,(a+((b-a)/2))),(by dsimp only; rcases Int.lt_or_le (a+(b-a)/2) r with q|q; (have q2:=hno _ (by omega) q; first|(refine ⟨⟨by omega,by omega⟩,by omega,by omega⟩)|(rw [q2] at hp; cases hp)); (have q2:=hyes _ q (by omega); first|(refine ⟨⟨by omega,by omega⟩,by omega,by omega⟩)|(rw [q2] at hp; cases hp)))⟩ _ _ _ rfl (by simp only []; omega) (an.cons rfl<|an.cons rfl<|an.cons rfl<|an.nil _) (fun w hs=>St.bB [0] rfl rfl hs))
 refine aC<|rS (MV rfl)<|rS (BI rfl (a9 ⟨by omega,by omega⟩))<|rS (AG rfl)<|aX<|aL ?_
 refine aY (hJ3 ⟨(((a+((b-a)/2))+1),b),(by dsimp only; rcases Int.lt_or_le (a+(b-a)/2) r with q|q; (have q2:=hno _ (by omega) q; first|(refine ⟨⟨by omega,by omega⟩,by omega,by omega⟩)|(rw [q2] at hp; cases hp)); (have q2:=hyes _ q (by omega); first|(refine ⟨⟨by omega,by omega⟩,by omega,by omega⟩)|(rw [q2] at hp; cases hp)))⟩ _ _ _ rfl (by simp only []; omega) (an.cons rfl<|an.cons rfl<|an.cons rfl<|an.nil _) (fun w hs=>St.bB [0] rfl rfl hs))
set_option maxRecDepth 100000 in
set_option maxHeartbeats 400000 in
theorem xR (u:Int) (c:ao) (sA:Option Addr) (sC:Nat) (g1:Nat) (s:av) (g2:Nat) (hc:dv c) (hu:0≤u∧u≤90000000):
 dY Tryz.prog 81 [(Value.int .i64 u),(Value.pointer (some ⟨g1,0,none⟩)),(Value.pointer (some ⟨g2,0,none⟩))] [(rd sA c.aJ.length 3 (c.aJ.map bI.cells)),(aU g1 63 (b_.cells (b_.mk c.cz (aA.mk sA c.aJ.length sC)))),(aU g2 67 (av.cells s))] (Value.bool (decide (s.Read≤u+(ee c u).Hi))):=by
 have hab:=mE hc hu
 refine bG Gi Tryz.func81 rfl rfl fun w0 Q hQ hN=>?_
 try dsimp only
 refine WS fun _ hK1=>rS (AG rfl)<|RK hK1<|aw fun _ hK2=>dj ct 10 (by kernel_rfl)<|dS (MV rfl)<|dS (G0 1 rfl tY rfl rfl)<|dS (MV rfl)<|dS (CL (sj c sA sC u hc hu) (ax 0 rfl rfl<|ar) rfl)<|dS (SX (oT (v:=(Value.int .i64 ((ee c u).Hi))) rfl rfl bZ CC rfl) rfl rfl) ?_
 refine dS (BI rfl (a9 ⟨by omega,by omega⟩))<|dS (FA 1 rfl hZ rfl)<|dS (l9 (Value.int .i64 s.Read) 2 rfl bk rfl rfl)<|dS (BI rfl il)<|dS (AG rfl)<|cE<|RK hK2<|aE ?_
 exact Q1 hQ rfl rfl rfl rfl
set_option maxRecDepth 100000 in
set_option maxHeartbeats 400000 in
theorem yc (u:Int) (c:ao) (sA:Option Addr) (sC:Nat) (g1:Nat) (s:av) (g2:Nat) (hc:dv c) (hu:0≤u∧u≤90000000):
 dY Tryz.prog 82 [(Value.int .i64 u),(Value.pointer (some ⟨g1,0,none⟩)),(Value.pointer (some ⟨g2,0,none⟩))] [(rd sA c.aJ.length 3 (c.aJ.map bI.cells)),(aU g1 63 (b_.cells (b_.mk c.cz (aA.mk sA c.aJ.length sC)))),(aU g2 67 (av.cells s))] (Value.bool (decide (s.Read<u+(ee c u).Lo))):=by
 have hab:=mE hc hu
 refine bG GM Tryz.func82 rfl rfl fun w0 Q hQ hN=>?_
 try dsimp only
 refine WS fun _ hK1=>rS (AG rfl)<|RK hK1<|aw fun _ hK2=>dj ct 10 (by kernel_rfl)<|dS (MV rfl)<|dS (G0 1 rfl tY rfl rfl)<|dS (MV rfl)<|dS (CL (sj c sA sC u hc hu) (ax 0 rfl rfl<|ar) rfl)<|dS (SX (oT (v:=(Value.int .i64 ((ee c u).Lo))) rfl rfl bP BF rfl) rfl rfl) ?_
 refine dS (BI rfl (a9 ⟨by omega,by omega⟩))<|dS (FA 1 rfl hZ rfl)<|dS (l9 (Value.int .i64 s.Read) 2 rfl bk rfl rfl)<|dS (BI rfl eL)<|dS (AG rfl)<|cE<|RK hK2<|aE ?_
 exact Q1 hQ rfl rfl rfl rfl
set_option maxRecDepth 100000 in
set_option maxHeartbeats 400000 in
theorem q4 (l:aV) (kA:Option Addr) (kC:Nat) (az:List RA) (cA:Option Addr) (cC:Nat) (bA:Option Addr) (bC:Nat) (s:av) (hin:dM l az) (hok:jB l) (hs:(0≤s.cy∧s.cy≤(l.aa.length:Int)-1)∧0≤s.Read∧s.Read≤86400000):
 dY Tryz.prog 60 [(Value.agg (aG.cells (aG.mk (ay.mk (aA.mk kA l.au.length kC)) l.bJ (aA.mk cA l.ag.length cC) (aA.mk bA l.aa.length bC) l.aB l.aZ l.aO)).toArray),(Value.agg (av.cells s).toArray)] [(rd kA l.au.length 9 (l.au.map ah.cells)),(rd cA l.ag.length 2 (List.zipWith ao.cells l.ag az)),(c_ (aP ao.eX l.ag az)),(rd bA l.aa.length 4 (l.aa.map aT.cells))] (Value.agg (ab.cells (cp l s)).toArray):=by
 have htk:=hin.o0
 have hck:=hin.oZ
 have has:=hin.oG
 have hbm:=hin.oI
 refine bG Fh Tryz.func60 rfl rfl fun w0 Q hQ hN=>?_
 try dsimp only
 refine WS fun _ hK1=>gv rfl fun b2=>gv rfl fun b3=>AL rfl dk fun b4=>RK hK1<|aw fun _ hK5=>dA ct [0,1,2,3,4,5,6,7,8,9,10] [11,12] [false,false,false,false,false,false,false,false,false,false,false] [false,false] [(aU b4 47 (ab.cells (ab.mk 0 0))),(aU b3 67 (av.cells s)),(aU b2 28 (aG.cells (aG.mk (ay.mk (aA.mk kA l.au.length kC)) l.bJ (aA.mk cA l.ag.length cC) (aA.mk bA l.aa.length bC) l.aB l.aZ l.aO))),(rd kA l.au.length 9 (l.au.map ah.cells)).ro,(rd cA l.ag.length 2 (List.zipWith ao.cells l.ag az)).ro,(c_ (aP ao.eX l.ag az)).ro,(rd bA l.aa.length 4 (l.aa.map aT.cells)).ro] [] (by kernel_rfl) (fun w hs=>St.bB [0,1,2,3,4,5,6] rfl rfl hs) (fun w hs=>St.bB [] rfl rfl hs)<|eS rfl (FA 2 rfl iY rfl)<|eS rfl (L1 (Value.slice cA l.ag.length cC) 2 rfl oP rfl rfl)<|eS rfl (FA 3 rfl dQ rfl) ?_
 refine eS rfl (L1 (Value.slice bA l.aa.length bC) 2 rfl hP rfl rfl)<|eS rfl (FA 0 rfl ei rfl)<|eS rfl (L1 (Value.int .i64 s.cy) 1 rfl bk rfl rfl) ?_
 obtain ⟨y,hy⟩: ∃ y_,l.aa[(s.cy).toNat]? =some y_:=⟨l.aa[(s.cy).toNat]'(by omega),List.getElem?_eq_getElem _⟩
 have hym:(l.aa.map aT.cells)[(s.cy).toNat]? =some (aT.cells y):=by rw [List.getElem?_map,hy]; rfl
 refine eS rfl (IA ((s.cy).toNat) rfl (aQ 6 rfl) pL (by decide) (by omega) (by omega))<|eS rfl (qP ((((s.cy).toNat)*4)+3) rfl (aQ 6 rfl) (Nat.mul_pos (by omega) (by decide)) p5 rfl)<|eS rfl (ir ((s.cy).toNat) 3 (Value.int .i64 y.cO) rfl bk (aQ 6 rfl) hym rfl (by decide) rfl) ?_
 have hyb:=(hok.ij _ (List.mem_of_getElem? hy)).2
 obtain ⟨x,hx⟩: ∃ y_,l.ag[(y.cO).toNat]? =some y_:=⟨l.ag[(y.cO).toNat]'(by omega),List.getElem?_eq_getElem _⟩
 obtain ⟨xa,hxa⟩: ∃ y_,az[(y.cO).toNat]? =some y_:=⟨az[(y.cO).toNat]'(by omega),List.getElem?_eq_getElem _⟩
 have hxm:(List.zipWith ao.cells l.ag az)[(y.cO).toNat]? =some (ao.cells x xa):=jH hx hxa
 refine eS rfl (IA ((y.cO).toNat) rfl (aQ 4 rfl) vj (by decide) (by omega) (by omega))<|eS rfl (kE ((y.cO).toNat) 0 (b_.cells (b_.mk x.cz (aA.mk xa.1 x.aJ.length xa.2))) rfl tY (aQ 4 rfl) hxm rfl (by decide) rfl rfl)<|eJ rfl<|cf rfl fun T6 hT6=>AL rfl B6 fun b7=>RN hT6 [1,2,3,4,5,6,7] rfl rfl<|cf rfl fun T8 hT8=>e7 rfl GX rfl<|RN hT8 [1,2,3,4,5,6,7] rfl rfl<|fJ rfl ?_
 refine KK hK5<|WS fun _ hK9=>?_
 have hxo:=hok.clock _ (List.mem_of_getElem? hx)
 have hfl:=j6 (p:=fE x s.Read) (n:=86400001)
 have hfh:=j6 (p:=fB x s.Read) (n:=86400001)
 refine rS (FU rfl)<|rS (CL (tW 0 86400001 (Value.func (.func 81) [].toArray [(Value.pointer (some ⟨b7,0,none⟩)),(Value.pointer (some ⟨b3,0,none⟩))].toArray) (fun u10=>(decide (s.Read≤u10+(ee x u10).Hi))) (c_ [(rd xa.1 x.aJ.length 3 (x.aJ.map bI.cells)),(aU b7 63 (b_.cells (b_.mk x.cz (aA.mk xa.1 x.aJ.length xa.2)))),(aU b3 67 (av.cells s))]) (ej (fE x s.Read) 86400001) (by intro u10 _; exact mg (fi:=[]) (ca:=[(Value.pointer (some ⟨b7,0,none⟩)),(Value.pointer (some ⟨b3,0,none⟩))]) (lk (xR u10 x xa.1 xa.2 b7 s b3 (by first|assumption|omega) (by first|assumption|omega)) (EJ 0 1 2 rfl rfl rfl rfl rfl rfl))) (by first|assumption|omega|(simp; done)|(simp; omega)) (by intro z h0 hz; exact (kZ hxo h0 (by omega)).1 hz) (by intro z hz h1; exact (kZ hxo (by omega) h1).2.1 hz)) (aF (lN (aF (show nj _ (rd xa.1 x.aJ.length 3 (x.aJ.map bI.cells)).holds from (jI 6 rfl (fg hx hxa (by simp [ao.eX]))))<|ax 0 rfl rfl<|ax 2 rfl rfl<|ar))<|ar) rfl)<|rS (FU rfl)<|rS (CL (tW 0 86400001 (Value.func (.func 82) [].toArray [(Value.pointer (some ⟨b7,0,none⟩)),(Value.pointer (some ⟨b3,0,none⟩))].toArray) (fun u11=>(decide (s.Read<u11+(ee x u11).Lo))) (c_ [(rd xa.1 x.aJ.length 3 (x.aJ.map bI.cells)),(aU b7 63 (b_.cells (b_.mk x.cz (aA.mk xa.1 x.aJ.length xa.2)))),(aU b3 67 (av.cells s))]) (ej (fB x s.Read) 86400001) (by intro u11 _; exact mg (fi:=[]) (ca:=[(Value.pointer (some ⟨b7,0,none⟩)),(Value.pointer (some ⟨b3,0,none⟩))]) (lk (yc u11 x xa.1 xa.2 b7 s b3 (by first|assumption|omega) (by first|assumption|omega)) (EJ 0 1 2 rfl rfl rfl rfl rfl rfl))) (by first|assumption|omega|(simp; done)|(simp; omega)) (by intro z h0 hz; exact (kZ hxo h0 (by omega)).2.2.1 hz) (by intro z hz h1; exact (kZ hxo (by omega) h1).2.2.2 hz)) (aF (lN (aF (show nj _ (rd xa.1 x.aJ.length 3 (x.aJ.map bI.cells)).holds from (jI 6 rfl (fg hx hxa (by simp [ao.eX]))))<|ax 0 rfl rfl<|ax 2 rfl rfl<|ar))<|ar) rfl)<|rS (BI rfl (cr ⟨by omega,by omega⟩))<|rS (SX (aS (xs:=[(0,.tmp 18),(1,.tmp 21)]) (cs:=(ab.cells (ab.mk (ej (fE x s.Read) 86400001) ((ej (fB x s.Read) 86400001)-1)))) rfl rfl (aR fG rfl)) rfl rfl)<|oL rfl cv rfl<|RK hK9<|aE ?_
 refine hQ _ _ _ (bD (vs:=[(Value.agg (ab.cells (ab.mk (ej (fE x s.Read) 86400001) ((ej (fB x s.Read) 86400001)-1))).toArray)]) ⟨⟨_,rfl,.inl ⟨_,_,cB,cd (vs:=(ab.cells (ab.mk (ej (fE x s.Read) 86400001) ((ej (fB x s.Read) 86400001)-1)))) 1 rfl rfl,rfl,rfl⟩⟩,trivial⟩ fun w hs=>eR ?_ hs)
 show (Value.agg (ab.cells (ab.mk (ej (fE x s.Read) 86400001) ((ej (fB x s.Read) 86400001)-1))).toArray)=(Value.agg (ab.cells (cp l s)).toArray)
 clear hs w hQ hN hK9 hT8 T8 hT6 T6 hK5 hK1
 unfold cp l5; rw [qJ hy hx]
set_option maxRecDepth 100000 in
set_option maxHeartbeats 400000 in
theorem Ce (l:aV) (kA:Option Addr) (kC:Nat) (az:List RA) (cA:Option Addr) (cC:Nat) (bA:Option Addr) (bC:Nat) (s:av) (hin:dM l az):
 dY Tryz.prog 48 [(Value.agg (aG.cells (aG.mk (ay.mk (aA.mk kA l.au.length kC)) l.bJ (aA.mk cA l.ag.length cC) (aA.mk bA l.aa.length bC) l.aB l.aZ l.aO)).toArray),(Value.agg (av.cells s).toArray)] [(rd kA l.au.length 9 (l.au.map ah.cells)),(rd cA l.ag.length 2 (List.zipWith ao.cells l.ag az)),(c_ (aP ao.eX l.ag az)),(rd bA l.aa.length 4 (l.aa.map aT.cells))] (Value.tuple [(Value.agg (ab.cells (ju l s)).toArray),(Value.int .i64 (iO l s))].toArray):=by
 have htk:=hin.o0
 have hck:=hin.oZ
 have has:=hin.oG
 have hbm:=hin.oI
 refine bG GV Tryz.func48 rfl rfl fun w0 Q hQ hN=>?_
 try dsimp only
 refine WS fun _ hK1=>gv rfl fun b2=>gv rfl fun b3=>AL rfl dk fun b4=>rS (AG rfl)<|RK hK1<|aw fun _ hK5=>WS fun _ hK6=>rS (LW 2 rfl eP rfl rfl)<|rS (CL (mK l kA kC az cA cC bA bC hin) (ax 3 rfl rfl<|ax 4 rfl rfl<|ax 5 rfl rfl<|ax 6 rfl rfl<|ar) rfl) ?_
 refine rS (AG rfl)<|RK hK6<|WS fun _ hK7=>rS (MV rfl)<|rS (BI rfl eB)<|RK hK7 ?_
 refine bp rfl (fun h11=>?_) (fun h11=>?_)
 ·replace h11:=XT h11
  refine WS fun _ hK8=>rS (SX (aS (xs:=[]) (cs:=(ab.cells (ab.mk 0 0))) rfl rfl (aR fG rfl)) rfl rfl)<|rS (MV rfl)<|e7 rfl cv rfl<|rS (AG rfl)<|RK hK8<|aE ?_
  refine hQ _ _ _ (bD (vs:=[(Value.agg (ab.cells (ab.mk 0 0)).toArray),(Value.int .i64 (cw l))]) ⟨⟨_,rfl,.inl ⟨_,_,cB,cd (vs:=(ab.cells (ab.mk 0 0))) 0 rfl rfl,rfl,rfl⟩⟩,rfl,trivial⟩ fun w hs=>eR ?_ hs)
  show (Value.tuple [(Value.agg (ab.cells (ab.mk 0 0)).toArray),(Value.int .i64 (cw l))].toArray)=(Value.tuple [(Value.agg (ab.cells (ju l s)).toArray),(Value.int .i64 (iO l s))].toArray)
  clear hs w hQ hN hK8 hK7 hK6 hK5 hK1
  first|(have e:=mh (s:=s) h11; rw [e.1,e.2]<;>rfl)|(have e:=k9 (s:=s) h11 (by omega) h38; rw [e.1,e.2]<;>rfl)|(have e:=mW (s:=s) h11 (by omega) h38; rw [e.1,e.2]<;>rfl)|(have e:=mr (s:=s) h11 (by omega); rw [e.1,e.2]<;>rfl)
 replace h11:=XF h11
 refine WK hK5<|aw fun _ hK9=>WS fun _ hK10=>rS (FA 3 rfl dQ rfl) ?_
 obtain ⟨htr,hok⟩:=dD h11
 refine rS (L1 (Value.slice bA l.aa.length bC) 2 rfl hP rfl rfl)<|rS (LN rfl jz)<|rS (BI rfl (cr ⟨by omega,by omega⟩))<|rS (FA 0 rfl ei rfl)<|rS (L1 (Value.int .i64 s.cy) 1 rfl bk rfl rfl)<|dV (xs:=[.tmp 19]) (cs:=[(Value.int .i64 s.cy)]) rfl di kb rfl rfl rfl rfl (by simp [Value.cells]) rfl rfl fun b11=>rS (CL (dY.eq (d_ 0 (((l.aa.length:Nat):Int)-1) ([s.cy]) (some ⟨b11,0,none⟩) 1 (by first|assumption|omega|(simp; done)|(simp; omega))) cI) (aF (a4 0 rfl rfl (by simp [bO]) rfl)<|ar) rfl)<|rS (NT rfl)<|rS (MV rfl) ?_
 refine bo (t:=23) rfl (fun h23=>?_) (fun h23=>?_)
 ·replace h23:=XT h23
  refine rS (OX rfl)<|rS (OX rfl)<|rS (OX rfl)<|rS (OX rfl)<|rS (OX rfl)<|rS (PK rfl)<|RK hK10<|aW rfl<|WS fun _ hK12=>rS (SX (aS (xs:=[]) (cs:=(ab.cells (ab.mk 0 0))) rfl rfl (aR fG rfl)) rfl rfl) ?_
  refine oL rfl cv rfl<|rS (AG rfl)<|RK hK12<|aE ?_
  refine hQ _ _ _ (bD (vs:=[(Value.agg (ab.cells (ab.mk 0 0)).toArray),(Value.int .i64 2)]) ⟨⟨_,rfl,.inl ⟨_,_,cB,cd (vs:=(ab.cells (ab.mk 0 0))) 1 rfl rfl,rfl,rfl⟩⟩,rfl,trivial⟩ fun w hs=>eR ?_ hs)
  show (Value.tuple [(Value.agg (ab.cells (ab.mk 0 0)).toArray),(Value.int .i64 2)].toArray)=(Value.tuple [(Value.agg (ab.cells (ju l s)).toArray),(Value.int .i64 (iO l s))].toArray)
  clear hs w hQ hN hK12 hK10 hK9 hK7 hK6 hK5 hK1
  first|(have e:=mh (s:=s) h11; rw [e.1,e.2]<;>rfl)|(have e:=k9 (s:=s) h11 (by omega) h38; rw [e.1,e.2]<;>rfl)|(have e:=mW (s:=s) h11 (by omega) h38; rw [e.1,e.2]<;>rfl)|(have e:=mr (s:=s) h11 (by omega); rw [e.1,e.2]<;>rfl)
 replace h23:=XF h23
 refine rS (FA 1 rfl hZ rfl)<|rS (L1 (Value.int .i64 s.Read) 2 rfl bk rfl rfl)<|dV (xs:=[.tmp 25]) (cs:=[(Value.int .i64 s.Read)]) rfl di kb rfl rfl rfl rfl (by simp [Value.cells]) rfl rfl fun b13=>rS (CL (dY.eq (d_ 0 86400000 ([s.Read]) (some ⟨b13,0,none⟩) 1 (by first|assumption|omega|(simp; done)|(simp; omega))) cI) (aF (a4 0 rfl rfl (by simp [bO]) rfl)<|ar) rfl)<|rS (NT rfl)<|rS (PK rfl)<|RK hK10 ?_
 refine bp rfl (fun h29=>?_) (fun h29=>?_)
 ·replace h29:=XT h29
  refine WS fun _ hK14=>rS (SX (aS (xs:=[]) (cs:=(ab.cells (ab.mk 0 0))) rfl rfl (aR fG rfl)) rfl rfl)<|sL rfl cv rfl<|rS (AG rfl)<|RK hK14<|aE ?_
  refine hQ _ _ _ (bD (vs:=[(Value.agg (ab.cells (ab.mk 0 0)).toArray),(Value.int .i64 2)]) ⟨⟨_,rfl,.inl ⟨_,_,cB,cd (vs:=(ab.cells (ab.mk 0 0))) 2 rfl rfl,rfl,rfl⟩⟩,rfl,trivial⟩ fun w hs=>eR ?_ hs)
  show (Value.tuple [(Value.agg (ab.cells (ab.mk 0 0)).toArray),(Value.int .i64 2)].toArray)=(Value.tuple [(Value.agg (ab.cells (ju l s)).toArray),(Value.int .i64 (iO l s))].toArray)
  clear hs w hQ hN hK14 hK10 hK9 hK7 hK6 hK5 hK1
  first|(have e:=mh (s:=s) h11; rw [e.1,e.2]<;>rfl)|(have e:=k9 (s:=s) h11 (by omega) h38; rw [e.1,e.2]<;>rfl)|(have e:=mW (s:=s) h11 (by omega) h38; rw [e.1,e.2]<;>rfl)|(have e:=mr (s:=s) h11 (by omega); rw [e.1,e.2]<;>rfl)
 replace h29:=XF h29
 refine WK hK9<|WS fun _ hK15=>rS (LW 4 rfl eP rfl rfl)<|rS (LW 3 rfl iI rfl rfl)<|rS (CL (q4 l kA kC az cA cC bA bC s hin (by first|assumption|omega|(simp; done)|(simp; omega)) (by first|assumption|omega|(simp; done)|(simp; omega))) (ax 5 rfl rfl<|ax 6 rfl rfl<|ax 7 rfl rfl<|ax 8 rfl rfl<|ar) rfl)<|AL rfl dk fun b16=>e7 rfl cv rfl<|RK hK15<|aw fun _ hK17=>WS fun _ hK18=>?_
 refine rS (FA 0 rfl bP rfl)<|rS (L1 (Value.int .i64 ((cp l s).Lo)) 0 rfl bk rfl rfl)<|rS (FA 1 rfl bZ rfl)<|rS (L1 (Value.int .i64 ((cp l s).Hi)) 0 rfl bk rfl rfl)<|rS (BI rfl eL)<|RK hK18 ?_
 refine bp rfl (fun h38=>?_) (fun h38=>?_)
 rotate_left 1
 ·replace h38:=DF h38
  refine WK hK17<|WS fun _ hK20=>rS (LW 0 rfl cB rfl rfl)<|By rfl cv rfl<|rS (AG rfl)<|RK hK20<|aE ?_
  refine hQ _ _ _ (bD (vs:=[(Value.agg (ab.cells (cp l s)).toArray),(Value.int .i64 0)]) ⟨⟨_,rfl,.inl ⟨_,_,cB,cd (vs:=(ab.cells (cp l s))) 3 rfl rfl,rfl,rfl⟩⟩,rfl,trivial⟩ fun w hs=>eR ?_ hs)
  show (Value.tuple [(Value.agg (ab.cells (cp l s)).toArray),(Value.int .i64 0)].toArray)=(Value.tuple [(Value.agg (ab.cells (ju l s)).toArray),(Value.int .i64 (iO l s))].toArray)
  clear hs w hQ hN hK20 hK18 hK17 hK15 hK10 hK9 hK7 hK6 hK5 hK1
  first|(have e:=mh (s:=s) h11; rw [e.1,e.2]<;>rfl)|(have e:=k9 (s:=s) h11 (by omega) h38; rw [e.1,e.2]<;>rfl)|(have e:=mW (s:=s) h11 (by omega) h38; rw [e.1,e.2]<;>rfl)|(have e:=mr (s:=s) h11 (by omega); rw [e.1,e.2]<;>rfl)
 replace h38:=DT h38
 refine WS fun _ hK19=>rS (SX (aS (xs:=[]) (cs:=(ab.cells (ab.mk 0 0))) rfl rfl (aR fG rfl)) rfl rfl)<|By rfl cv rfl<|rS (AG rfl)<|RK hK19<|aE ?_
 refine hQ _ _ _ (bD (vs:=[(Value.agg (ab.cells (ab.mk 0 0)).toArray),(Value.int .i64 6)]) ⟨⟨_,rfl,.inl ⟨_,_,cB,cd (vs:=(ab.cells (ab.mk 0 0))) 3 rfl rfl,rfl,rfl⟩⟩,rfl,trivial⟩ fun w hs=>eR ?_ hs)
 show (Value.tuple [(Value.agg (ab.cells (ab.mk 0 0)).toArray),(Value.int .i64 6)].toArray)=(Value.tuple [(Value.agg (ab.cells (ju l s)).toArray),(Value.int .i64 (iO l s))].toArray)
 clear hs w hQ hN hK19 hK18 hK17 hK15 hK10 hK9 hK7 hK6 hK5 hK1
 first|(have e:=mh (s:=s) h11; rw [e.1,e.2]<;>rfl)|(have e:=k9 (s:=s) h11 (by omega) h38; rw [e.1,e.2]<;>rfl)|(have e:=mW (s:=s) h11 (by omega) h38; rw [e.1,e.2]<;>rfl)|(have e:=mr (s:=s) h11 (by omega); rw [e.1,e.2]<;>rfl)
set_option maxRecDepth 100000 in
set_option maxHeartbeats 400000 in
theorem zS (l:aV) (kA:Option Addr) (kC:Nat) (az:List RA) (cA:Option Addr) (cC:Nat) (bA:Option Addr) (bC:Nat) (n:Int) (hin:dM l az):
 dY Tryz.prog 54 [(Value.agg (aG.cells (aG.mk (ay.mk (aA.mk kA l.au.length kC)) l.bJ (aA.mk cA l.ag.length cC) (aA.mk bA l.aa.length bC) l.aB l.aZ l.aO)).toArray),(Value.int .i64 n)] [(rd kA l.au.length 9 (l.au.map ah.cells)),(rd cA l.ag.length 2 (List.zipWith ao.cells l.ag az)),(c_ (aP ao.eX l.ag az)),(rd bA l.aa.length 4 (l.aa.map aT.cells))] (Value.tuple [(Value.int .i64 (ml l n)),(Value.int .i64 (kJ l n))].toArray):=by
 have htk:=hin.o0
 have hck:=hin.oZ
 have has:=hin.oG
 have hbm:=hin.oI
 refine bG GL Tryz.func54 rfl rfl fun w0 Q hQ hN=>?_
 try dsimp only
 refine WS fun _ hK1=>gv rfl fun b2=>rS (AG rfl)<|rS (AG rfl)<|RK hK1<|aw fun _ hK3=>WS fun _ hK4=>rS (LW 0 rfl eP rfl rfl)<|rS (CL (mK l kA kC az cA cC bA bC hin) (ax 1 rfl rfl<|ax 2 rfl rfl<|ax 3 rfl rfl<|ax 4 rfl rfl<|ar) rfl)<|rS (AG rfl) ?_
 refine RK hK4<|WS fun _ hK5=>rS (MV rfl)<|rS (BI rfl eB)<|RK hK5 ?_
 refine bp rfl (fun h10=>?_) (fun h10=>?_)
 ·replace h10:=XT h10
  refine WS fun _ hK6=>rS (MV rfl)<|rS (AG rfl)<|rS (AG rfl)<|RK hK6<|aE<|Q2 hQ rfl rfl rfl rfl ?_
  first|(have e:=pb (i:=n) h10; rw [e.1,e.2]<;>rfl)|(have e:=oc (i:=n) h10 (by omega); rw [e.1,e.2]<;>rfl)|(have e:=o5 (i:=n) h10 (by omega); rw [e.1,e.2]<;>rfl)
 replace h10:=XF h10
 refine WK hK3<|aw fun _ hK7=>WS fun _ hK8=>rS (FA 3 rfl dQ rfl) ?_
 obtain ⟨htr,hok⟩:=dD h10
 have hhd:=hok.head
 unfold cU at hhd
 refine rS (L1 (Value.slice bA l.aa.length bC) 0 rfl hP rfl rfl)<|rS (LN rfl jz)<|rS (BI rfl (cr ⟨by omega,by omega⟩))<|rS (MV rfl)<|dV (xs:=[.tmp 16]) (cs:=[(Value.int .i64 n)]) rfl di kb rfl rfl rfl rfl (by simp [Value.cells]) rfl rfl fun b9=>rS (CL (dY.eq (d_ 0 (((l.aa.length:Nat):Int)-1) ([n]) (some ⟨b9,0,none⟩) 1 (by first|assumption|omega|(simp; done)|(simp; omega))) cI) (aF (a4 0 rfl rfl (by simp [bO]) rfl)<|ar) rfl)<|rS (NT rfl)<|RK hK8 ?_
 refine bp rfl (fun h19=>?_) (fun h19=>?_)
 ·replace h19:=XT h19
  refine WS fun _ hK10=>rS (AG rfl)<|rS (AG rfl)<|RK hK10<|aE<|Q2 hQ rfl rfl rfl rfl ?_
  first|(have e:=pb (i:=n) h10; rw [e.1,e.2]<;>rfl)|(have e:=oc (i:=n) h10 (by omega); rw [e.1,e.2]<;>rfl)|(have e:=o5 (i:=n) h10 (by omega); rw [e.1,e.2]<;>rfl)
 replace h19:=XF h19
 refine WK hK7<|aw fun _ hK11=>dj ct 9 (by kernel_rfl)<|dS (LW 1 rfl eP rfl rfl)<|dS (MV rfl)<|dS (CL (vy l kA kC az cA cC bA bC n hin (by first|assumption|omega|(simp; done)|(simp; omega)) (by exact hok.ij) (by first|assumption|omega|(simp; done)|(simp; omega))) (ax 2 rfl rfl<|ax 3 rfl rfl<|ax 4 rfl rfl<|ax 5 rfl rfl<|ar) rfl) ?_
 have hwb:=ur htr hok.ij n.toNat
 have hwy:=hok.re n.toNat (by omega)
 refine dS (BI rfl (mA ⟨by omega,by omega⟩))<|dS (FA 1 rfl qt rfl)<|dS (L1 (Value.int .i64 l.bJ) 1 rfl bk rfl rfl)<|dS (CL (v3 (1000*(iw l n.toNat)) l.bJ (by first|assumption|omega|(simp; done)|(simp; omega)) (by first|assumption|omega|(simp; done)|(simp; omega))) (ar) rfl)<|dS (AG rfl)<|dS (AG rfl)<|cE<|RK hK11<|aE<|Q2 hQ rfl rfl rfl rfl ?_
 first|(have e:=pb (i:=n) h10; rw [e.1,e.2]<;>rfl)|(have e:=oc (i:=n) h10 (by omega); rw [e.1,e.2]<;>rfl)|(have e:=o5 (i:=n) h10 (by omega); rw [e.1,e.2]<;>rfl)
end
section
open Go.RowKit
set_option linter.unusedVariables false
set_option maxRecDepth 100000 in
set_option maxHeartbeats 400000 in
theorem nG (ln:aG) (ri:aN) (e:List Int) (tms:List TM) (e_A:Option Addr) (e_C:Nat) (tb:List Nat) (t_A:Option Addr) (t_C:Nat) (fA:Option Addr) (fN:Nat) (fC:Nat) (bA:Option Addr) (bN:Nat) (bC:Nat) (gw:Nat) (b:Nat) (g1:Nat) (g2:Nat) (hb:b<tms.length) (htb:tb.length=tms.length):
 AM Tryz.prog 87 [] [(Value.pointer (some ⟨g1,0,none⟩)),(Value.pointer (some ⟨g2,0,none⟩))] [(rd e_A e.length 1 (e.map iC)),(rd t_A tms.length 1 (List.zipWith cb tms tb)),(c_ (aP gJ tms tb)),(aU gw 117 (aK.cells (aK.mk ln ri (aA.mk e_A e.length e_C) (aA.mk t_A tms.length t_C) (aA.mk fA fN fC) (aA.mk bA bN bC)))),(aU g1 77 [(Value.pointer (some ⟨gw,0,none⟩))]),(aU g2 3 [(Value.int .i64 ((b:Nat):Int))])] ([]:List (Int×ab)) (fun ys x ys'=> ∃ o,o∈fK (bL ln ri e tms) b∧x=Bz o∧ys'=ys++[o]) (fun ys=> ∀ o∈fK (bL ln ri e tms) b,o∈ys):=by
 refine vw E3 Tryz.func87 rfl rfl fun l J Z A0 w0 Q hY hJ0 hF0 hQ hN=>?_
 try dsimp only
 refine aw fun _ hK1=>aw fun _ hK2=>dj ct 12 (by kernel_rfl)<|dS (MV rfl)<|dS (rY 5 rfl iQ rfl)<|dS (SX (cl rfl rfl) rfl rfl)<|dS (FA 7 rfl m6 rfl)<|dS (FA 7 rfl fH rfl)<|dS (l9 (Value.int .i64 ri.Start) 4 rfl bk rfl rfl)<|dS (rY 5 rfl iQ rfl) ?_
 refine dS (SX (cl rfl rfl) rfl rfl)<|dS (FA 7 rfl m6 rfl)<|dS (FA 8 rfl lj rfl)<|dS (l9 (Value.int .i64 ri.dw) 4 rfl bk rfl rfl)<|dS (SX (aS (xs:=[(0,.tmp 11),(1,.tmp 16)]) (cs:=(ab.cells (ab.mk ri.Start ri.dw))) rfl rfl (aR fG rfl)) rfl rfl)<|cE ?_
 refine qf (k:=([]:List (Int×ab))) (k':=(([]:List (Int×ab))++[((-1),(ab.mk ri.Start ri.dw))])) 0 (by first|exact hsz|exact Nat.le_refl _) hY hJ0 hF0 rfl rfl rfl (by exact ⟨(-1,⟨ri.Start,ri.dw⟩),List.mem_cons_self ..,rfl,rfl⟩) rfl rfl (fun B3 hJ4 hF5=>?_) (fun B3 hJ4 hF5=>?_)
 rotate_left 1
 ·refine rS (NT rfl) ?_
  refine RK hK2<|aW rfl<|aE ?_
  refine hQ _ _ _ (bD (vs:=[]) trivial fun w hs=>x_ 0 rfl hJ4 hF5 hs)
 refine rS (NT rfl)<|RK hK2<|bH rfl<|WK hK1<|aw fun _ hK6=>dj ct 7 (by kernel_rfl)<|dS (rY 5 rfl iQ rfl)<|dS (SX (cl rfl rfl) rfl rfl)<|dS (FA 11 rfl lp rfl)<|dS (l9 (Value.slice t_A tms.length t_C) 4 rfl qV rfl rfl) ?_
 refine dS (rY 6 rfl bk rfl) ?_
 obtain ⟨x,hx⟩: ∃ y_,tms[b]? =some y_:=⟨tms[b]'(by omega),List.getElem?_eq_getElem _⟩
 obtain ⟨xa,hxa⟩: ∃ y_,tb[b]? =some y_:=⟨tb[b]'(by omega),List.getElem?_eq_getElem _⟩
 have hxm:(List.zipWith cb tms tb)[b]? =some (cb x xa):=jH hx hxa
 refine dS (IA b rfl (aQ 2 rfl) ql (by decide) (by omega) (by omega))<|dS (ir b 0 (Value.map (some xa)) rfl sc (aQ 2 rfl) hxm rfl (by decide) rfl)<|cE<|lx (kV:=iV) (m:=bu kr x) 3 rfl rfl tr rfl ⟨⟨(jr iV xa (bu kr x)),(fg hx hxa (by simp [gJ])),rfl⟩,fun h=>h⟩ (show nj _ (jr iV xa (bu kr x)).holds from jI 3 rfl (fg hx hxa (by simp [gJ]))) rfl fun r7=>?_
 try dsimp only
 refine RK hK6<|aH ?_
 have hinit:(∀ o∈x,o∈x∨o∈(([]:List (Int×ab))++[((-1),(ab.mk ri.Start ri.dw))]))∧(∀ o∈x,o∈x)∧(J (([]:List (Int×ab))++[((-1),(ab.mk ri.Start ri.dw))]) B3)∧(Fo A0 w0 B3)∧((-1,(⟨ri.Start,ri.dw⟩:ab))∈(([]:List (Int×ab))++[((-1),(ab.mk ri.Start ri.dw))])):=by exact ⟨fun o ho=> .inl ho,fun o ho=>ho,by assumption,by assumption,by simp⟩
 refine cP (ι:={z:TM×(List (Int×ab))×aD // (∀ o∈x,o∈z.1∨o∈z.2.1)∧(∀ o∈z.1,o∈x)∧(J z.2.1 z.2.2)∧(Fo A0 w0 z.2.2)∧((-1,(⟨ri.Start,ri.dw⟩:ab))∈z.2.1)}) (fun z=>[(0,(Value.func (.yield l) #[] #[])),(1,(Value.pointer (some ⟨g1,0,none⟩))),(2,(Value.pointer (some ⟨g2,0,none⟩))),(27,(Value.pointer (some ⟨r7,0,none⟩)))]) (fun z=>[(nV iV r7 xa (bu kr x) (bu kr z.1.1) none),z.1.2.2,(rd e_A e.length 1 (e.map iC)).ro,(rd t_A tms.length 1 (List.zipWith cb tms tb)).ro,(c_ (aP gJ tms tb)).ro,(aU g1 77 [(Value.pointer (some ⟨gw,0,none⟩))]).ro,(aU g2 3 [(Value.int .i64 ((b:Nat):Int))]).ro]) (fun z=>z.1.1.length) ⟨(x,(([]:List (Int×ab))++[((-1),(ab.mk ri.Start ri.dw))]),B3),hinit⟩ (an.cons rfl<|an.cons rfl<|an.cons rfl<|an.cons rfl<|an.nil _) (fun w hs=>St.bB [0,1,2,3,4,6,7] rfl rfl hs) ?_
 clear hinit
 rintro ⟨⟨left,ys,A⟩,⟨hl2_0,hl2_1,hl2_2,hl2_3,hl2_4⟩⟩ J8 hJ8
 try dsimp only at hl2_0 hl2_1 hl2_2 hl2_3 hl2_4
 try dsimp only
 refine WS fun _ hK9=>?_
 refine ko (jo rl).inj (f:=kr) 0 rfl rfl rfl rfl (fun h28=>?_) (fun i z hm hn=>?_)
 ·refine rS (EX rfl) ?_
  refine RK hK9<|aw fun _ hK10=>bH rfl<|bM<|ai<|ai<|aI ?_
  refine hN _ _ _ (bD (vs:=[]) trivial fun w hs=>DU 1 rfl (by exact w8 hx hl2_0 h28 hl2_4) hl2_2 hl2_3 hs)
 try dsimp only
 refine rS (EX rfl)<|RK hK9<|aw fun _ hK11=>aW rfl<|WK hK11<|aH<|WS fun _ hK12=>rS (SX (kz 0 rfl rfl rfl) rfl rfl)<|rS (EX rfl)<|rS (EX rfl) ?_
 refine AL rfl dk fun b13=>rS (AG rfl)<|e7 rfl cv rfl<|RK hK12<|WS fun _ hK14=>rS (MV rfl)<|rS (MV rfl)<|rS (LW 0 rfl cB rfl rfl) ?_
 refine qf (k:=ys) (k':=(ys++[(i,z)])) 2 (by first|exact hsz|exact Nat.le_refl _) hY hl2_2 hl2_3 rfl rfl rfl (by exact ⟨(i,z),(qM hx).2 (.inr (hl2_1 _ hm)),rfl,rfl⟩) rfl rfl (fun B15 hJ16 hF17=>?_) (fun B15 hJ16 hF17=>?_)
 rotate_left 1
 ·refine rS (NT rfl) ?_
  refine RK hK14<|aW rfl<|aE ?_
  refine hQ _ _ _ (bD (vs:=[]) trivial fun w hs=>x_ 2 rfl hJ16 hF17 hs)
 refine rS (NT rfl)<|RK hK14<|bH rfl<|cH<|aL<|mq (C':=[(aU b13 47 (ab.cells z)),(nV iV r7 xa (bu kr x) (bu kr (cL left i)) none),B15,(rd e_A e.length 1 (e.map iC)).ro,(rd t_A tms.length 1 (List.zipWith cb tms tb)).ro,(c_ (aP gJ tms tb)).ro,(aU g1 77 [(Value.pointer (some ⟨gw,0,none⟩))]).ro,(aU g2 3 [(Value.int .i64 ((b:Nat):Int))]).ro]) 1 rfl kL rfl ?_
 refine aY (hJ8 ⟨((cL left i),(ys++[(i,z)]),B15),⟨wh hn hm hl2_0,jw hl2_1,by assumption,by assumption,by simp [hl2_4]⟩⟩ _ _ _ rfl (iH hm) (an.cons rfl<|an.cons rfl<|an.cons rfl<|an.cons rfl<|an.nil _) (fun w hs=>St.bB [1,2,3,4,5,6,7] rfl rfl hs))
set_option maxRecDepth 100000 in
set_option maxHeartbeats 400000 in
theorem oQ (gw:Nat) (b:Nat):
 rM Tryz.prog 68 [(Value.pointer (some ⟨gw,0,none⟩)),(Value.int .i64 ((b:Nat):Int))] [] (fun (x:Nat×Nat)=>(Value.func (.func 87) [].toArray [(Value.pointer (some ⟨x.1,0,none⟩)),(Value.pointer (some ⟨x.2,0,none⟩))].toArray)) (fun (x:Nat×Nat)=>True) (fun (x:Nat×Nat)=>[(aU x.1 77 [(Value.pointer (some ⟨gw,0,none⟩))]),(aU x.2 3 [(Value.int .i64 ((b:Nat):Int))])]):=by
 refine gX Ff Tryz.func68 rfl rfl fun w0 Q hQ hN=>?_
 try dsimp only
 refine WS fun _ hK1=>vY rfl rfl fun b2=>vY rfl rfl fun b3=>rS (AG rfl)<|RK hK1<|WS fun _ hK4=>rS (FU rfl)<|rS (AG rfl)<|RK hK4<|aE ?_
 refine hQ _ _ _ (bD (vs:=[(Value.func (.func 87) [].toArray [(Value.pointer (some ⟨b2,0,none⟩)),(Value.pointer (some ⟨b3,0,none⟩))].toArray)]) ⟨rfl,trivial⟩ fun w hs=>fj (b2,b3) [1,0] ?_ ?_ rfl rfl rfl hs)
 ·rfl
 ·trivial
set_option maxRecDepth 100000 in
set_option maxHeartbeats 400000 in
theorem qq (gw:Nat) (b:Nat):
 rM Tryz.prog 40 [(Value.pointer (some ⟨gw,0,none⟩)),(Value.int .i64 ((b:Nat):Int))] [] (fun (x:Nat×Nat)=>(Value.func (.func 67) [].toArray [(Value.pointer (some ⟨x.1,0,none⟩)),(Value.pointer (some ⟨x.2,0,none⟩))].toArray)) (fun (x:Nat×Nat)=>True) (fun (x:Nat×Nat)=>[(aU x.1 77 [(Value.pointer (some ⟨gw,0,none⟩))]),(aU x.2 3 [(Value.int .i64 ((b:Nat):Int))])]):=by
 refine gX F7 Tryz.func40 rfl rfl fun w0 Q hQ hN=>?_
 try dsimp only
 refine WS fun _ hK1=>vY rfl rfl fun b2=>vY rfl rfl fun b3=>rS (AG rfl)<|RK hK1<|WS fun _ hK4=>rS (FU rfl)<|rS (AG rfl)<|RK hK4<|aE ?_
 refine hQ _ _ _ (bD (vs:=[(Value.func (.func 67) [].toArray [(Value.pointer (some ⟨b2,0,none⟩)),(Value.pointer (some ⟨b3,0,none⟩))].toArray)]) ⟨rfl,trivial⟩ fun w hs=>fj (b2,b3) [1,0] ?_ ?_ rfl rfl rfl hs)
 ·rfl
 ·trivial
end
end Go.Proofs.YthiigjekcdjkkaaGreat
