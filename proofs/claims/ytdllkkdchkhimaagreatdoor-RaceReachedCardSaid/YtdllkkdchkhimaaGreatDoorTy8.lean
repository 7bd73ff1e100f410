/-
 The statement raceReached_said, part 8 of 8: B9, WLe, Ends5, Can, False, Sim, Told, Clear, Ways, WayM, R1, Y1, Y2, Y3, Y5, Rr3, Rr4, Rr5, Rra, Ry1, Ry5, Ry6, LineOpen, RaceOpen, Reached0.
 Conditions: none.
-/
import Derived.Test.YtdllkkdchkhimaaGreatDoorTy1
import Derived.Test.YtdllkkdchkhimaaGreatDoorTy2
import Derived.Test.YtdllkkdchkhimaaGreatDoorTy3
import Derived.Test.YtdllkkdchkhimaaGreatDoorTy4
import Derived.Test.YtdllkkdchkhimaaGreatDoorTy5
import Derived.Test.YtdllkkdchkhimaaGreatDoorTy6
import Derived.Test.YtdllkkdchkhimaaGreatDoorTy7
import Derived.Test.YtdllkkdchkhimaaGreatDoorCards
import Derived.Test.YtdllkkdchkhimaaGreatDoorTie
import Derived.SevenTiedAt
import Derived.LaidMore
import Derived.Stop.Joined
import Derived.Test.YtdllkkdchkhimaaGreatDoorRows
import Derived.Test.YtdllkkdchkhimaaGreatDoorProg
import Derived.KernelRfl
namespace Go.Proofs.YtdllkkdchkhimaaGreatDoor
set_option maxRecDepth 100000
set_option maxHeartbeats 4000000
set_option linter.unusedVariables false
section
open Go.RowKit
theorem Bm (l:bf) (kA:OA) (kC:Nat) (az:List RA) (cA:OA) (cC:Nat) (bA:OA) (bC:Nat) (hin:eE l az):
 ej Tryz.prog 72 [(vA (bK.cells (lp l kA kC cA cC bA bC)))] [(rd kA l.aJ.length 9 (l.aJ.map ao.cells)),(rd cA l.ai.length 2 (List.zipWith au.cells l.ai az)),(e7 (aU au.gY l.ai az)),(rd bA l.ag.length 4 (l.ag.map bE.cells))] (vI (dw l)):=by
 have N:=hin.sE
 have M:=hin.sD
 have K:=hin.og
 have L:=hin.sB
 refine bI kr Tryz.func72 U U fun P Q hQ hN=>?_
 try dsimp only
 refine WS fun _ C=>fV U fun O=>bg 1 U<|RK C<|al fun _ D=>WS fun _ E=>bg 1 U<|rS (LP (aZ.cells (aZ.mk (aM.mk kA l.aJ.length kC))) 0 U cq U U U)<|rS (CL (vK l.aJ kA kC asm) (bp [1]) U)<|rP 1 [] I ?_
 refine RK E<|cM U (fun A=>?_) (fun A=>?_)
 ·rw [Bool.not_eq_true'] at A
  refine WS fun _ F=>rP 1 [] I ?_
  refine RK F<|ar<|Q1 hQ U U U ?_
  exact cI (yv (by simpa using A)).symm
 rw [Bool.not_eq_false'] at A
 refine WK D<|al fun _ G=>WS fun _ H=>fE 1 [] (mc 0 U I) U<|rS (CL (Ms l kA kC az cA cC bA bC hin asm) (bp [1,2,3,4]) U)<|rP 1 [] I ?_
 refine RK H<|cM U (bx fun B=>?_) (bw fun B=>?_)
 ·refine WS fun _ AA=>rP 1 [] I ?_
  refine RK AA<|ar<|Q1 hQ U U U ?_
  exact cI (qD A B).symm
 refine WK G<|WS fun _ J=>rP 1 [] I ?_
 refine RK J<|ar<|Q1 hQ U U U ?_
 exact cI (wW A B).symm
theorem MQ (l:bf) (kA:OA) (kC:Nat) (az:List RA) (cA:OA) (cC:Nat) (bA:OA) (bC:Nat) (s:aN) (hin:eE l az) (hok:lf l) (hs:(0≤s.gj∧s.gj≤(l.ag.length:Int)-1)∧0≤s.Read∧s.Read≤86400000):
 ej Tryz.prog 169 [(vA (bK.cells (lp l kA kC cA cC bA bC))),(vA (aN.cells s))] [(rd kA l.aJ.length 9 (l.aJ.map ao.cells)),(rd cA l.ai.length 2 (List.zipWith au.cells l.ai az)),(e7 (aU au.gY l.ai az)),(rd bA l.ag.length 4 (l.ag.map bE.cells))] (vT [(vA (aa.cells (cH l s))),(vB (decide ((cH l s).Lo≤(cH l s).Hi)))]):=by
 have AE:=hin.sE
 have AD:=hin.sD
 have AB:=hin.og
 have AC:=hin.sB
 refine bI kr Tryz.func169 U U fun w0 Q hQ hN=>?_
 try dsimp only
 refine WS fun _ i=>fV U fun b2=>fV U fun b3=>AL U dg fun b4=>rP 1 [] I ?_
 refine RK i<|al fun _ j=>dR cD [11,12] [] [] [0,1,2,3,4,5,6] [] U U U U U<|eS U (FA 2 U fD U)<|eS U (L1 (vS cA l.ai.length cC) 2 U cq U U)<|eS U (FA 3 U fD U)<|eS U (L1 (vS bA l.ag.length bC) 2 U cq U U)<|eS U (FA 0 U fD U)<|eS U (L1 (vI s.gj) 1 U cq U U) ?_
 obtain ⟨y,hy⟩:=aO l.ag ((s.gj).toNat) om
 have w:=bP bE.cells hy
 refine eS U (IA ((s.gj).toNat) U (aG 6 U) vt dc om om)<|eS U (nK ((((s.gj).toNat)*4)+3) U (aG 6 U) (Nat.mul_pos om dc) fD U)<|eS U (gF ((s.gj).toNat) 3 (vI y.jM) U cq (aG 6 U) w U dc U) ?_
 have AF:=(hok.vw _ (aX hy)).2
 obtain ⟨x,hx⟩:=aO l.ai ((y.jM).toNat) om
 obtain ⟨xa,J⟩:=aO az ((y.jM).toNat) om
 have u:(List.zipWith au.cells l.ai az)[(y.jM).toNat]? =some (au.cells x xa):=dZ hx J
 refine eS U (IA ((y.jM).toNat) U (aG 4 U) zV dc om om)<|eS U (oB ((y.jM).toNat) 0 (dv.cells (dv.mk x.dj (aM.mk xa.1 x.bu.length xa.2))) U cq (aG 4 U) u U dc U U)<|e8 U<|cp U fun T6 m=>AL U Jw fun b7=>aH (m _ _ (aK [1,2,3,4,5,6,7]) ?_)
 refine cp U fun T8 o=>fR U O1 U<|aH (o _ _ (aK [1,2,3,4,5,6,7]) ?_)
 refine fM U<|KK j<|WS fun _ k=>rP 2 [] I ?_
 refine RK k<|al fun _ K=>aw ?_
 have A:(0≤(0:Int)∧(0:Int)≤(fu (gd x s.Read) 86400001))∧((fu (gd x s.Read) 86400001)≤(86400001:Int)∧(86400001:Int)≤86400001):=by (have Z:=ia (p:=gd x s.Read) (n:=86400001); omega)
 refine bO (ι:={z:Int×Int // (0≤z.1∧z.1≤(fu (gd x s.Read) 86400001))∧((fu (gd x s.Read) 86400001)≤z.2∧z.2≤86400001)}) [2,3,4,6] [0,1,2,3,4,5,6,7] U U (fun z=>[(7,(vI z.1.1)),(8,(vI z.1.2))]) (fun z=>[]) (fun _=>rfl) (fun _=>rfl) (fun z=>(z.1.2-z.1.1).toNat) ⟨((0:Int),(86400001:Int)),A⟩ (aQ U) (aK [0,1,2,3,4,5,6,7]) ?_
 clear A
 rintro ⟨⟨a,b⟩,⟨H,AG⟩⟩ J11 F
 try dsimp only at H AG
 try dsimp only
 have B:=hok.clock _ (aX hx)
 have Z:=ia (p:=gd x s.Read) (n:=86400001)
 have Y:=ia (p:=gf x s.Read) (n:=86400001)
 refine al fun _ L=>WS fun _ M=>rP 3 [] I ?_
 refine RK M<|cM U (aS fun c=>?_) (aR fun c=>?_)
 ·refine WK L<|aw<|WS fun _ N=>bg 3 U<|rS (BI U (tm om om om))<|bg 1 U<|RK N<|al fun _ O=>dF cD 9 kr<|dP 3 [] (mc 0 U I) ?_
  refine dS (CL (B4 x xa.1 xa.2 ((a+b)/2) asm om) (ay (show jc _ (rd xa.1 x.bu.length 3 (x.bu.map cG.cells)).holds from (dy 6 U (cj hx J (by simp [au.gY]))))<|aL) U)<|dS (SX (kQ (v:=(vI ((hP x ((a+b)/2)).Hi))) U U fD Ad U) U U) ?_
  have t:=pX B (show 0≤(a+b)/2∧(a+b)/2≤90000000 by omega)
  refine dP 4 [] (mc 2 U I) ?_
  refine cO<|RK O<|cM U (aS fun g=>?_) (aR fun g=>?_)
  ·refine an<|rP 2 [] I ?_
   refine aH<|aD ?_
   refine aT (F ⟨(a,((a+b)/2)),(by dsimp only; have hm:=kO (r:=s.Read) B (x:=(a+b)/2) om om; rcases Int.lt_or_le ((a+b)/2) (fu (gd x s.Read) 86400001) with q|q; (have C:=hm.1 q; simp only [gd,decide_eq_false_iff_not] at C; omega); (have C:=hm.2.1 q; simp only [gd,decide_eq_true_eq] at C; omega))⟩ _ _ _ rfl (by simp only []; omega) (aQ rfl) (aK [0,1,2,3,4,5,6,7]))
  refine an<|rP 3 [] I ?_
  refine aH<|aD ?_
  refine aT (F ⟨((((a+b)/2)+1),b),(by dsimp only; have hm:=kO (r:=s.Read) B (x:=(a+b)/2) om om; rcases Int.lt_or_le ((a+b)/2) (fu (gd x s.Read) 86400001) with q|q; (have C:=hm.1 q; simp only [gd,decide_eq_false_iff_not] at C; omega); (have C:=hm.2.1 q; simp only [gd,decide_eq_true_eq] at C; omega))⟩ _ _ _ rfl (by simp only []; omega) (aQ rfl) (aK [0,1,2,3,4,5,6,7]))
 refine bB<|ae<|ae<|ax<|KK K<|WS fun _ P=>bg 2 U<|RK P<|WS fun _ R=>rP 2 [] I ?_
 refine RK R<|al fun _ S=>aw ?_
 have A:(-1≤((-1):Int)∧((-1):Int)≤(fu (gf x s.Read) 86400001)-1)∧((fu (gf x s.Read) 86400001)-1≤(86400000:Int)∧(86400000:Int)≤86400000):=by (have Y:=ia (p:=gf x s.Read) (n:=86400001); omega)
 refine bO (ι:={z:Int×Int // (-1≤z.1∧z.1≤(fu (gf x s.Read) 86400001)-1)∧((fu (gf x s.Read) 86400001)-1≤z.2∧z.2≤86400000)}) [2,3,4,6,10] [0,1,2,3,4,5,6,7] U U (fun z=>[(7,(vI z.1.1)),(8,(vI z.1.2))]) (fun z=>[]) (fun _=>rfl) (fun _=>rfl) (fun z=>(z.1.2-z.1.1).toNat) ⟨(((-1):Int),(86400000:Int)),A⟩ (aQ U) (aK [0,1,2,3,4,5,6,7]) ?_
 clear A
 rintro ⟨⟨d,e⟩,⟨D,E⟩⟩ J20 G
 try dsimp only at D E
 try dsimp only
 have B:=hok.clock _ (aX hx)
 have Z:=ia (p:=gd x s.Read) (n:=86400001)
 have Y:=ia (p:=gf x s.Read) (n:=86400001)
 refine al fun _ T=>WS fun _ AA=>rP 3 [] I ?_
 refine RK AA<|bR U (aR fun f=>?_) (aS fun f=>?_)
 ·refine bB<|ae<|ae<|ax<|KK S<|WS fun _ X=>bg 2 U<|rS (SX (bj (xs:=[(0,.tmp 63),(1,.tmp 64)]) (cs:=(aa.cells (aa.mk a d))) U U (bh gl U)) U U)<|bg 3 U<|tP U cu U<|rP 1 [] I ?_
  refine RK X<|ar<|lk hQ [0] (mc 1 U I) U ?_
  have e0:cH l s=⟨a,d⟩:=by (unfold cH qc; rw [wo hy hx,show a=(fu (gd x s.Read) 86400001) by omega,show d=(fu (gf x s.Read) 86400001)-1 by omega])
  rw [e0]
 refine WK T<|aw<|WS fun _ V=>bg 4 U<|rS (BI U (tm om om om))<|bg 1 U<|RK V<|al fun _ W=>dF cD 9 kr<|dP 3 [] (mc 0 U I) ?_
 refine dS (CL (B4 x xa.1 xa.2 (((d+e)+1)/2) asm om) (ay (show jc _ (rd xa.1 x.bu.length 3 (x.bu.map cG.cells)).holds from (dy 6 U (cj hx J (by simp [au.gY]))))<|aL) U)<|dS (SX (kQ (v:=(vI ((hP x (((d+e)+1)/2)).Lo))) U U fD zO U) U U) ?_
 have t:=pX B (show 0≤(d+e+1)/2∧(d+e+1)/2≤90000000 by omega)
 refine dP 4 [] (mc 2 U I) ?_
 refine cO<|RK W<|cM U (aS fun h=>?_) (aR fun h=>?_)
 ·refine an<|rP 2 [] I ?_
  refine aH<|aD ?_
  refine aT (G ⟨((((d+e)+1)/2),e),(by dsimp only; have hm:=kO (r:=s.Read) B (x:=(d+e+1)/2) om om; rcases Int.lt_or_le ((d+e+1)/2) (fu (gf x s.Read) 86400001) with q|q; (have C:=hm.2.2.1 q; simp only [gf,decide_eq_false_iff_not] at C; omega); (have C:=hm.2.2.2 q; simp only [gf,decide_eq_true_eq] at C; omega))⟩ _ _ _ rfl (by simp only []; omega) (aQ rfl) (aK [0,1,2,3,4,5,6,7]))
 refine an<|rP 3 [] I ?_
 refine aH<|aD ?_
 refine aT (G ⟨(d,((((d+e)+1)/2)-1)),(by dsimp only; have hm:=kO (r:=s.Read) B (x:=(d+e+1)/2) om om; rcases Int.lt_or_le ((d+e+1)/2) (fu (gf x s.Read) 86400001) with q|q; (have C:=hm.2.2.1 q; simp only [gf,decide_eq_false_iff_not] at C; omega); (have C:=hm.2.2.2 q; simp only [gf,decide_eq_true_eq] at C; omega))⟩ _ _ _ rfl (by simp only []; omega) (aQ rfl) (aK [0,1,2,3,4,5,6,7]))
end
section
structure Em (w w':bT):Prop where
 start:w'.Start=w.Start
 now:w.gh≤w'.gh
 n:w'.n=w.n
 least: ∀ b,bV w' b≤bV w b
 times:w'.ve=w.ve
 Pk:w.bL≤w'.bL
 Q0:w.cv≤w'.cv
 sigs:w'.O_=w.O_
variable {w w':bT}
theorem Em.opt (h:Em w w') {b:Nat} {o:Int×aa} (ho:o∈il w b): ∃ o'∈il w' b,o'.1=o.1∧o'.2.Lo≤o.2.Lo∧o.2.Hi≤o'.2.Hi:=by
 unfold il at ho
 rcases List.mem_cons.1 ho with rfl|ho
 ·exact ⟨(-1,⟨w'.Start,w'.gh⟩),cm ..,U,by simp only [h.start]; omega,h.now⟩
 ·refine ⟨o,cS _ ?_,U,Int.le_refl _,Int.le_refl _⟩
  unfold tw at ho ⊢; rw [h.times]; exact ho
theorem Em.may (h:Em w w') {t:aC} (ht:kq w t=true):kq w' t=true:=by
 unfold kq at ht ⊢
 have:=of_decide_eq_true ht
 have A:=h.Pk
 have B:=h.Q0
 have C:=h.sigs
 exact fO om
theorem Em.fwd (h:Em w w'): ∀ (b:Nat) (p:aC×Int),p∈fwd w b→ ∃ p'∈Go.Proofs.YtdllkkdchkhimaaGreatDoor.fwd w' b,p'.1=p.1∧p'.2≤p.2:=by
 intro b
 induction b with
 |zero=>
  intro p hp
  simp only [Go.Proofs.YtdllkkdchkhimaaGreatDoor.fwd,bW] at hp ⊢
  subst hp
  exact ⟨_,U,U,by simp only [h.start]; omega⟩
 |succ b ih=>
  intro q hq
  obtain ⟨p,hp,o,ho,e⟩:=fP.1 hq
  obtain ⟨p',hp',A,D⟩:=ih p hp
  obtain ⟨o',ho',B,E,F⟩:=h.opt ho
  have hl:=h.least b
  have hn:=h.now
  unfold kF at e
  split at e
  ·rename_i C
   simp only [Option.some.injEq] at e
   subst e
   refine ⟨(du p'.1 (fp o'.1),max (p'.2+bV w' b) o'.2.Lo),fP.2 ⟨p',hp',o',ho',by unfold kF; rw [if_pos om]⟩,by simp only [A,B],by simp only; omega⟩
  ·cases e
theorem Em.bwd (h:Em w w'): ∀ (k:Nat) (p:aC×Int),p∈bwd w k→ ∃ p'∈Go.Proofs.YtdllkkdchkhimaaGreatDoor.bwd w' k,p'.1=p.1∧p.2≤p'.2:=by
 intro k
 induction k with
 |zero=>
  intro p hp
  simp only [Go.Proofs.YtdllkkdchkhimaaGreatDoor.bwd,bW] at hp ⊢
  subst hp
  exact ⟨_,U,U,h.now⟩
 |succ k ih=>
  intro q hq
  simp only [Go.Proofs.YtdllkkdchkhimaaGreatDoor.bwd,eA,List.mem_flatMap,List.mem_filterMap] at hq ⊢
  rcases hq with rfl|⟨p,hp,o,ho,e⟩
  ·exact ⟨_,.inl U,U,h.now⟩
  ·obtain ⟨p',hp',A,D⟩:=ih p hp
   obtain ⟨o',ho',B,E,F⟩:=h.opt ho
   have hl:=h.least (w.n-(k+1))
   rw [h.n]
   unfold nN at e
   split at e
   ·rename_i C
    simp only [Option.some.injEq] at e
    subst e
    exact ⟨(du p'.1 (fp o'.1),min p'.2 o'.2.Hi-bV w' (w.n-(k+1))),.inr ⟨p',hp',o',ho',by unfold nN; rw [if_pos om]⟩,by simp only [A,B],by simp only; omega⟩
   ·cases e
theorem Em.back (h:Em w w') {b:Nat} {p:aC×Int} (hp:p∈back w b): ∃ p'∈Go.Proofs.YtdllkkdchkhimaaGreatDoor.back w' b,p'.1=p.1∧p.2≤p'.2:=by
 unfold Go.Proofs.YtdllkkdchkhimaaGreatDoor.back at hp ⊢
 rw [h.n]
 exact h.bwd _ p hp
theorem Em.pass (h:Em w w') {b:Nat} {q:Int×aa} (hq:q∈ml w b): ∃ q'∈ml w' b,q'.1=q.1∧q'.2.Lo≤q.2.Lo∧q.2.Hi≤q'.2.Hi:=by
 obtain ⟨o,ho,p,hp,u,hu,e⟩:=hE.1 hq
 obtain ⟨D,E,rfl⟩:=jl.1 e
 obtain ⟨o',ho',A,F,G⟩:=h.opt ho
 obtain ⟨p',hp',B,H⟩:=h.fwd _ p hp
 obtain ⟨u',hu',C,AA⟩:=h.back hu
 have hl:=h.least b
 simp only [jq] at D
 refine ⟨(o'.1,jq w' b p' u' o'),hE.2 ⟨o',ho',p',hp',u',hu',jl.2 ⟨?_,?_,U⟩⟩,A,?_,?_⟩
 ·simp only [jq]; omega
 ·have:=h.may E
  unfold xD at this ⊢
  rw [A,B,C]; exact this
 ·simp only [jq]; omega
 ·simp only [jq]; omega
theorem oF {k:Int}:k∈jD w↔ ∃ i:Nat,k=(i:Int)∧i≤w.n∧jm w (fwd w i)=true:=by
 unfold jD kf
 simp only [tx,List.mem_filter,List.mem_range]
 constructor
 ·rintro ⟨i,⟨B,A⟩,rfl⟩; exact ⟨i,rfl,om,A⟩
 ·rintro ⟨i,rfl,B,A⟩; exact ⟨i,⟨om,A⟩,rfl⟩
theorem Em.GV (h:Em w w') {k:Int} (hk:k∈jD w):k∈jD w':=by
 obtain ⟨i,rfl,C,A⟩:=oF.1 hk
 refine oF.2 ⟨i,U,by rw [h.n]; exact C,?_⟩
 unfold jm at A ⊢
 obtain ⟨p,hp,D⟩:=List.any_eq_true.1 A
 obtain ⟨p',hp',B,_⟩:=h.fwd _ p hp
 exact List.any_eq_true.2 ⟨p',hp',by rw [B]; exact h.may D⟩
/-- two rides, of two lines, of which one allows more -/
structure Tx (l:bf) (r:cE) (l':bf) (r':cE):Prop where
 line:dw l=0
 line':dw l'=0
 ym:fh l r
 ride':fh l' r'
 w:Em (ct l r) (ct l' r')
 O8:l'.ag.length=l.ag.length
variable {l l':bf} {r r':cE}
theorem Tx.ok (h:Tx l r l' r') (he:eH l r 0=0):eH l' r' 0=0:=by
 refine lO h.line' h.ride' U fun e=>?_
 obtain ⟨k,hk⟩:=List.exists_mem_of_ne_nil _ (j1 he).2.2.2
 have:=h.w.GV hk
 rw [e] at this; cases this
theorem Tx.z9 (h:Tx l r l' r') {k:Int} (hk:k∈k7 l r):k∈k7 l' r':=by
 by_cases he:eH l r 0=0
 ·rw [lH he] at hk
  rw [lH (h.ok he)]
  exact h.w.GV hk
 ·rw [ud he] at hk; cases hk
theorem Hs {b:Nat} (hb:b<l.ag.length):eH l r (jC l b)=eH l r 0:=by rw [xA om]
theorem yZ {b:Nat}:bV (ct l r) b=if b<l.ag.length then eh l b else 0:=by
 unfold bV ct cL
 split
 ·rename_i h
  simp [h]
 ·rename_i h
  simp [h]
theorem Hm {sg:List aN} {i:Nat} (h:i=0):mG sg i=⟨-1,0⟩:=by subst h; rfl
theorem qT {sg:List aN} {i:Nat} {y:aN} (h:0<i) (hy:sg[i-1]? =some y):mG sg i=y:=by unfold mG; rw [if_neg om,hy]; rfl
def Qs (l:bf):Prop:= ¬ mD l∧dw l=0
noncomputable instance (l:bf):Decidable (Qs l):=Classical.propDecidable _
end
section
/-- where a sled may be after k beams more -/
def fW (w:bT):Nat→Nat→aC×Int→List (aC×Int)
 |0,_,p=>[p]
 |k+1,b,p=>(il w b).flatMap fun o=>match kF w b p o with
  |some q=>fW w k (b+1) q
  |none=>[]
variable {w:bT}
theorem g_ {k b:Nat} {p q:aC×Int}:q∈fW w (k+1) b p↔ ∃ o∈il w b,∃ p',kF w b p o=some p'∧q∈fW w k (b+1) p':=by
 simp only [fW,List.mem_flatMap]
 constructor
 ·rintro ⟨o,ho,h⟩
  cases e:kF w b p o with
  |none=>rw [e] at h; cases h
  |some p'=>rw [e] at h; exact ⟨o,ho,p',e,h⟩
 ·rintro ⟨o,ho,p',e,h⟩
  exact ⟨o,ho,by rw [e]; exact h⟩
theorem q_: ∀ (k b:Nat) (q:aC×Int),q∈fwd w (b+k)↔ ∃ p∈fwd w b,q∈fW w k b p:=by
 intro k
 induction k with
 |zero=>
  intro b q
  simp only [Nat.add_zero,fW,bW]
  exact ⟨fun h=>⟨q,h,rfl⟩,fun ⟨p,hp,e⟩=>e▸hp⟩
 |succ k ih=>
  intro b q
  rw [show b+(k+1)=(b+1)+k by omega,ih]
  constructor
  ·rintro ⟨p',hp',h⟩
   obtain ⟨p,hp,o,ho,e⟩:=fP.1 hp'
   exact ⟨p,hp,g_.2 ⟨o,ho,p',e,h⟩⟩
  ·rintro ⟨p,hp,h⟩
   obtain ⟨o,ho,p',e,h'⟩:=g_.1 h
   exact ⟨p',fP.2 ⟨p,hp,o,ho,e⟩,h'⟩
theorem gK {b:Nat} {p q:aC×Int} {o:Int×aa}:kF w b p o=some q↔max (p.2+bV w b) o.2.Lo≤min o.2.Hi w.gh∧q=(du p.1 (fp o.1),max (p.2+bV w b) o.2.Lo):=by
 unfold kF
 split
 ·rename_i h
  constructor
  ·intro e; cases e; exact ⟨h,rfl⟩
  ·rintro ⟨_,rfl⟩; rfl
 ·rename_i h
  constructor
  ·intro e; cases e
  ·rintro ⟨h',_⟩; exact absurd h' h
theorem tS {b:Nat} {p q:aC×Int} {o:Int×aa}:nN w b p o=some q↔o.2.Lo≤min p.2 o.2.Hi∧q=(du p.1 (fp o.1),min p.2 o.2.Hi-bV w b):=by
 unfold nN
 split
 ·rename_i h
  constructor
  ·intro e; cases e; exact ⟨h,rfl⟩
  ·rintro ⟨_,rfl⟩; rfl
 ·rename_i h
  constructor
  ·intro e; cases e
  ·rintro ⟨h',_⟩; exact absurd h' h
theorem GK {b:Nat} (hb:b≤w.n):((⟨0,0⟩:aC),w.gh)∈back w b:=by
 rcases Nat.lt_or_ge b w.n with h|h
 ·exact (oR h).2 (.inl U)
 ·rw [ux h]; simp
theorem mU (t:aC):du t ⟨0,0⟩=t:=by cases t; simp [du]
theorem yL (a o u:aC):du (du a o) u=du a (du u o):=by simp only [du,aC.mk.injEq]; omega
theorem FB (hl: ∀ b,0≤bV w b): ∀ (k:Nat) (u:aC×Int),u∈bwd w k→u.2≤w.gh:=by
 intro k
 induction k with
 |zero=>intro u hu; simp only [bwd,bW] at hu; subst hu; exact Int.le_refl _
 |succ k ih=>
  intro u hu
  simp only [bwd,eA,List.mem_flatMap,List.mem_filterMap] at hu
  rcases hu with rfl|⟨p,hp,o,ho,e⟩
  ·exact Int.le_refl _
  ·obtain ⟨_,rfl⟩:=tS.1 e
   have:=ih p hp
   have:=hl (w.n-(k+1))
   simp only; omega
/-- what follows a passing is told by the way back -/
theorem NU: ∀ (k b:Nat) (p q:aC×Int),b+k≤w.n→p.2≤w.gh→q∈fW w k b p→ ∃ u∈back w b,p.2≤u.2∧q.1=du p.1 u.1:=by
 intro k
 induction k with
 |zero=>
  intro b p q hb hp hq
  simp only [fW,bW] at hq
  subst hq
  exact ⟨_,GK om,hp,(mU _).symm⟩
 |succ k ih=>
  intro b p q hb hp hq
  obtain ⟨o,ho,p',e,h⟩:=g_.1 hq
  obtain ⟨C,rfl⟩:=gK.1 e
  obtain ⟨u',hu',B,A⟩:=ih (b+1) _ q om (by simp only; omega) h
  simp only at B A
  refine ⟨(du u'.1 (fp o.1),min u'.2 o.2.Hi-bV w b),(oR om).2 (.inr ⟨u',hu',o,ho,tS.2 ⟨om,U⟩⟩),by simp only; omega,?_⟩
  rw [A,yL]
theorem KE (hl: ∀ b,0≤bV w b): ∀ (d b:Nat) (p u:aC×Int),w.n=b+d→p.2≤u.2→u∈back w b→ ∃ k,b+k≤w.n∧ ∃ q∈fW w k b p,q.1=du p.1 u.1:=by
 intro d
 induction d with
 |zero=>
  intro b p u hd hp hu
  rw [ux om] at hu
  simp only [bW] at hu
  subst hu
  exact ⟨0,om,p,by simp [fW],(mU _).symm⟩
 |succ d ih=>
  intro b p u hd hp hu
  rcases (oR om).1 hu with rfl|⟨u',hu',o,ho,e⟩
  ·exact ⟨0,om,p,by simp [fW],(mU _).symm⟩
  ·obtain ⟨B,rfl⟩:=tS.1 e
   have hn:u'.2≤w.gh:=FB hl _ _ hu'
   simp only at hp
   obtain ⟨k,hk,q,hq,A⟩:=ih (b+1) (du p.1 (fp o.1),max (p.2+bV w b) o.2.Lo) u' om (by simp only; omega) hu'
   refine ⟨k+1,om,q,g_.2 ⟨o,ho,_,gK.2 ⟨om,U⟩,hq⟩,?_⟩
   rw [A]; simp only; rw [yL]
end
section
section
variable {l:bf} {r:cE} {one at_:Int} {d:Nat} {f g m:Int} {rec:Int→Int→Int→Bool} {i:Int}
end
theorem qz {l:bf} {r:cE} {d:Nat} (hd:d<l.ag.length) {o:Int×aa}:o∈il (ct l r) d↔o=(-1,⟨r.Start,r.gh⟩)∨ ∃ k,k<r.aj.length∧ ∃ s,r.aj[k]? =some s∧(s.gj=(d:Int)∧(cH l s).Lo≤(cH l s).Hi)∧o=((k:Int),cH l s):=by
 unfold il tw
 show o∈(-1,(⟨r.Start,r.gh⟩:aa))::((ei l r.aj r.aj.length)[d]?).getD []↔_
 rw [o1 hd,Option.getD_some,eA,rM]
theorem o7 {l:bf} {r:cE} {d:Nat} (hd:d<l.ag.length):bV (ct l r) d=eh l d:=by rw [yZ,if_pos hd]
theorem uC {l:bf} {n d:Nat} {y:Int} (h:(cL l n)[d]? =some y):y=eh l d:=by
 unfold cL at h
 rw [fB] at h
 have hd:d<n:=by
  rcases Nat.lt_or_ge d n with q|q
  ·exact q
  ·rw [List.getElem?_eq_none (by simpa using q)] at h; cases h
 rw [List.getElem?_range hd] at h
 exact (Option.some.inj h).symm
end
section
def PH (w:bT) (b:Nat) (i:Int):Prop:= ∃ b',b'<b∧ ∃ q∈ml w b',q.1=i
noncomputable instance (w:bT) (b:Nat) (i:Int):Decidable (PH w b i):=Classical.propDecidable _
def v7 (w:bT) (b:Nat):Bool:=(ml w b).any fun q=>decide (0≤q.1)
def Ae (w:bT) (k:Nat):List Int:=((List.range k).filter fun b=> !v7 w b).map fun (b:Nat)=>(b:Int)
noncomputable def vL (l:bf) (r:cE):List Int:=if eH l r 0=0 then Ae (ct l r) (xL (k7 l r)).toNat else []
theorem xn {l:bf} {r:cE} (h:eH l r 0=0):vL l r=Ae (ct l r) (xL (k7 l r)).toNat:=if_pos h
theorem v9 {l:bf} {r:cE} (h: ¬ eH l r 0=0):vL l r=[]:=if_neg h
theorem Sr {l:bf} {r:cE} (h:eH l r 0=0):0≤xL (k7 l r)∧xL (k7 l r)≤(l.ag.length:Int):=by
 have A:=(Ge (ui h)).1
 rw [lH h] at A ⊢
 obtain ⟨i,e,hi,_⟩:=oF.1 A
 have hn:(ct l r).n=l.ag.length:=eo
 omega
end
section
/-- a truth goes on from here -/
def sj (w:bT) (b:Nat) (p:aC×Int):Prop:= ∃ k,b+k≤w.n∧ ∃ q∈fW w k b p,kq w q.1=true
/-- a truth may have come here, or earlier -/
def Db (w:bT) (b:Nat) (p:aC×Int):Prop:= ∃ v,(p.1,v)∈fwd w b∧v≤p.2
def JI (n:Int) (p:aC×Int):aC×Int:=(p.1,p.2+n)
section
variable {w:bT}
theorem GG: ∀ (k j b:Nat) (p q z:aC×Int),q∈fW w k b p→z∈fW w j (b+k) q→z∈fW w (k+j) b p:=by
 intro k
 induction k with
 |zero=>
  intro j b p q z A B
  simp only [fW,bW] at A
  subst A
  rw [Nat.zero_add]; exact B
 |succ k ih=>
  intro j b p q z A B
  obtain ⟨o,ho,p',e,h⟩:=g_.1 A
  rw [show k+1+j=(k+j)+1 by omega]
  exact g_.2 ⟨o,ho,p',e,ih j (b+1) p' q z h (by rw [show b+1+k=b+(k+1) by omega]; exact B)⟩
theorem BL: ∀ (k b:Nat) (t:aC) (x y:Int) (q:aC×Int),y≤x→q∈fW w k b (t,x)→ ∃ q'∈fW w k b (t,y),q'.1=q.1∧q'.2≤q.2:=by
 intro k
 induction k with
 |zero=>
  intro b t x y q A hq
  simp only [fW,bW] at hq ⊢
  subst hq
  exact ⟨_,U,U,A⟩
 |succ k ih=>
  intro b t x y q A hq
  obtain ⟨o,ho,p',e,h⟩:=g_.1 hq
  obtain ⟨B,rfl⟩:=gK.1 e
  simp only at B h
  obtain ⟨q',hq',C,D⟩:=ih (b+1) _ _ (max (y+bV w b) o.2.Lo) q om h
  exact ⟨q',g_.2 ⟨o,ho,_,gK.2 ⟨by simp only; omega,U⟩,hq'⟩,C,D⟩
theorem xu {b:Nat} {t:aC} {x y:Int} (h:sj w b (t,x)) (hy:y≤x):sj w b (t,y):=by
 obtain ⟨k,hk,q,hq,hm⟩:=h
 obtain ⟨q',hq',e,_⟩:=BL k b t x y q hy hq
 exact ⟨k,hk,q',hq',by rw [e]; exact hm⟩
theorem uB {k b:Nat} {p q:aC×Int} (h:q∈fW w k b p) (hv:sj w (b+k) q):sj w b p:=by
 obtain ⟨j,hj,z,hz,hm⟩:=hv
 exact ⟨k+j,om,z,GG k j b p q z h hz,hm⟩
theorem Gz {b:Nat} {p q:aC×Int} {o:Int×aa} (h:Db w b p) (ho:o∈il w b) (e:kF w b p o=some q):Db w (b+1) q:=by
 obtain ⟨v,hv,A⟩:=h
 obtain ⟨B,rfl⟩:=gK.1 e
 exact ⟨max (v+bV w b) o.2.Lo,fP.2 ⟨_,hv,o,ho,gK.2 ⟨by simp only; omega,U⟩⟩,by simp only; omega⟩
theorem CF {b:Nat} {p:aC×Int} (h:p∈fwd w b):Db w b p:=⟨p.2,h,Int.le_refl _⟩
theorem yB (hl: ∀ b,0≤bV w b): ∀ (b:Nat) (p:aC×Int),p∈fwd w b→w.Start≤p.2:=by
 intro b
 induction b with
 |zero=>intro p hp; simp only [fwd,bW] at hp; subst hp; exact Int.le_refl _
 |succ b ih=>
  intro q hq
  obtain ⟨p,hp,o,ho,e⟩:=fP.1 hq
  obtain ⟨_,rfl⟩:=gK.1 e
  have:=ih p hp
  have:=hl b
  simp only; omega
/-- a beam is passed at a time, by a signal -/
def wL (w:bT) (b:Nat) (s t:Int):Prop:= ∃ p∈fwd w b,∃ o∈il w b,o.1=s∧(max (p.2+bV w b) o.2.Lo≤t∧t≤min o.2.Hi w.gh)∧sj w (b+1) (du p.1 (fp o.1),t)
theorem z_ (hl: ∀ b,0≤bV w b) {b:Nat} (hb:b<w.n) {s t:Int}:(∃ q∈ml w b,q.1=s∧q.2.Lo≤t∧t≤q.2.Hi)↔wL w b s t:=by
 constructor
 ·rintro ⟨q,hq,hs,C,D⟩
  obtain ⟨o,ho,p,hp,u,hu,e⟩:=hE.1 hq
  obtain ⟨B,A,rfl⟩:=jl.1 e
  simp only [jq] at C D B
  have hn:u.2≤w.gh:=FB hl _ _ hu
  obtain ⟨k,hk,q,hq',E⟩:=KE hl (w.n-(b+1)) (b+1) (du p.1 (fp o.1),t) u om (by simp only; omega) hu
  refine ⟨p,hp,o,ho,hs,⟨om,om⟩,k,hk,q,hq',?_⟩
  rw [E]
  unfold xD at A
  rw [show du (du p.1 (fp o.1)) u.1=du (du p.1 u.1) (fp o.1) by simp only [du,aC.mk.injEq]; omega]
  exact A
 ·rintro ⟨p,hp,o,ho,hs,⟨C,D⟩,k,hk,q,hq,hm⟩
  obtain ⟨u,hu,B,A⟩:=NU k (b+1) _ q hk (by simp only; omega) hq
  simp only at B A
  refine ⟨(o.1,jq w b p u o),hE.2 ⟨o,ho,p,hp,u,hu,jl.2 ⟨by simp only [jq]; omega,?_,U⟩⟩,hs,by simp only [jq]; omega,by simp only [jq]; omega⟩
  unfold xD
  rw [A] at hm
  rw [show du (du p.1 u.1) (fp o.1)=du (du p.1 (fp o.1)) u.1 by simp only [du,aC.mk.injEq]; omega]
  exact hm
end
structure yh (w w':bT) (n:Int) (f:Int→Int):Prop where
 start:w'.Start=w.Start+n
 now:w'.gh=w.gh+n
 wn:w'.n=w.n
 low: ∀ b,0≤bV w b
 least: ∀ b,bV w' b=bV w b
 may: ∀ t,kq w t=true→kq w' t=true
 Uf: ∀ s,0≤f s↔0≤s
 opt: ∀ (b:Nat) (p:aC×Int) (o:Int×aa),b<w.n→w.Start≤p.2→Db w b p→o∈il w b→max (p.2+bV w b) o.2.Lo≤min o.2.Hi w.gh→sj w (b+1) (du p.1 (fp o.1),max (p.2+bV w b) o.2.Lo)→
  ∃ o'∈il w' b,o'.1=f o.1∧ ∀ t,w.Start≤t→t≤w.gh→((o.2.Lo≤t∧t≤o.2.Hi)↔(o'.2.Lo≤t+n∧t+n≤o'.2.Hi))
section
variable {w w':bT} {n:Int} {f g:Int→Int}
theorem yh.one (h:yh w w' n f) (s:Int):fp (f s)=fp s:=by
 unfold fp
 have:=h.Uf s
 by_cases q:s<0
 ·rw [if_pos q,if_pos om]
 ·rw [if_neg q,if_neg om]
theorem yh.step (h:yh w w' n f) {b:Nat} {p q:aC×Int} {o:Int×aa} (hb:b<w.n) (hs:w.Start≤p.2) (hl:Db w b p) (ho:o∈il w b) (e:kF w b p o=some q) (hv:sj w (b+1) q):
 ∃ o'∈il w' b,kF w' b (JI n p) o'=some (JI n q):=by
 obtain ⟨E,rfl⟩:=gK.1 e
 obtain ⟨o',ho',D,A⟩:=h.opt b p o hb hs hl ho E hv
 have F:=h.low b
 have B:=A (max (p.2+bV w b) o.2.Lo) om om
 have C:=A (max (p.2+n+bV w b) o'.2.Lo-n) om
 refine ⟨o',ho',gK.2 ?_⟩
 simp only [JI,h.least,h.now]
 rw [D,h.one]
 have G:=B.1 om
 have H:=(C om).2 om
 refine ⟨om,?_⟩
 simp only [Prod.mk.injEq,true_and]
 omega
theorem yh.reach (h:yh w w' n f): ∀ (k b:Nat) (p q:aC×Int),b+k≤w.n→w.Start≤p.2→Db w b p→q∈fW w k b p→sj w (b+k) q→JI n q∈fW w' k b (JI n p):=by
 intro k
 induction k with
 |zero=>
  intro b p q _ _ _ hq _
  simp only [fW,bW] at hq ⊢
  rw [hq]
 |succ k ih=>
  intro b p q hb hs hl hq hv
  obtain ⟨o,ho,p',e,hq'⟩:=g_.1 hq
  have hv':sj w (b+1) p':=uB hq' (by rw [show b+1+k=b+(k+1) by omega]; exact hv)
  obtain ⟨o',ho',e'⟩:=h.step om hs hl ho e hv'
  have A:=gK.1 e
  have B:=h.low b
  exact g_.2 ⟨o',ho',_,e',ih (b+1) p' q om (by rw [A.2]; simp only; omega) (Gz hl ho e) hq' (by rw [show b+1+k=b+(k+1) by omega]; exact hv)⟩
theorem yh.Ps (h:yh w w' n f) {b:Nat} {p:aC×Int} (hs:w.Start≤p.2) (hl:Db w b p) (hv:sj w b p):sj w' b (JI n p):=by
 obtain ⟨k,hk,q,hq,hm⟩:=hv
 exact ⟨k,by rw [h.wn]; exact hk,_,h.reach k b p q hk hs hl hq ⟨0,om,q,by simp [fW],hm⟩,h.may _ hm⟩
theorem yh.fwd (h:yh w w' n f) {b:Nat} {q:aC×Int} (hb:b≤w.n) (hq:q∈fwd w b) (hv:sj w b q):JI n q∈Go.Proofs.YtdllkkdchkhimaaGreatDoor.fwd w' b:=by
 obtain ⟨p,hp,hr⟩:=(q_ b 0 q).1 (by rw [Nat.zero_add]; exact hq)
 have hr':=h.reach b 0 p q om (yB h.low 0 p hp) (CF hp) hr (by rw [Nat.zero_add]; exact hv)
 have:JI n p∈Go.Proofs.YtdllkkdchkhimaaGreatDoor.fwd w' 0:=by
  simp only [Go.Proofs.YtdllkkdchkhimaaGreatDoor.fwd,bW] at hp ⊢
  subst hp
  rw [h.start]; rfl
 have A:=(q_ b 0 (JI n q)).2 ⟨_,this,hr'⟩
 rwa [Nat.zero_add] at A
theorem yh.any (h:yh w w' n f) {b:Nat} (hb:b≤w.n) (hm:jm w (Go.Proofs.YtdllkkdchkhimaaGreatDoor.fwd w b)=true):jm w' (Go.Proofs.YtdllkkdchkhimaaGreatDoor.fwd w' b)=true:=by
 unfold jm at hm ⊢
 obtain ⟨p,hp,A⟩:=List.any_eq_true.1 hm
 exact List.any_eq_true.2 ⟨_,h.fwd hb hp ⟨0,om,p,by simp [fW],A⟩,h.may _ A⟩
theorem yh.pass (h:yh w w' n f) {b:Nat} (hb:b<w.n) {s t:Int} (hp:wL w b s t):wL w' b (f s) (t+n):=by
 obtain ⟨p,hp,o,ho,rfl,⟨D,G⟩,hv⟩:=hp
 have hs:=yB h.low b p hp
 have hl:=h.low b
 have A:sj w (b+1) (du p.1 (fp o.1),max (p.2+bV w b) o.2.Lo):=xu hv D
 have e:kF w b p o=some (du p.1 (fp o.1),max (p.2+bV w b) o.2.Lo):=gK.2 ⟨om,rfl⟩
 have B:sj w b p:=uB (k:=1) (g_.2 ⟨o,ho,_,e,by simp [fW]⟩) A
 obtain ⟨o',ho',C,E⟩:=h.opt b p o hb hs (CF hp) ho om A
 have c:=(E t om om).1 om
 refine ⟨JI n p,h.fwd om hp B,o',ho',C,?_,?_⟩
 ·simp only [JI,h.least,h.now]; omega
 ·have F:=h.Ps (b:=b+1) (p:=(du p.1 (fp o.1),t)) (by simp only; omega) ⟨_,fP.2 ⟨p,hp,o,ho,e⟩,D⟩ hv
  rw [C,h.one]; exact F
theorem Lr (h:yh w w' n f) (h':yh w' w (-n) g):jD w'=jD w:=by
 unfold jD
 rw [h.wn]
 unfold kf
 congr 1
 refine List.filter_congr fun b hb=>?_
 have hb:=List.mem_range.1 hb
 rw [Bool.eq_iff_iff]
 exact ⟨h'.any (by rw [h.wn]; omega),h.any om⟩
theorem Bl (h:yh w w' n f) (hl': ∀ b,0≤bV w' b) {b:Nat} (hb:b<w.n) {s:Int} (hq: ∃ q∈ml w b,q.1=s): ∃ q∈ml w' b,q.1=f s:=by
 obtain ⟨q,hq,e⟩:=hq
 have A:q.2.Lo≤q.2.Hi:=mP hq
 obtain ⟨q',hq',e',_⟩:=(z_ hl' (by rw [h.wn]; exact hb)).2 (h.pass hb ((z_ h.low hb).1 ⟨q,hq,e,Int.le_refl _,A⟩))
 exact ⟨q',hq',e'⟩
theorem GS (h:yh w w' n f) (h':yh w' w (-n) g) {b:Nat} (hb:b<w.n):v7 w' b=v7 w b:=by
 rw [Bool.eq_iff_iff]
 unfold v7
 simp only [List.any_eq_true,decide_eq_true_eq]
 constructor
 ·rintro ⟨q,hq,A⟩
  obtain ⟨q',hq',e⟩:=Bl h' h.low (by rw [h.wn]; exact hb) ⟨q,hq,rfl⟩
  exact ⟨q',hq',by rw [e]; exact (h'.Uf _).2 A⟩
 ·rintro ⟨q,hq,A⟩
  obtain ⟨q',hq',e⟩:=Bl h h'.low hb ⟨q,hq,rfl⟩
  exact ⟨q',hq',by rw [e]; exact (h.Uf _).2 A⟩
end
section
variable {l l':bf} {r r':cE} {n:Int} {f g:Int→Int}
structure vp (l:bf) (r:cE) (l':bf) (r':cE) (n:Int) (f g:Int→Int):Prop where
 line:dw l=0
 line':dw l'=0
 ym:fh l r
 ride':fh l' r'
 O8:l'.ag.length=l.ag.length
 to:yh (ct l r) (ct l' r') n f
 Vc:yh (ct l' r') (ct l r) (-n) g
theorem vp.GV (h:vp l r l' r' n f g):jD (ct l' r')=jD (ct l r):=Lr h.to h.Vc
theorem vp.e (h:vp l r l' r' n f g) {me:Int}:eH l' r' me=eH l r me:=by
 by_cases hm:me=0
 ·by_cases q:jD (ct l r)=[]
  ·rw [pj h.line h.ym hm q,pj h.line' h.ride' hm (h.GV.trans q)]
  ·rw [lO h.line h.ym hm q,lO h.line' h.ride' hm (by rw [h.GV]; exact q)]
 ·rw [qv h.line h.ym hm,qv h.line' h.ride' hm]
theorem vp.z9 (h:vp l r l' r' n f g):k7 l' r'=k7 l r:=by
 by_cases q:eH l r 0=0
 ·rw [lH q,lH (h.e.trans q),h.GV]
 ·rw [ud q,ud (by rw [h.e]; exact q)]
theorem vp.vw (h:vp l r l' r' n f g) {b:Int}:jC l' b=jC l b:=by unfold jC; rw [h.O8]
theorem vp.bn (h:vp l r l' r' n f g):(ct l r).n=l.ag.length:=eo
theorem vp.eU (h:vp l r l' r' n f g):vL l' r'=vL l r:=by
 by_cases q:eH l r 0=0
 ·rw [xn q,xn (h.e.trans q),h.z9]
  have hb:=Sr q
  unfold Ae
  congr 1
  refine List.filter_congr fun b A=>?_
  have A:=List.mem_range.1 A
  rw [GS h.to h.Vc (by rw [h.bn]; omega)]
 ·rw [v9 q,v9 (by rw [h.e]; exact q)]
end
end
section
theorem RO (a b:Int) (ha:0≤a) (hb:0<b):0≤a % b∧a % b<b:=⟨Int.emod_nonneg _ (Int.ne_of_gt hb),Int.emod_lt_of_pos _ hb⟩
theorem mS {l:bf} (ht:cV l.aJ=true) (h:lf l) {i:Nat} (hi:i<l.ag.length):1≤eh l i∧eh l i≤500000000:=by
 have A:=h.QM i hi
 have B:=F4 ht h.vw i
 have hf:=h.head.1
 unfold eh o5
 refine ⟨(Int.le_ediv_iff_mul_le om).2 om,?_⟩
 have:(1000*lV l i+l.dM-1)/l.dM≤1000*lV l i+l.dM-1:=Int.ediv_le_self _ om
 omega
end
section
def cY (good:List Int):aC:=good.foldl (fun t g=>du t (fp g)) ⟨0,0⟩
theorem j0 {l:List Int} {g:Int}:cY (l++[g])=du (cY l) (fp g):=by unfold cY; rw [List.foldl_append]; rfl
def tF (r:cE) (times:List Int) (b:Nat):Int:=if b=0 then r.Start else (times[b-1]?).getD 0
theorem px {r:cE} {times:List Int} {b:Nat} {t:Int} (h:times[b]? =some t):tF r times (b+1)=t:=by unfold tF; rw [if_neg om,Nat.add_sub_cancel,h]; rfl
structure iq (l:bf) (r:cE) (times good:List Int):Prop where
 ym:fh l r
 len:good.length=times.length
 le:times.length≤l.ag.length
 step: ∀ (b:Nat) t,times[b]? =some t→tF r times b+eh l b≤t∧t≤r.gh
 sig: ∀ (b:Nat) t g,times[b]? =some t→good[b]? =some g→g= -1∨ ∃ (k:Nat) (s:aN),g=(k:Int)∧r.aj[k]? =some s∧s.gj=(b:Int)∧(cH l s).Lo≤t∧t≤(cH l s).Hi
 Ja:(cY good).eU≤l.bL
 Rp:(r.aj.length:Int)-(cY good).right≤l.cv
section
variable {l:bf} {r:cE} {times good:List Int}
theorem iq.low (h:iq l r times good) (hl:dw l=0): ∀ b,0≤bV (ct l r) b:=fun b=>by
 obtain ⟨ht,A⟩:=gL hl
 exact ((oD ht A h.ym).bV b).1
theorem iq.least (h:iq l r times good) {b:Nat} (hb:b<times.length):bV (ct l r) b=eh l b:=by
 have:=h.le
 rw [yZ,if_pos om]
theorem iq.from_ (h:iq l r times good) (hl:dw l=0): ∀ b:Nat,b≤times.length→r.Start≤tF r times b∧tF r times b≤r.gh:=by
 intro b
 induction b with
 |zero=>intro _; have:=h.ym.time; unfold tF; rw [if_pos rfl]; omega
 |succ b ih=>
  intro hb
  have ht:times[b]? =some (times[b]'om):=e9 _
  have B:=ih om
  have C:=h.step b _ ht
  have A:=h.low hl b
  rw [h.least om] at A
  rw [px ht]
  omega
/-- what comes next, in the truth -/
theorem iq.opt (h:iq l r times good) (hl:dw l=0) {b:Nat} {t g:Int} (ht:times[b]? =some t) (hg:good[b]? =some g): ∃ o∈il (ct l r) b,o.1=g∧o.2.Lo≤t∧t≤o.2.Hi:=by
 have hb:=(List.getElem?_eq_some_iff.1 ht).1
 have E:=h.le
 have F:=h.step b t ht
 have G:=h.from_ hl b om
 have B:=h.low hl b
 rw [h.least hb] at B
 rcases h.sig b t g ht hg with rfl|⟨k,s,rfl,hs,A,C,D⟩
 ·exact ⟨(-1,⟨r.Start,r.gh⟩),(qz om).2 (.inl U),U,by simp only; omega,by simp only; omega⟩
 ·exact ⟨((k:Int),cH l s),(qz om).2 (.inr ⟨k,(List.getElem?_eq_some_iff.1 hs).1,s,hs,⟨A,om⟩,U⟩),U,C,D⟩
theorem lB {α:Type} {l:List α} {b:Nat} {x:α} (h:l[b]? =some x):l.take (b+1)=l.take b++[x]:=by rw [List.take_add_one,h]; rfl
theorem iq.live (h:iq l r times good) (hl:dw l=0): ∀ b:Nat,b≤times.length→Db (ct l r) b (cY (good.take b),tF r times b):=by
 intro b
 induction b with
 |zero=>intro _; exact ⟨r.Start,by simp [fwd,cY]; rfl,by unfold tF; rw [if_pos rfl]; exact Int.le_refl _⟩
 |succ b ih=>
  intro hb
  have B:=h.len
  have ht:times[b]? =some (times[b]'om):=e9 _
  have hg:good[b]? =some (good[b]'om):=e9 _
  obtain ⟨v,hv,A⟩:=ih om
  obtain ⟨o,ho,e,C,D⟩:=h.opt hl ht hg
  have E:=h.step b _ ht
  have F:=h.least (b:=b) om
  simp only at A hv
  rw [px ht,lB hg,j0,← e]
  refine ⟨max (v+bV (ct l r) b) o.2.Lo,fP.2 ⟨_,hv,o,ho,gK.2 ⟨?_,U⟩⟩,?_⟩
  ·have G:(ct l r).gh=r.gh:=rfl
   simp only; omega
  ·simp only; omega
theorem iq.Ps (h:iq l r times good) (hl:dw l=0): ∀ (d b:Nat),b+d=times.length→sj (ct l r) b (cY (good.take b),tF r times b):=by
 intro d
 induction d with
 |zero=>
  intro b hb
  have hn:(ct l r).n=l.ag.length:=eo
  have C:=h.len
  have D:=h.le
  refine ⟨0,om,_,by simp [fW]; rfl,?_⟩
  rw [List.take_of_length_le om]
  unfold kq
  have A:=h.Ja
  have B:=h.Rp
  exact fO ⟨A,B⟩
 |succ d ih=>
  intro b hb
  have C:=h.len
  have ht:times[b]? =some (times[b]'om):=e9 _
  have hg:good[b]? =some (good[b]'om):=e9 _
  obtain ⟨o,ho,e,D,A⟩:=h.opt hl ht hg
  have B:=h.step b _ ht
  have E:=h.least (b:=b) om
  have F:(ct l r).gh=r.gh:=rfl
  have hv:=ih (b+1) om
  rw [px ht,lB hg,j0,← e] at hv
  exact uB (k:=1) (g_.2 ⟨o,ho,_,gK.2 ⟨by first|omega|(simp only; omega),U⟩,by simp [fW]; rfl⟩) (xu hv (by first|omega|(simp only; omega)))
theorem iq.pass (h:iq l r times good) (hl:dw l=0) {b:Nat} {t g:Int} (ht:times[b]? =some t) (hg:good[b]? =some g):wL (ct l r) b g t:=by
 have hb:=(List.getElem?_eq_some_iff.1 ht).1
 obtain ⟨v,hv,A⟩:=h.live hl b om
 obtain ⟨o,ho,e,B,C⟩:=h.opt hl ht hg
 have D:=h.step b _ ht
 have E:=h.least (b:=b) hb
 have F:(ct l r).gh=r.gh:=rfl
 have hw:=h.Ps hl (times.length-(b+1)) (b+1) om
 rw [px ht,lB hg,j0,← e] at hw
 simp only at A
 exact ⟨_,hv,o,ho,e,⟨by simp only; omega,om⟩,hw⟩
theorem iq.num (h:iq l r times good) (hl:dw l=0):(times.length:Int)∈jD (ct l r):=by
 obtain ⟨v,hv,_⟩:=h.live hl times.length (Nat.le_refl _)
 have hn:(ct l r).n=l.ag.length:=eo
 have B:=h.le
 refine oF.2 ⟨times.length,U,om,?_⟩
 unfold jm
 refine List.any_eq_true.2 ⟨_,hv,?_⟩
 have A:=h.len
 rw [List.take_of_length_le om]
 unfold kq
 exact fO ⟨h.Ja,h.Rp⟩
theorem iq.e (h:iq l r times good) (hl:dw l=0):eH l r 0=0:=lO hl h.ym rfl fun e=>by have:=h.num hl; rw [e] at this; cases this
theorem iq.z9 (h:iq l r times good) (hl:dw l=0):(times.length:Int)∈k7 l r:=by rw [lH (h.e hl)]; exact h.num hl
theorem iq.clear (h:iq l r times good) (hl:dw l=0):(EJ l r=2→l.bH<(times.length:Int))∧(EJ l r=0→(times.length:Int)≤l.bH):=by
 have hm:=h.z9 hl
 have A:=(Ge (ui (h.e hl))).2 _ hm
 have B:=(Oj (ui (h.e hl))).2 _ hm
 unfold EJ
 rw [if_pos (h.e hl)]
 constructor
 ·intro q
  split at q
  ·omega
  ·split at q<;>omega
 ·intro q
  split at q
  ·omega
  ·split at q<;>omega
end
end
section
def gI (hi:Int→Int) (least:Nat→Int) (now:Int):Nat→List Int→List Int×Int
 |_,[]=>([],now)
 |b,x::xs=>((if 0≤x then min (gI hi least now (b+1) xs).2 (hi x) else (gI hi least now (b+1) xs).2)::(gI hi least now (b+1) xs).1,(if 0≤x then min (gI hi least now (b+1) xs).2 (hi x) else (gI hi least now (b+1) xs).2)-least b)
def fZ (t:Int):List Int→Int
 |[]=>t
 |x::xs=>fZ x xs
def j4 (w:bT):Nat→Int→List Int→List Int→Prop
 |_,_,[],[]=>True
 |b,t,x::rs,y::fs=>(∃ o∈il w b,o.1=x∧max (t+bV w b) o.2.Lo≤min o.2.Hi w.gh∧y=max (t+bV w b) o.2.Lo)∧j4 w (b+1) y rs fs
 |_,_,_,_=>False
section
variable {w:bT} {hi:Int→Int} {least:Nat→Int} {now:Int}
theorem qP: ∀ (b:Nat) (rs:List Int),(gI hi least now b rs).1.length=rs.length
 |_,[]=>rfl
 |b,x::xs=>by simp only [gI,List.length_cons]; rw [qP]
theorem mT: ∀ (t:Int) (fs:List Int) (y:Int),fZ t (fs++[y])=y
 |_,[],_=>rfl
 |t,x::fs,y=>mT x fs y
theorem CX: ∀ (t:Int) (fs:List Int) (y:Int),fs[fs.length-1]? =some y→fZ t fs=y
 |t,[],y,h=>by simp at h
 |t,[x],y,h=>by simpa [fZ] using h
 |t,x::x2::fs,y,h=>by
  show fZ x (x2::fs)=y
  exact CX x (x2::fs) y (by simpa using h)
theorem sH: ∀ (b:Nat) (rs:List Int) (x:Int) (ss:List Int),(gI hi least now b (rs++x::ss)).1[rs.length]? =some (if 0≤x then min (gI hi least now (b+rs.length+1) ss).2 (hi x) else (gI hi least now (b+rs.length+1) ss).2)
 |b,[],x,ss=>by simp [gI]
 |b,z::rs,x,ss=>by
  have:=sH (b+1) rs x ss
  simp only [List.cons_append,gI,List.length_cons,List.getElem?_cons_succ]
  rw [this,show b+1+rs.length+1=b+(rs.length+1)+1 by omega]
theorem j7: ∀ (b:Nat) (t:Int) (rs fs:List Int),j4 w b t rs fs→fs.length=rs.length
 |_,_,[],[],_=>rfl
 |b,t,x::rs,y::fs,h=>by simp [j7 _ _ rs fs h.2]
 |_,_,[],_::_,h=>h.elim
 |_,_,_::_,[],h=>h.elim
theorem q9: ∀ (b:Nat) (t:Int) (rs fs ss gs:List Int),fs.length=rs.length→(j4 w b t (rs++ss) (fs++gs)↔j4 w b t rs fs∧j4 w (b+rs.length) (fZ t fs) ss gs)
 |b,t,[],[],ss,gs,_=>by simp [j4,fZ]
 |b,t,x::rs,y::fs,ss,gs,h=>by
  have ih:=q9 (b+1) y rs fs ss gs (by simpa using h)
  simp only [List.cons_append,j4,List.length_cons,fZ]
  rw [ih,show b+1+rs.length=b+(rs.length+1) by omega,and_assoc]
 |_,_,[],_::_,_,_,h=>by simp at h
 |_,_,_::_,[],_,_,h=>by simp at h
theorem DZ (b:List Int): ∀ t:aC,b.foldl (fun t g=>du t (fp g)) t=du t (cY b):=by
 induction b with
 |nil=>intro t; exact (mU t).symm
 |cons x b ih=>
  intro t
  show b.foldl (fun t g=>du t (fp g)) (du t (fp x))=du t (b.foldl (fun t g=>du t (fp g)) (du ⟨0,0⟩ (fp x)))
  rw [ih,ih]; simp only [du,aC.mk.injEq]; omega
theorem qQ (a b:List Int):cY (a++b)=du (cY a) (cY b):=by
 show (a++b).foldl _ _=_
 rw [List.foldl_append,DZ]; rfl
theorem qN:cY []=(⟨0,0⟩:aC):=rfl
theorem ph (l:List Int):du (⟨0,0⟩:aC) (cY l)=cY l:=by simp [du]
theorem rO (x:Int) (l:List Int):cY (x::l)=du (fp x) (cY l):=by
 rw [show x::l=[x]++l from rfl,qQ,show cY [x]=fp x from (j0 (l:=[])).trans (by rw [qN]; simp [du])]
theorem sI: ∀ l:List Int,0≤(cY l).right∧0≤(cY l).eU∧(cY l).right+(cY l).eU=(l.length:Int)
 |[]=>by rw [qN]; simp
 |x::l=>by
  rw [rO]
  have:=ur x
  have:=sI l
  simp only [du,List.length_cons]
  omega
/-- chains are what the watch goes through -/
theorem jU: ∀ (k b:Nat) (p q:aC×Int),q∈fW w k b p↔ ∃ rs fs,rs.length=k∧j4 w b p.2 rs fs∧q=(du p.1 (cY rs),fZ p.2 fs):=by
 intro k
 induction k with
 |zero=>
  intro b p q
  simp only [fW,bW]
  constructor
  ·rintro rfl; exact ⟨[],[],rfl,trivial,by rw [qN,mU]; rfl⟩
  ·rintro ⟨rs,fs,A,B,rfl⟩
   have A:=jB A
   subst A
   have:=jB (j7 _ _ _ _ B)
   subst this
   rw [qN,mU]; rfl
 |succ k ih=>
  intro b p q
  rw [g_]
  constructor
  ·rintro ⟨o,ho,p',e,h⟩
   obtain ⟨A,rfl⟩:=gK.1 e
   obtain ⟨rs,fs,B,C,rfl⟩:=(ih _ _ _).1 h
   refine ⟨o.1::rs,max (p.2+bV w b) o.2.Lo::fs,by simp [B],⟨⟨o,ho,U,A,U⟩,C⟩,?_⟩
   rw [rO]
   simp only [fZ,du,Prod.mk.injEq,aC.mk.injEq,and_true]; omega
  ·rintro ⟨rs,fs,A,B,rfl⟩
   cases rs with
   |nil=>simp at A
   |cons x rs=>
    cases fs with
    |nil=>exact B.elim
    |cons y fs=>
     obtain ⟨⟨o,ho,rfl,C,rfl⟩,D⟩:=B
     refine ⟨o,ho,_,gK.2 ⟨C,U⟩,(ih _ _ _).2 ⟨rs,fs,by simpa using A,D,?_⟩⟩
     rw [rO]
     simp only [fZ,du,Prod.mk.injEq,aC.mk.injEq,and_true]; omega
/-- what the reference's rows of last times know -/
structure KZ (w:bT) (hi:Int→Int) (least:Nat→Int) (now:Int):Prop where
 low: ∀ b,0≤bV w b
 least: ∀ b,b<w.n→least b=bV w b
 now:now=w.gh
 hi: ∀ b o,b<w.n→o∈il w b→0≤o.1→o.2.Hi=hi o.1
 none_: ∀ b o,b<w.n→o∈il w b→ ¬ 0≤o.1→o.2.Hi=w.gh
theorem xP (h:KZ w hi least now): ∀ (b:Nat) (rs:List Int),b+rs.length≤w.n→(gI hi least now b rs).2≤w.gh
 |_,[],_=>by simp only [gI]; exact Int.le_of_eq h.now
 |b,x::xs,hb=>by
  simp only [List.length_cons] at hb
  have B:=xP h (b+1) xs om
  have A:=h.low b
  rw [← h.least b om] at A
  simp only [gI]
  split<;>omega
theorem qF (h:KZ w hi least now): ∀ (b:Nat) (t:Int) (rs fs:List Int),b+rs.length≤w.n→t≤w.gh→j4 w b t rs fs→t≤(gI hi least now b rs).2
 |_,t,[],[],_,ht,_=>by simp only [gI]; rw [h.now]; exact ht
 |b,t,x::rs,y::fs,hb,ht,hc=>by
  simp only [List.length_cons] at hb
  obtain ⟨⟨o,ho,rfl,D,rfl⟩,A⟩:=hc
  have B:=qF h (b+1) _ rs fs om om A
  have C:=h.least b om
  simp only [gI]
  split
  ·rename_i q
   have:=h.hi b o om ho q
   omega
  ·omega
 |_,_,[],_::_,_,_,hc=>hc.elim
 |_,_,_::_,[],_,_,hc=>hc.elim
theorem wb (h:KZ w hi least now): ∀ (b:Nat) (t t':Int) (rs fs:List Int),b+rs.length≤w.n→t≤t'→t'≤(gI hi least now b rs).2→j4 w b t rs fs→ ∃ gs,j4 w b t' rs gs
 |_,t,_,[],[],_,_,_,_=>⟨[],trivial⟩
 |b,t,t',x::rs,y::fs,hb,ht,he,hc=>by
  simp only [List.length_cons] at hb
  obtain ⟨⟨o,ho,rfl,E,rfl⟩,A⟩:=hc
  have C:=qF h (b+1) _ rs fs om om A
  have D:=h.least b om
  have F:=xP h (b+1) rs om
  simp only [gI] at he
  have B:max (t'+bV w b) o.2.Lo≤min o.2.Hi w.gh∧max (t'+bV w b) o.2.Lo≤(gI hi least now (b+1) rs).2:=by
   split at he
   ·rename_i q
    have:=h.hi b o om ho q
    omega
   ·rename_i q
    have:=h.none_ b o om ho q
    omega
  obtain ⟨gs,hg⟩:=wb h (b+1) _ (max (t'+bV w b) o.2.Lo) rs fs om om B.2 A
  exact ⟨_::gs,⟨o,ho,U,B.1,U⟩,hg⟩
 |_,_,_,[],_::_,_,_,_,hc=>hc.elim
 |_,_,_,_::_,[],_,_,_,hc=>hc.elim
theorem B2 (b:Nat) (t t':Int) (rs fs:List Int) (ht:t'≤t) (hc:j4 w b t rs fs): ∃ gs,j4 w b t' rs gs:=by
 have A:(du ⟨0,0⟩ (cY rs),fZ t fs)∈fW w rs.length b (⟨0,0⟩,t):=(jU _ _ _ _).2 ⟨rs,fs,rfl,hc,rfl⟩
 clear A
 induction rs generalizing b t t' fs with
 |nil=>exact ⟨[],trivial⟩
 |cons x rs ih=>
  cases fs with
  |nil=>exact hc.elim
  |cons y fs=>
   obtain ⟨⟨o,ho,rfl,C,rfl⟩,B⟩:=hc
   obtain ⟨gs,hg⟩:=ih (b+1) _ (max (t'+bV w b) o.2.Lo) fs om B
   exact ⟨_::gs,⟨o,ho,U,om,U⟩,hg⟩
/-- a way, as it is asked for -/
structure OS (w:bT) (hi:Int→Int) (least:Nat→Int) (now:Int) (y:de):Prop where
 chain:j4 w 0 w.Start y.gu y.iy
 len:y.gu.length≤w.n
 last:y.lI=(gI hi least now 0 y.gu).1
 may:kq w (cY y.gu)=true
theorem Ba {k:Nat}:jm w (fwd w k)=true↔ ∃ rs fs,rs.length=k∧j4 w 0 w.Start rs fs∧kq w (cY rs)=true:=by
 unfold jm
 rw [List.any_eq_true]
 have e:=fun q=>(q_ (w:=w) k 0 q)
 rw [Nat.zero_add] at e
 constructor
 ·rintro ⟨q,hq,hm⟩
  obtain ⟨p,hp,h⟩:=(e q).1 hq
  simp only [fwd,bW] at hp
  subst hp
  obtain ⟨rs,fs,A,B,rfl⟩:=(jU _ _ _ _).1 h
  refine ⟨rs,fs,A,B,?_⟩
  rwa [ph] at hm
 ·rintro ⟨rs,fs,A,B,C⟩
  refine ⟨_,(e _).2 ⟨((⟨0,0⟩:aC),w.Start),List.mem_singleton.2 U,(jU _ _ _ _).2 ⟨rs,fs,A,B,U⟩⟩,?_⟩
  simp only [ph]; exact C
theorem Io (h:KZ w hi least now) (hs:w.Start≤w.gh) {b:Nat} (hb:b<w.n) {s t:Int}:wL w b s t↔ ∃ y,OS w hi least now y∧ ∃ f e,y.gu[b]? =some s∧y.iy[b]? =some f∧y.lI[b]? =some e∧f≤t∧t≤e:=by
 have ef:=fun q=>(q_ (w:=w) b 0 q)
 rw [Nat.zero_add] at ef
 constructor
 ·rintro ⟨p,hp,o,ho,rfl,⟨C,L⟩,k,hk,q,hq,hm⟩
  obtain ⟨Y,AB,hp⟩:=(ef p).1 hp
  simp only [fwd,bW] at AB
  subst AB
  obtain ⟨rs,fs,K,D,rfl⟩:=(jU _ _ _ _).1 hp
  obtain ⟨ss,gs,AA,E,rfl⟩:=(jU _ _ _ _).1 hq
  simp only at C L D E hm
  obtain ⟨gs',J⟩:=B2 (b+1) t (max (fZ w.Start fs+bV w b) o.2.Lo) ss gs C E
  have H:=j7 _ _ _ _ D
  have T:=j7 _ _ _ _ J
  have hc:j4 w 0 w.Start (rs++o.1::ss) (fs++max (fZ w.Start fs+bV w b) o.2.Lo::gs'):=(q9 _ _ _ _ _ _ H).2 ⟨D,by rw [Nat.zero_add,K]; exact ⟨⟨o,ho,rfl,om,rfl⟩,J⟩⟩
  have he:=qF h (b+1) t ss gs om om E
  have A:=sH (hi:=hi) (least:=least) (now:=now) 0 rs o.1 ss
  rw [Nat.zero_add,K] at A
  refine ⟨⟨rs++o.1::ss,fs++max (fZ w.Start fs+bV w b) o.2.Lo::gs',(gI hi least now 0 (rs++o.1::ss)).1⟩,⟨hc,by simp; omega,U,?_⟩,max (fZ w.Start fs+bV w b) o.2.Lo,_,?_,?_,A,C,?_⟩
  ·show kq w (cY (rs++o.1::ss))=true
   rw [show rs++o.1::ss=(rs++[o.1])++ss by simp,qQ,j0]
   rwa [ph] at hm
  ·show (rs++o.1::ss)[b]? =some o.1
   rw [List.getElem?_append_right om,K,Nat.sub_self]; rfl
  ·show (fs++_::gs')[b]? =_
   rw [List.getElem?_append_right om,H,K,Nat.sub_self]; rfl
  ·split
   ·rename_i q
    have:=h.hi b o hb ho q
    omega
   ·exact he
 ·rintro ⟨y,hy,f,e,C,L,P,Q,V⟩
  obtain ⟨R,F,La⟩:=y
  obtain ⟨hc,hn,A,hm⟩:=hy
  simp only at C L P hc hn A hm
  have N:=(List.getElem?_eq_some_iff.1 C).1
  have S:=j7 _ _ _ _ hc
  have eR:R=R.take b++s::R.drop (b+1):=by rw [← (List.getElem?_eq_some_iff.1 C).2]; exact (List.take_append_drop b R).symm.trans (by rw [List.drop_eq_getElem_cons N])
  have M:b<F.length:=by omega
  have eF:F=F.take b++f::F.drop (b+1):=by rw [← (List.getElem?_eq_some_iff.1 L).2]; exact (List.take_append_drop b F).symm.trans (by rw [List.drop_eq_getElem_cons M])
  rw [eR,eF,q9 _ _ _ _ _ _ (by simp only [List.length_take]; omega)] at hc
  have O:(R.take b).length=b:=by rw [List.length_take]; omega
  rw [O,Nat.zero_add] at hc
  obtain ⟨D,⟨o,ho,rfl,W,rfl⟩,E⟩:=hc
  have B:=sH (hi:=hi) (least:=least) (now:=now) 0 (R.take b) o.1 (R.drop (b+1))
  rw [← eR,O,Nat.zero_add,← A,P] at B
  have B:=Option.some.inj B
  have G:t≤(gI hi least now (b+1) (R.drop (b+1))).2∧t≤min o.2.Hi w.gh:=by
   have X:=xP h (b+1) (R.drop (b+1)) (by rw [List.length_drop]; omega)
   split at B
   ·rename_i q
    have:=h.hi b o hb ho q
    omega
   ·rename_i q
    have:=h.none_ b o hb ho q
    omega
  obtain ⟨gs,J⟩:=wb h (b+1) _ t (R.drop (b+1)) (F.drop (b+1)) (by rw [List.length_drop]; omega) Q G.1 E
  refine ⟨(du ⟨0,0⟩ (cY (R.take b)),fZ w.Start (F.take b)),(ef _).2 ⟨((⟨0,0⟩:aC),w.Start),List.mem_singleton.2 U,(jU _ _ _ _).2 ⟨_,_,O,D,U⟩⟩,o,ho,U,⟨Q,G.2⟩,(R.drop (b+1)).length,by rw [List.length_drop]; omega,_,(jU _ _ _ _).2 ⟨_,gs,U,J,U⟩,?_⟩
  show kq w (du (du (du ⟨0,0⟩ (cY (R.take b))) (fp o.1)) (cY (R.drop (b+1))))=true
  rw [ph,← j0,← qQ,show R.take b++[o.1]++R.drop (b+1)=R from by rw [List.append_assoc]; exact eR.symm]
  exact hm
end
noncomputable def Md (l:bf) (r:cE) (x:Int):Int:=match r.aj[x.toNat]? with
 |some s=>(cH l s).Hi
 |none=>0
theorem DL {l:bf} {r:cE} {x:Int} {s:aN} (h:r.aj[x.toNat]? =some s):Md l r x=(cH l s).Hi:=by unfold Md; rw [h]
noncomputable def jn (l:bf) (r:cE) (rs:List Int):List Int:=(gI (Md l r) (eh l) r.gh 0 rs).1
noncomputable def oP (l:bf) (r:cE) (n:Nat) (t i:Int):Option Int:=
 if i<0 then (if t≤r.gh then some t else none) else match r.aj[i.toNat]? with
  |some s=>if (s.gj=(n:Int)∧(cH l s).Lo≤(cH l s).Hi)∧max t (cH l s).Lo≤min r.gh (cH l s).Hi then some (max t (cH l s).Lo) else none
  |none=>none
noncomputable def gP (l:bf) (r:cE) (rs fs:List Int):List de:=if (r.aj.length:Int)-(cY rs).right≤l.cv then [⟨rs,fs,jn l r rs⟩] else []
noncomputable def g9 (l:bf) (r:cE):Nat→List Int→List Int→List de
 |0,rs,fs=>if l.bL<(cY rs).eU then [] else gP l r rs fs
 |k+1,rs,fs=>if l.bL<(cY rs).eU then [] else gP l r rs fs++(List.range (r.aj.length+1)).flatMap fun (j:Nat)=>match oP l r rs.length (fZ r.Start fs+eh l rs.length) ((j:Int)-1) with
  |some t=>g9 l r k (rs++[(j:Int)-1]) (fs++[t])
  |none=>[]
noncomputable def Ef (l:bf) (r:cE) (k:Nat) (rs fs:List Int) (j:Nat):List de:=gP l r rs fs++(List.range j).flatMap fun (j:Nat)=>match oP l r rs.length (fZ r.Start fs+eh l rs.length) ((j:Int)-1) with
 |some t=>g9 l r k (rs++[(j:Int)-1]) (fs++[t])
 |none=>[]
noncomputable def ij (l:bf) (r:cE) (k:Nat) (rs fs:List Int) (j:Nat):List de:=(List.range j).flatMap fun (j:Nat)=>match oP l r rs.length (fZ r.Start fs+eh l rs.length) ((j:Int)-1) with
 |some t=>g9 l r k (rs++[(j:Int)-1]) (fs++[t])
 |none=>[]
section
variable {l:bf} {r:cE} {k j:Nat} {rs fs:List Int} {t:Int}
theorem qX:Ef l r k rs fs j=gP l r rs fs++ij l r k rs fs j:=rfl
theorem mW (h:oP l r rs.length (fZ r.Start fs+eh l rs.length) ((j:Int)-1)=some t):ij l r k rs fs (j+1)=ij l r k rs fs j++g9 l r k (rs++[(j:Int)-1]) (fs++[t]):=by
 unfold ij; rw [List.range_succ,List.flatMap_append]; simp [h]
theorem qx (h:oP l r rs.length (fZ r.Start fs+eh l rs.length) ((j:Int)-1)=none):ij l r k rs fs (j+1)=ij l r k rs fs j:=by
 unfold ij; rw [List.range_succ,List.flatMap_append]; simp [h]
theorem mZ (h:l.bL<(cY rs).eU):g9 l r k rs fs=[]:=by cases k<;>exact if_pos h
theorem nt (h: ¬ l.bL<(cY rs).eU):g9 l r 0 rs fs=gP l r rs fs:=if_neg h
theorem nk (h: ¬ l.bL<(cY rs).eU):g9 l r (k+1) rs fs=Ef l r k rs fs (r.aj.length+1):=if_neg h
theorem Bv {n:Nat} (hn:n<l.ag.length) (hl:0≤eh l n) (ht:r.Start≤t) {i y:Int} (hi: -1≤i):oP l r n (t+eh l n) i=some y↔ ∃ o∈il (ct l r) n,o.1=i∧max (t+bV (ct l r) n) o.2.Lo≤min o.2.Hi (ct l r).gh∧y=max (t+bV (ct l r) n) o.2.Lo:=by
 rw [o7 hn]
 have hw:(ct l r).gh=r.gh:=rfl
 unfold oP
 constructor
 ·intro h
  split at h
  ·rename_i B
   split at h
   ·cases h
    exact ⟨(-1,⟨r.Start,r.gh⟩),(qz hn).2 (.inl U),by simp only; omega,by simp only; omega,by simp only; omega⟩
   ·cases h
  ·rename_i B
   split at h
   ·rename_i s hs
    split at h
    ·rename_i q
     cases h
     exact ⟨((i.toNat:Nat),cH l s),(qz hn).2 (.inr ⟨i.toNat,(List.getElem?_eq_some_iff.1 hs).1,s,hs,q.1,U⟩),by simp only; omega,by simp only; omega,U⟩
    ·cases h
   ·cases h
 ·rintro ⟨o,ho,rfl,A,rfl⟩
  rcases (qz hn).1 ho with rfl|⟨k,hk,s,hs,q,rfl⟩
  ·simp only at A ⊢
   rw [if_pos om,if_pos om]
   congr 1; omega
  ·simp only at A ⊢
   rw [if_neg om,Int.toNat_natCast,hs]
   simp only
   rw [if_pos ⟨q,om⟩]
theorem I8 (hl: ∀ n,n<l.ag.length→0≤eh l n): ∀ (k:Nat) (rs fs:List Int) (y:de),rs.length+k=l.ag.length→fs.length=rs.length→r.Start≤fZ r.Start fs→
 (y∈g9 l r k rs fs↔ ∃ ss gs,j4 (ct l r) rs.length (fZ r.Start fs) ss gs∧ss.length≤k∧y=⟨rs++ss,fs++gs,jn l r (rs++ss)⟩∧kq (ct l r) (cY (rs++ss))=true):=by
 have D: ∀ (rs fs:List Int) (y:de),¬ l.bL<(cY rs).eU→(y∈gP l r rs fs↔y=⟨rs++[],fs++[],jn l r (rs++[])⟩∧kq (ct l r) (cY (rs++[]))=true):=by
  intro rs fs y hm
  unfold gP
  rw [List.append_nil,List.append_nil]
  have e:kq (ct l r) (cY rs)=true↔(r.aj.length:Int)-(cY rs).right≤l.cv:=by
   unfold kq
   rw [decide_eq_true_eq]
   exact ⟨fun q=>q.2,fun q=>⟨by have:(ct l r).bL=l.bL:=rfl; omega,q⟩⟩
  split
  ·rename_i q
   rw [bW]
   exact ⟨fun h=>⟨h,e.2 q⟩,fun h=>h.1⟩
  ·rename_i q
   exact ⟨fun h=>(by cases h),fun h=>absurd (e.1 h.2) q⟩
 have Ja: ∀ (rs ss:List Int),l.bL<(cY rs).eU→ ¬ kq (ct l r) (cY (rs++ss))=true:=by
  intro rs ss h q
  unfold kq at q
  have:=(of_decide_eq_true q).1
  rw [qQ] at this
  have C:=sI ss
  simp only [du] at this
  have:(ct l r).bL=l.bL:=rfl
  omega
 intro k
 induction k with
 |zero=>
  intro rs fs y hn hf hs
  by_cases hm:l.bL<(cY rs).eU
  ·rw [mZ hm]
   exact ⟨fun h=>(by cases h),fun ⟨ss,gs,_,_,_,q⟩=>absurd q (Ja rs ss hm)⟩
  ·rw [nt hm,D _ _ _ hm]
   constructor
   ·rintro ⟨B,C⟩; exact ⟨[],[],trivial,sm,B,C⟩
   ·rintro ⟨ss,gs,B,C,E,F⟩
    have e:=jB (Nat.le_zero.1 C)
    subst e
    have e:=jB (j7 _ _ _ _ B)
    subst e
    exact ⟨E,F⟩
 |succ k ih=>
  intro rs fs y hn hf hs
  by_cases hm:l.bL<(cY rs).eU
  ·rw [mZ hm]
   exact ⟨fun h=>(by cases h),fun ⟨ss,gs,_,_,_,q⟩=>absurd q (Ja rs ss hm)⟩
  ·rw [nk hm]
   unfold Ef
   rw [kM,D _ _ _ hm,List.mem_flatMap]
   have A: ∀ (x y:Int),(rs++[x]).length+k=l.ag.length∧(fs++[y]).length=(rs++[x]).length:=fun x y=>by simp; omega
   constructor
   ·rintro (⟨B,C⟩|⟨j,hj,h⟩)
    ·exact ⟨[],[],trivial,sm,B,C⟩
    ·cases e:oP l r rs.length (fZ r.Start fs+eh l rs.length) ((j:Int)-1) with
     |none=>rw [e] at h; cases h
     |some t=>
      rw [e] at h
      simp only at h
      obtain ⟨o,ho,B,C,E⟩:=(Bv om (hl _ om) hs om).1 e
      have G:r.Start≤t:=by
       have:=hl rs.length om
       rw [o7 om] at E
       omega
      obtain ⟨ss,gs,F,J,H,AA⟩:=(ih _ _ y (A _ t).1 (A _ t).2 (by rw [mT]; exact G)).1 h
      rw [mT,List.length_append] at F
      refine ⟨((j:Int)-1)::ss,t::gs,⟨⟨o,ho,B,C,E⟩,F⟩,by simp; omega,by simpa using H,by simpa using AA⟩
   ·rintro ⟨ss,gs,B,C,E,F⟩
    cases ss with
    |nil=>
     have e:=jB (j7 _ _ _ _ B)
     subst e
     exact .inl ⟨E,F⟩
    |cons x ss=>
     cases gs with
     |nil=>exact B.elim
     |cons t gs=>
      obtain ⟨⟨o,ho,rfl,J,H⟩,AA⟩:=B
      right
      have hx: -1≤o.1∧o.1<(r.aj.length:Int):=by
       rcases (qz om).1 ho with rfl|⟨k,hk,s,hs,q,rfl⟩
       ·simp only; omega
       ·simp only; omega
      have G:r.Start≤t:=by
       have:=hl rs.length om
       rw [o7 om] at H
       omega
      have K:((o.1+1).toNat:Int)-1=o.1:=by omega
      refine ⟨(o.1+1).toNat,List.mem_range.2 om,?_⟩
      rw [K,(Bv om (hl _ om) hs om).2 ⟨o,ho,rfl,J,H⟩]
      simp only
      refine (ih _ _ y (A _ t).1 (A _ t).2 (by rw [mT]; exact G)).2 ⟨ss,gs,?_,?_,?_,?_⟩
      ·rw [mT,List.length_append]; exact AA
      ·simp only [List.length_cons] at C; omega
      ·simpa using E
      ·simpa using F
end
theorem yG {l:bf} {r:cE} {rs fs:List Int} (h:(r.aj.length:Int)-(cY rs).right≤l.cv):gP l r rs fs=[⟨rs,fs,jn l r rs⟩]:=if_pos h
theorem x4 {l:bf} {r:cE} {rs fs:List Int} (h: ¬ (r.aj.length:Int)-(cY rs).right≤l.cv):gP l r rs fs=[]:=if_neg h
noncomputable def eT (l:bf) (r:cE) (i:Nat):List aa:=(r.aj.take i).map (cH l)
noncomputable def fj (l:bf) (r:cE) (i:Nat):List Bool:=(r.aj.take i).map fun s=>decide ((cH l s).Lo≤(cH l s).Hi)
section
variable {l:bf} {r:cE} {i n:Nat} {s:aN} {rs:List Int}
theorem DC (h:r.aj[i]? =some s):eT l r (i+1)=eT l r i++[cH l s]:=by unfold eT; rw [List.take_add_one,h,List.map_append]; rfl
theorem EG (h:r.aj[i]? =some s):fj l r (i+1)=fj l r i++[decide ((cH l s).Lo≤(cH l s).Hi)]:=by unfold fj; rw [List.take_add_one,h,List.map_append]; rfl
theorem qI (h:i≤r.aj.length):(eT l r i).length=i:=by unfold eT; rw [List.length_map,List.length_take]; omega
theorem uG (h:i≤r.aj.length):(fj l r i).length=i:=by unfold fj; rw [List.length_map,List.length_take]; omega
theorem Lb {k:Nat} {z:aa} (hs:r.aj[k]? =some s) (hz:(eT l r r.aj.length)[k]? =some z):z=cH l s:=by
 unfold eT at hz
 rw [List.take_length,fB,hs] at hz
 exact (Option.some.inj hz).symm
theorem IK {k:Nat} {z:aa} (hz:(eT l r r.aj.length)[k]? =some z): ∃ s,r.aj[k]? =some s∧z=cH l s:=by
 unfold eT at hz
 rw [List.take_length,fB] at hz
 cases h:r.aj[k]? with
 |none=>rw [h] at hz; cases hz
 |some s=>rw [h] at hz; exact ⟨s,rfl,(Option.some.inj hz).symm⟩
theorem CT {k:Nat} {z:Bool} (hs:r.aj[k]? =some s) (hz:(fj l r r.aj.length)[k]? =some z):z=true↔(cH l s).Lo≤(cH l s).Hi:=by
 unfold fj at hz
 rw [List.take_length,fB,hs] at hz
 rw [← Option.some.inj hz]
 exact decide_eq_true_iff
theorem x_ (l:bf) (s:aN):(0≤(cH l s).Lo∧(cH l s).Lo≤86400001)∧ -1≤(cH l s).Hi∧(cH l s).Hi≤86400000:=by
 have A:=ia (p:=gd (pJ l s) s.Read) (n:=86400001)
 have B:=ia (p:=gf (pJ l s) s.Read) (n:=86400001)
 unfold cH qc
 simp only
 omega
/-- the last times from a beam on -/
noncomputable def jE (l:bf) (r:cE) (rs:List Int) (j:Nat):List Int×Int:=gI (Md l r) (eh l) r.gh j (rs.drop j)
noncomputable def jH (l:bf) (r:cE) (rs:List Int) (j:Nat):List Int:=List.replicate j 0++(jE l r rs j).1
noncomputable def tq (l:bf) (r:cE) (rs:List Int) (j:Nat) (x:Int):Int:=if 0≤x then min (jE l r rs j).2 (Md l r x) else (jE l r rs j).2
theorem uA:jE l r rs rs.length=([],r.gh):=by unfold jE; rw [List.drop_length]; rfl
theorem GL:jH l r rs rs.length=List.replicate rs.length 0:=by unfold jH; rw [uA]; simp
theorem Eg:jH l r rs 0=jn l r rs:=by unfold jH jE jn; simp
theorem pI {j:Nat} {x:Int} (hj:0<j) (hx:rs[j-1]? =some x):jE l r rs (j-1)=(tq l r rs j x::(jE l r rs j).1,tq l r rs j x-eh l (j-1)):=by
 unfold jE tq
 have hb:=(List.getElem?_eq_some_iff.1 hx).1
 rw [List.drop_eq_getElem_cons hb,(List.getElem?_eq_some_iff.1 hx).2,show j-1+1=j by omega]
 simp only [gI]
 rw [show j-1+1=j by omega]
 rfl
theorem Ho {j:Nat} (h:j≤rs.length):(jH l r rs j).length=rs.length:=by unfold jH jE; rw [List.length_append,List.length_replicate,qP,List.length_drop]; omega
theorem yx {j:Nat} {x:Int} (hj:0<j) (hx:rs[j-1]? =some x):(jH l r rs j).set (j-1) (tq l r rs j x)=jH l r rs (j-1):=by
 unfold jH
 rw [pI hj hx]
 simp only
 obtain ⟨k,rfl⟩: ∃ k,j=k+1:=⟨j-1,om⟩
 rw [Nat.add_sub_cancel,List.replicate_succ',List.append_assoc,List.set_append_right _ _ sm,List.length_replicate,Nat.sub_self]
 rfl
theorem E7 (hr:0≤r.gh∧r.gh≤86400000) (hl: ∀ b,b<rs.length→0≤eh l b∧eh l b≤500000000) (hrs: ∀ x∈rs,0≤x→x<(r.aj.length:Int)): ∀ (d j:Nat),j+d=rs.length→(-1-500000000*(d:Int))≤(jE l r rs j).2∧(jE l r rs j).2≤86400000
 |0,j,h=>by
  obtain rfl:j=rs.length:=by omega
  rw [uA]; simp only; omega
 |d+1,j,h=>by
  have ih:=E7 hr hl hrs d (j+1) om
  have hx:rs[j+1-1]? =some (rs[j]'om):=by rw [Nat.add_sub_cancel]; exact e9 _
  have e:=pI (l:=l) (r:=r) (j:=j+1) om hx
  rw [Nat.add_sub_cancel] at e
  rw [e]
  simp only
  have A:=hl j om
  unfold tq
  split
  ·rename_i q
   have B:=hrs _ (List.getElem_mem (by omega:j<rs.length)) q
   obtain ⟨s,hs⟩: ∃ s,r.aj[(rs[j]'om).toNat]? =some s:=⟨r.aj[(rs[j]'om).toNat]'om,e9 _⟩
   rw [DL hs]
   have C:=x_ l s
   omega
  ·omega
theorem K1 {t i:Int} (hi:i<0):(t≤r.gh→oP l r n t i=some t)∧(¬ t≤r.gh→oP l r n t i=none):=by
 unfold oP; rw [if_pos hi]; exact ⟨fun h=>if_pos h,fun h=>if_neg h⟩
theorem JB {t i:Int} (hi: ¬ i<0) (hs:r.aj[i.toNat]? =some s) (hb:s.gj=(n:Int)) (hw:(cH l s).Lo≤(cH l s).Hi):(max t (cH l s).Lo≤min r.gh (cH l s).Hi→oP l r n t i=some (max t (cH l s).Lo))∧(¬ max t (cH l s).Lo≤min r.gh (cH l s).Hi→oP l r n t i=none):=by
 unfold oP; rw [if_neg hi,hs]
 exact ⟨fun h=>if_pos ⟨⟨hb,hw⟩,h⟩,fun h=>if_neg fun q=>h q.2⟩
theorem wc {t i:Int} (hi: ¬ i<0) (hs:r.aj[i.toNat]? =some s) (hb: ¬ (s.gj=(n:Int)∧(cH l s).Lo≤(cH l s).Hi)):oP l r n t i=none:=by
 unfold oP; rw [if_neg hi,hs]
 exact if_neg fun q=>hb q.1
theorem s_ {x:Int} (hx:rs[i]? =some x):(cY (rs.take (i+1))).right=(cY (rs.take i)).right+(if 0≤x then 1 else 0):=by
 rw [lB hx,j0]
 unfold fp
 simp only [du]
 by_cases h:x<0
 ·rw [if_pos h,if_neg om]
 ·rw [if_neg h,if_pos om]
end
theorem wa {l:bf} {r:cE} {rs fs:List Int}:(gP l r rs fs).length≤1:=by unfold gP; split<;>simp
theorem wj {l:bf} {r:cE} (hr:r.aj.length≤10): ∀ (k:Nat) (rs fs:List Int),(g9 l r k rs fs).length≤12^(k+1)
 |0,rs,fs=>by
  unfold g9
  split
  ·simp
  ·have:=wa (l:=l) (r:=r) (rs:=rs) (fs:=fs); omega
 |k+1,rs,fs=>by
  unfold g9
  split
  ·simp
  ·rw [List.length_append]
   have B:=wa (l:=l) (r:=r) (rs:=rs) (fs:=fs)
   have A: ∀ j,(ij l r k rs fs j).length≤j*12^(k+1):=by
    intro j
    induction j with
    |zero=>simp [ij]
    |succ j ih=>
     cases e:oP l r rs.length (fZ r.Start fs+eh l rs.length) ((j:Int)-1) with
     |none=>rw [qx e,Nat.succ_mul]; exact Nat.le_trans ih (Nat.le_add_right _ _)
     |some t=>rw [mW e,List.length_append,Nat.succ_mul]; exact Nat.add_le_add ih (wj hr k (rs++[(j:Int)-1]) (fs++[t]))
   have C:=A (r.aj.length+1)
   have D:(r.aj.length+1)*12^(k+1)≤11*12^(k+1):=Nat.mul_le_mul_right _ om
   have E:0<12^(k+1):=Nat.pow_pos dc
   have F:12^(k+1+1)=12*12^(k+1):=by rw [Nat.pow_succ,Nat.mul_comm]
   show (gP l r rs fs).length+(ij l r k rs fs (r.aj.length+1)).length≤_
   omega
theorem K9 {l:bf} {r:cE} (hr:r.aj.length≤10) {k j:Nat} {rs fs:List Int} (hk:k≤5) (hj:j≤11):(ij l r k rs fs j).length≤40000000:=by
 have A: ∀ j,(ij l r k rs fs j).length≤j*12^(k+1):=by
  intro j
  induction j with
  |zero=>simp [ij]
  |succ j ih=>
   cases e:oP l r rs.length (fZ r.Start fs+eh l rs.length) ((j:Int)-1) with
   |none=>rw [qx e,Nat.succ_mul]; exact Nat.le_trans ih (Nat.le_add_right _ _)
   |some t=>rw [mW e,List.length_append,Nat.succ_mul]; exact Nat.add_le_add ih (wj hr k (rs++[(j:Int)-1]) (fs++[t]))
 have C:=A j
 have B:12^(k+1)≤12^6:=Nat.pow_le_pow_right dc om
 have D:j*12^(k+1)≤11*12^6:=Nat.mul_le_mul hj B
 omega
theorem tU {l:bf} {r:cE} (hr:r.aj.length≤10) {k:Nat} {rs fs:List Int} (hk:k≤6):(g9 l r k rs fs).length≤40000000:=by
 have A:=wj hr k rs fs (l:=l)
 have B:12^(k+1)≤12^7:=Nat.pow_le_pow_right dc om
 omega
noncomputable def pU (l:bf) (r:cE):List de:=g9 l r l.ag.length [] []
section
variable {l:bf} {r:cE}
theorem l5:(ct l r).n=l.ag.length:=eo
theorem Oo (hle:dw l=0) (hr:fh l r):KZ (ct l r) (Md l r) (eh l) r.gh:=by
 obtain ⟨ht,B⟩:=gL hle
 refine ⟨fun b=>((oD ht B hr).bV b).1,fun b hb=>(o7 (by rw [l5] at hb; exact hb)).symm,U,fun b o hb ho A=>?_,fun b o hb ho A=>?_⟩
 ·rw [l5] at hb
  rcases (qz hb).1 ho with rfl|⟨k,hk,s,hs,q,rfl⟩
  ·simp only at A; omega
  ·exact (DL (by simpa using hs)).symm
 ·rw [l5] at hb
  rcases (qz hb).1 ho with rfl|⟨k,hk,s,hs,q,rfl⟩
  ·rfl
  ·simp only at A; omega
theorem pB (hle:dw l=0) (hr:fh l r) {y:de}:y∈pU l r↔OS (ct l r) (Md l r) (eh l) r.gh y:=by
 obtain ⟨ht,D⟩:=gL hle
 have hl: ∀ n,n<l.ag.length→0≤eh l n:=fun n hn=>by have:=mS ht D (i:=n) hn; omega
 unfold pU
 rw [I8 hl _ _ _ _ sm rfl (Int.le_refl _)]
 constructor
 ·rintro ⟨ss,gs,B,A,rfl,C⟩
  exact ⟨B,by rw [l5]; exact A,U,C⟩
 ·rintro ⟨B,A,E,C⟩
  rw [l5] at A
  exact ⟨y.gu,y.iy,B,A,by rw [List.nil_append,List.nil_append]; unfold jn; rw [← E],C⟩
theorem JW (hle:dw l=0) (hr:fh l r) {k:Nat} (hk:k≤l.ag.length):((pU l r).any fun y=>decide (y.gu.length=k))=jm (ct l r) (fwd (ct l r) k):=by
 rw [Bool.eq_iff_iff,Ba,List.any_eq_true]
 constructor
 ·rintro ⟨y,hy,e⟩
  have h:=(pB hle hr).1 hy
  exact ⟨y.gu,y.iy,of_decide_eq_true e,h.chain,h.may⟩
 ·rintro ⟨rs,fs,e,A,B⟩
  exact ⟨⟨rs,fs,(gI (Md l r) (eh l) r.gh 0 rs).1⟩,(pB hle hr).2 ⟨A,by rw [l5]; simp only; omega,U,B⟩,fO e⟩
theorem fK (hle:dw l=0) (hr:fh l r):pU l r=[]↔jD (ct l r)=[]:=by
 constructor
 ·intro h
  apply List.eq_nil_iff_forall_not_mem.2
  intro x hx
  obtain ⟨k,rfl,hk,hm⟩:=oF.1 hx
  rw [l5] at hk
  rw [← JW hle hr hk,h] at hm
  cases hm
 ·intro h
  apply List.eq_nil_iff_forall_not_mem.2
  intro y hy
  have hw:=(pB hle hr).1 hy
  have:(y.gu.length:Int)∈jD (ct l r):=oF.2 ⟨y.gu.length,rfl,hw.len,Ba.2 ⟨_,_,rfl,hw.chain,hw.may⟩⟩
  rw [h] at this; cases this
/-- the times at a beam, by all ways -/
def iL (b:Nat) (ws:List de):List (Int×aa):=ws.filterMap fun y=>match y.gu[b]?,y.iy[b]?,y.lI[b]? with
 |some s,some f,some e=>some (s,⟨f,e⟩)
 |_,_,_=>none
theorem m7 {b:Nat} {ws:List de} {q:Int×aa}:q∈iL b ws↔ ∃ y∈ws,y.gu[b]? =some q.1∧y.iy[b]? =some q.2.Lo∧y.lI[b]? =some q.2.Hi:=by
 unfold iL
 rw [List.mem_filterMap]
 constructor
 ·rintro ⟨y,hy,h⟩
  cases e1:y.gu[b]? with
  |none=>rw [e1] at h; cases h
  |some s=>
   cases e2:y.iy[b]? with
   |none=>rw [e1,e2] at h; cases h
   |some f=>
    cases e3:y.lI[b]? with
    |none=>rw [e1,e2,e3] at h; cases h
    |some e=>
     rw [e1,e2,e3] at h; cases h
     exact ⟨y,hy,e1,e2,e3⟩
 ·rintro ⟨y,hy,A,B,C⟩
  exact ⟨y,hy,by rw [A,B,C]⟩
theorem xq {b:Nat} {ws:List de} {y:de} (h:y.gu.length≤b):iL b (ws++[y])=iL b ws:=by
 unfold iL; rw [List.filterMap_append]; simp [List.getElem?_eq_none h]
theorem pR {b:Nat} {ws:List de} {y:de} {s f e:Int} (h1:y.gu[b]? =some s) (h2:y.iy[b]? =some f) (h3:y.lI[b]? =some e):iL b (ws++[y])=iL b ws++[(s,⟨f,e⟩)]:=by
 unfold iL; rw [List.filterMap_append]; simp [h1,h2,h3]
theorem K7 (hle:dw l=0) (hr:fh l r) {y:de} (hy:y∈pU l r):y.iy.length=y.gu.length∧y.lI.length=y.gu.length∧y.gu.length≤l.ag.length:=by
 have h:=(pB hle hr).1 hy
 exact ⟨j7 _ _ _ _ h.chain,by rw [h.last,qP],by have:=h.len; rwa [l5] at this⟩
theorem sV (hle:dw l=0) (hr:fh l r) {b:Nat} (hb:b<l.ag.length) {s t:Int}:(∃ q∈ml (ct l r) b,q.1=s∧q.2.Lo≤t∧t≤q.2.Hi)↔ ∃ q∈iL b (pU l r),q.1=s∧q.2.Lo≤t∧t≤q.2.Hi:=by
 have hh:=Oo hle hr
 rw [z_ hh.low (by rw [l5]; exact hb),Io hh hr.time.2.1 (by rw [l5]; exact hb)]
 constructor
 ·rintro ⟨y,hy,f,e,A,B,C,D,E⟩
  exact ⟨(s,⟨f,e⟩),m7.2 ⟨y,(pB hle hr).2 hy,A,B,C⟩,U,D,E⟩
 ·rintro ⟨q,hq,rfl,D,E⟩
  obtain ⟨y,hy,A,B,C⟩:=m7.1 hq
  exact ⟨y,(pB hle hr).1 hy,_,_,A,B,C,D,E⟩
/-- a way's span is none that is empty -/
theorem xE (hle:dw l=0) (hr:fh l r) {b:Nat} {q:Int×aa} (hq:q∈iL b (pU l r)):q.2.Lo≤q.2.Hi:=by
 have hh:=Oo hle hr
 obtain ⟨y,hy,C,D,H⟩:=m7.1 hq
 obtain ⟨hc,hn,B,hm⟩:=(pB hle hr).1 hy
 obtain ⟨R,F,La⟩:=y
 simp only at C D H hc hn B
 have G:=(List.getElem?_eq_some_iff.1 C).1
 have E:=(List.getElem?_eq_some_iff.1 D).1
 have L:=j7 _ _ _ _ hc
 have eR:R=R.take b++q.1::R.drop (b+1):=by rw [← (List.getElem?_eq_some_iff.1 C).2]; exact (List.take_append_drop b R).symm.trans (by rw [List.drop_eq_getElem_cons G])
 have eF:F=F.take b++q.2.Lo::F.drop (b+1):=by rw [← (List.getElem?_eq_some_iff.1 D).2]; exact (List.take_append_drop b F).symm.trans (by rw [List.drop_eq_getElem_cons E])
 rw [eR,eF,q9 _ _ _ _ _ _ (by simp only [List.length_take]; omega)] at hc
 have AA:(R.take b).length=b:=by rw [List.length_take]; omega
 rw [AA,Nat.zero_add] at hc
 obtain ⟨M,⟨o,ho,K,N,O⟩,J⟩:=hc
 have A:=sH (hi:=Md l r) (least:=eh l) (now:=r.gh) 0 (R.take b) q.1 (R.drop (b+1))
 rw [← eR,AA,Nat.zero_add,← B,H] at A
 have A:=Option.some.inj A
 have he:=qF hh (b+1) q.2.Lo (R.drop (b+1)) (F.drop (b+1)) (by rw [List.length_drop]; omega) om J
 rw [← K] at A
 split at A
 ·rename_i z
  have:=hh.hi b o om ho z
  omega
 ·omega
theorem BB {a b:List (Int×aa)} {h k:aa} (ha:kd a h) (hb:kd b k) (hab: ∀ x∈b,(∃ y∈a,y.2.Lo≤x.2.Lo)∧ ∃ y∈a,x.2.Hi≤y.2.Hi) (hba: ∀ x∈a,(∃ y∈b,y.2.Lo≤x.2.Lo)∧ ∃ y∈b,x.2.Hi≤y.2.Hi):h=k:=by
 rcases ha with ⟨rfl,rfl⟩|ha
 ·rcases hb with ⟨rfl,rfl⟩|hb
  ·rfl
  ·obtain ⟨x,hx,_⟩:=hb.lo
   obtain ⟨⟨y,hy,_⟩,_⟩:=hab x hx
   cases hy
 ·rcases hb with ⟨rfl,rfl⟩|hb
  ·obtain ⟨x,hx,_⟩:=ha.lo
   obtain ⟨⟨y,hy,_⟩,_⟩:=hba x hx
   cases hy
  ·obtain ⟨M,E,AA⟩:=ha.lo
   obtain ⟨N,F,V⟩:=ha.hi
   obtain ⟨O,G,W⟩:=hb.lo
   obtain ⟨P,H,X⟩:=hb.hi
   obtain ⟨⟨AB,A,Y⟩,_⟩:=hba M E
   obtain ⟨_,J,B,Z⟩:=hba N F
   obtain ⟨⟨K,C,c⟩,_⟩:=hab O G
   obtain ⟨_,L,D,d⟩:=hab P H
   have Q:=hb.all AB A
   have R:=hb.all J B
   have S:=ha.all K C
   have T:=ha.all L D
   apply aa.ext
   ·omega
   ·omega
theorem LQ (hle:dw l=0) (hr:fh l r) {b:Nat} (hb:b<l.ag.length) {h:aa} (hh:kd (iL b (pU l r)) h):h=mu l r b:=by
 have hk:=uD (l:=ml (ct l r) b) (fun q hq=>mP hq)
 refine BB hh hk (fun x hx=>?_) (fun x hx=>?_)
 ·have hle':=mP hx
  obtain ⟨y,hy,_,A,C⟩:=(sV hle hr hb (s:=x.1) (t:=x.2.Lo)).1 ⟨x,hx,rfl,Int.le_refl _,hle'⟩
  obtain ⟨z,hz,_,D,B⟩:=(sV hle hr hb (s:=x.1) (t:=x.2.Hi)).1 ⟨x,hx,rfl,hle',Int.le_refl _⟩
  exact ⟨⟨y,hy,A⟩,z,hz,B⟩
 ·have hle':=xE hle hr hx
  obtain ⟨y,hy,_,A,C⟩:=(sV hle hr hb (s:=x.1) (t:=x.2.Lo)).2 ⟨x,hx,rfl,Int.le_refl _,hle'⟩
  obtain ⟨z,hz,_,D,B⟩:=(sV hle hr hb (s:=x.1) (t:=x.2.Hi)).2 ⟨x,hx,rfl,hle',Int.le_refl _⟩
  exact ⟨⟨y,hy,A⟩,z,hz,B⟩
end
def pC (ws:List de) (b:Nat):Int:=if uR (iL b ws)=mx then 6 else 0
def pa (ws:List de) (b:Nat):aa:=if uR (iL b ws)=mx then ⟨0,0⟩ else uR (iL b ws)
theorem MT {l:List (Int×aa)} {h:aa} (hh:kd l h) (hl: ∀ q∈l,q.2.Lo≤q.2.Hi):uR l=h:=
 BB (uD hl) hh (fun x hx=>⟨⟨x,hx,Int.le_refl _⟩,x,hx,Int.le_refl _⟩) (fun x hx=>⟨⟨x,hx,Int.le_refl _⟩,x,hx,Int.le_refl _⟩)
theorem Ez {ws:List de} {b:Nat} (h:iL b ws=[]):pC ws b=6∧pa ws b=⟨0,0⟩:=by
 unfold pC pa; rw [h]; exact ⟨if_pos rfl,if_pos rfl⟩
theorem DB {ws:List de} {b:Nat} {o:aa} (hl: ∀ q∈iL b ws,q.2.Lo≤q.2.Hi) (h:oq (iL b ws) o):pC ws b=0∧pa ws b=o:=by
 have e:=MT (.inr h) hl
 unfold pC pa; rw [e]; exact ⟨if_neg h.ne,if_neg h.ne⟩
/-- what was found until now -/
def nc (b:Nat) (ws:List de) (fd:Bool) (o:aa):Prop:=(fd=false∧iL b ws=[])∨(fd=true∧oq (iL b ws) o)
theorem HW {b:Nat} {o:aa}:nc b [] false o:= .inl ⟨rfl,rfl⟩
theorem Bt {q:Int×aa} (hq:q.2.Lo≤q.2.Hi):oq [q] q.2:=⟨hq,⟨q,sm,rfl⟩,⟨q,sm,rfl⟩,fun x hx=>by simp at hx; subst hx; exact ⟨Int.le_refl _,Int.le_refl _⟩⟩
theorem Aw {l:List (Int×aa)} {h:aa} {q:Int×aa} (hh:oq l h) (hq:q.2.Lo≤q.2.Hi):oq (l++[q]) ⟨min q.2.Lo h.Lo,max q.2.Hi h.Hi⟩:=by
 have:=tY (.inr hh) hq
 unfold l7 at this
 rw [if_neg hh.ne] at this
 rcases this with ⟨e,_⟩|this
 ·simp at e
 ·exact this
theorem ES {b:Nat} {ws:List de} {fd:Bool} {o:aa} {y:de} (h:nc b ws fd o) (hy:y.gu.length≤b):nc b (ws++[y]) fd o:=by
 unfold nc; rw [xq hy]; exact h
theorem CV {b:Nat} {ws:List de} {fd:Bool} {o:aa} {y:de} {s f e:Int} (h:nc b ws fd o) (hf:fd=false) (h1:y.gu[b]? =some s) (h2:y.iy[b]? =some f) (h3:y.lI[b]? =some e) (hle:f≤e):nc b (ws++[y]) true ⟨f,e⟩:=by
 rcases h with ⟨_,q⟩|⟨q,_⟩
 ·right
  rw [pR h1 h2 h3,q]
  exact ⟨U,Bt hle⟩
 ·rw [q] at hf; cases hf
theorem EO {b:Nat} {ws:List de} {fd:Bool} {o:aa} {y:de} {s f e:Int} (h:nc b ws fd o) (hf:fd=true) (h1:y.gu[b]? =some s) (h2:y.iy[b]? =some f) (h3:y.lI[b]? =some e) (hle:f≤e):nc b (ws++[y]) true ⟨min f o.Lo,max e o.Hi⟩:=by
 rcases h with ⟨q,_⟩|⟨_,q⟩
 ·rw [q] at hf; cases hf
 ·right
  rw [pR h1 h2 h3]
  exact ⟨U,Aw q hle⟩
theorem zi {b:Nat} {ws:List de} {fd:Bool} {o:aa} (h:nc b ws fd o) (hl: ∀ q∈iL b ws,q.2.Lo≤q.2.Hi):(fd=false→pC ws b=6∧pa ws b=⟨0,0⟩)∧(fd=true→pC ws b=0∧pa ws b=o):=by
 rcases h with ⟨q,h⟩|⟨q,h⟩
 ·exact ⟨fun _=>Ez h,fun e=>(by rw [q] at e; cases e)⟩
 ·exact ⟨fun e=>(by rw [q] at e; cases e),fun _=>DB hl h⟩
section
variable {l:bf} {r:cE}
theorem LY (he:eH l r 0=0) {b:Nat} (hb:b<l.ag.length):pC (pU l r) b=eQ l r b∧pa (pU l r) b=eZ l r b:=by
 obtain ⟨A,hr,_,_⟩:=j1 he
 have h:=LQ A hr hb (uD fun q hq=>xE A hr hq)
 have ho:eH l r (jC l b)=0:=by rw [Hs hb]; exact he
 unfold pC pa
 rw [h]
 by_cases e:mu l r b=mx
 ·rw [if_pos e,if_pos e,(pZ ho e).1,(pZ ho e).2]; exact ⟨rfl,rfl⟩
 ·rw [if_neg e,if_neg e,(oe ho e).1,(oe ho e).2]; exact ⟨rfl,rfl⟩
theorem P4 (hle:dw l=0) (hr:fh l r) {y:de} (hy:y∈pU l r) {b:Nat} {f e:Int} (hb:b<y.gu.length) (h2:y.iy[b]? =some f) (h3:y.lI[b]? =some e):f≤e:=
 xE hle hr (q:=(y.gu[b],⟨f,e⟩)) (m7.2 ⟨y,hy,e9 _,h2,h3⟩)
theorem BJ:eH l r (jC l l.bH)=eH l r 0:=by
 by_cases h:dw l=0
 ·obtain ⟨_,A⟩:=gL h
  have hh:=A.head
  unfold gk at hh
  rw [xA om]
 ·rw [nU h,nU h]
theorem vk (h: ¬ eH l r 0=0):eQ l r l.bH=eH l r 0:=by
 have:=(nF (b:=l.bH) (by rw [BJ]; exact h)).1
 rw [this,BJ]
/-- rows of times that are those of ways -/
structure NY (ws:List de):Prop where
 lens: ∀ y∈ws,y.iy.length=y.gu.length∧y.lI.length=y.gu.length∧y.gu.length≤6
 le: ∀ y∈ws,∀ (b:Nat) f e,b<y.gu.length→y.iy[b]? =some f→y.lI[b]? =some e→f≤e
 num:ws.length≤40000000
theorem NY.F5 {ws:List de} (h:NY ws) {b:Nat}: ∀ q∈iL b ws,q.2.Lo≤q.2.Hi:=fun q hq=>by
 obtain ⟨y,hy,A,B,C⟩:=m7.1 hq
 exact h.le y hy b _ _ (List.getElem?_eq_some_iff.1 A).1 B C
theorem Pv (hle:dw l=0) (hr:fh l r):NY (pU l r):=by
 obtain ⟨ht,B⟩:=gL hle
 have hh:=B.head
 unfold gk at hh
 refine ⟨fun y hy=>?_,fun y hy b f e hb A C=>P4 hle hr hy hb A C,tU hr.len om⟩
 obtain ⟨D,A,C⟩:=K7 hle hr hy
 exact ⟨D,A,om⟩
end
end
section
open Go.RowKit
theorem Cf (l:List de) (az:List ku): ∀ v∈(List.zipWith de.cells l az).flatten,v.oneCell'=true:=by
 induction l generalizing az with
 |nil=>intro v hv; simp at hv
 |cons x l ih=>
  cases az with
  |nil=>intro v hv; simp at hv
  |cons a az=>
   intro v hv
   simp only [List.zipWith_cons_cons,List.flatten_cons,kM] at hv
   rcases hv with hv|hv
   ·simp only [de.cells,wS.cells,eA,List.not_mem_nil,or_false] at hv
    rcases hv with rfl|rfl|rfl<;>rfl
   ·exact ih az v hv
theorem N6: ∀ (m:de) (a:ku) (w:World),(∀ X∈de.owns m a,X.holds w)→ ∀ X∈de.gY m a,X.holds w:=fun m a w h X hX=>by
 simp only [de.gY,eA,List.not_mem_nil,or_false] at hX
 have A:=nD (h (own a.1.1 a.1.2 lP 1 (m.gu.map iC)) (by simp [de.owns]))
 have B:=nD (h (own a.2.1.1 a.2.1.2 lP 1 (m.iy.map iC)) (by simp [de.owns]))
 have C:=nD (h (own a.2.2.1 a.2.2.2 lP 1 (m.lI.map iC)) (by simp [de.owns]))
 rcases hX with rfl|rfl|rfl
 ·simpa using A
 ·simpa using B
 ·simpa using C
theorem pb: ∀ (l:List de) (az:List ku),(aU de.owns l az).all (·.wr)=true
 |[],_=>rfl
 |_::_,[]=>rfl
 |x::l,a::az=>by
  simp only [aU,List.all_append,cR]
  exact ⟨U,pb l az⟩
theorem Ir (l:List de) (az:List ku):(bo (aU de.owns l az)).wr=true:=pb l az
theorem Kx {l m:List de} {az bz:List ku} (h:az.length=l.length):List.zipWith de.cells (l++m) (az++bz)=List.zipWith de.cells l az++List.zipWith de.cells m bz:=List.zipWith_append h.symm
theorem tL {l:List de} {az:List ku} (h:az.length=l.length):(List.zipWith de.cells l az).length=l.length:=by rw [List.length_zipWith]; omega
/-- what is read of a thing that is tied, and frozen -/
theorem po {C L:List av} {a:OA} {c e sz n:Nat} {es:List (List Value)} (i:Nat) (hC:C[i]? =some (bo L).ro) (hm:own a c e sz es∈L) (hn:es.length=n):jc C (rd a n sz es).holds:=fun w hw=>by
 subst hn
 exact nD ((show (bo L).holds w from (hw _ (aX hC):(bo L).ro.holds w)).1 _ hm)
section
variable {E:ff} {ops:Array Oper} {Q:cZ} {rest:List Oper} {D:List Deferred} {L:List (Nat×Value)} {C C1:List av}
theorem St.Ql {S:BS} {w0 w:World} {X C:List av} {A:av} (h:St S w0 (bo (X++[A])::C) w):St S w0 (A::bo X::C) w:=by
 have B:=h.ig
 have D:St S w0 (X++(A::C)) w:=by simpa using B
 exact D.tied.perm (List.Perm.swap _ _ _)
theorem St.merge {S:BS} {w0 w:World} {X Y C:List av} (h:St S w0 (bo X::bo Y::C) w):St S w0 (bo (X++Y)::C) w:=by
 have A:St S w0 (bo Y::(X++C)) w:=(h.ig).perm (List.perm_middle (a:=bo Y) (l₁:=X) (l₂:=C))
 have B:St S w0 (Y++(X++C)) w:=A.ig
 have D:St S w0 ((X++Y)++C) w:=B.perm (by rw [← List.append_assoc]; exact List.perm_append_comm.append_right _)
 exact D.tied
end
section
variable {E:ff} {ops:Array Oper} {Q:cZ} {rest:List Oper} {D:List Deferred} {L:List (Nat×Value)} {C:List av}
theorem zG {A:av} {X X':List av} (e:X++[A]=X') (h:RJ E ops Q rest D L (bo X'::C)):RJ E ops Q rest D L (A::bo X::C):=fun a w hf hs=>h a w hf (hs.tie e)
theorem yJ {X:List av} {A:av} (h:RJ E ops Q rest D L (A::bo X::C)):RJ E ops Q rest D L (bo (X++[A])::C):=fun a w hf hs=>h a w hf hs.Ql
theorem Ke {K:Act→World→Prop} {ms ns:List de} {az bz:List ku} (hl:az.length=ms.length) (h:KJ E K D L (bo (aU de.owns (ms++ns) (az++bz))::C)):KJ E K D L (bo (aU de.owns ms az)::bo (aU de.owns ns bz)::C):=fun a w hf hs=>h a w hf (by rw [jN hl.symm]; exact hs.merge)
end
/-- the head of the ways: the way that ends here, if it may -/
def x3 (l:bf) (r:cE) (rs fs:List Int) (ra fa:RA) (hz:List ku) (LA:List av):Prop:=
 ((r.aj.length:Int)-(cY rs).right≤l.cv∧ ∃ la:RA,hz=[(ra,fa,la)]∧LA=[own la.1 la.2 lP 1 ((jn l r rs).map iC)])∨(¬ (r.aj.length:Int)-(cY rs).right≤l.cv∧hz=[]∧LA=[])
theorem x3.len {l:bf} {r:cE} {rs fs:List Int} {ra fa:RA} {hz:List ku} {LA:List av} (h:x3 l r rs fs ra fa hz LA):hz.length=(gP l r rs fs).length:=by
 unfold gP
 rcases h with ⟨q,la,rfl,rfl⟩|⟨q,rfl,rfl⟩
 ·rw [if_pos q]; rfl
 ·rw [if_neg q]; rfl
theorem x3.wr {l:bf} {r:cE} {rs fs:List Int} {ra fa:RA} {hz:List ku} {LA:List av} (h:x3 l r rs fs ra fa hz LA):LA.all (·.wr)=true:=by
 rcases h with ⟨q,la,rfl,rfl⟩|⟨q,rfl,rfl⟩<;>rfl
theorem Ld {S:BS} {w0 w:World} {l:bf} {r:cE} {rs fs:List Int} {ra fa:RA} {hz az:List ku} {LA:List av} {R:List de} {A:av} (hh:x3 l r rs fs ra fa hz LA)
 (h:St S w0 [bo [own ra.1 ra.2 lP 1 (rs.map iC),own fa.1 fa.2 lP 1 (fs.map iC)],A,bo LA,bo (aU de.owns R az)] w):St S w0 [bo (aU de.owns (gP l r rs fs++R) (hz++az)++[A])] w:=by
 rw [jN hh.len.symm]
 have D:St S w0 [own ra.1 ra.2 lP 1 (rs.map iC),own fa.1 fa.2 lP 1 (fs.map iC),A,bo LA,bo (aU de.owns R az)] w:=h.ig
 rcases hh with ⟨q,la,rfl,rfl⟩|⟨q,rfl,rfl⟩
 ·unfold gP
  rw [if_pos q]
  have B:=(St.kj [3,0,1,2,4] rfl rfl D).ig
  have E:=(St.kj [4,1,2,0,3] rfl rfl B).ig
  have C:St S w0 (((aU de.owns [(⟨rs,fs,jn l r rs⟩:de)] [(ra,fa,la)]++aU de.owns R az)++[A])++[]) w:=by
   rw [List.append_nil]
   refine E.perm ?_
   show (aU de.owns R az++(aU de.owns [(⟨rs,fs,jn l r rs⟩:de)] [(ra,fa,la)]++[A])).Perm _
   rw [← List.append_assoc]
   exact List.perm_append_comm.append_right _
  exact C.tied
 ·unfold gP
  rw [if_neg q]
  have B:=(St.kj [4,2] rfl rfl D).ig
  have C:St S w0 (((aU de.owns [] []++aU de.owns R az)++[A])++[]) w:=by
   rw [List.append_nil]; exact B
  exact C.tied
theorem Jo {E:ff} {K:Act→World→Prop} {D:List Deferred} {L:List (Nat×Value)} {l:bf} {r:cE} {rs fs:List Int} {ra fa:RA} {hz az z:List ku} {LA:List av} {R W:List de} {A A':av} (hh:x3 l r rs fs ra fa hz LA) (hW:gP l r rs fs++R=W) (hz':hz++az=z) (hA:A=A')
 (h:KJ E K D L [bo (aU de.owns W z++[A'])]):KJ E K D L [bo [own ra.1 ra.2 lP 1 (rs.map iC),own fa.1 fa.2 lP 1 (fs.map iC)],A,bo LA,bo (aU de.owns R az)]:=fun a w hf hs=>h a w hf (by subst hW hz' hA; exact Ld hh hs)
theorem Qz {E:ff} {K:Act→World→Prop} {D:List Deferred} {L:List (Nat×Value)} {X A:av} {W:List de} (h:KJ E K D L [bo (aU de.owns W []++[A])]):KJ E K D L [X,A]:=fun a w hf hs=>h a w hf (by
 have B:St E.S E.w0 [A] w:=St.kj [1] rfl rfl hs
 have C:St E.S E.w0 (([]++[A])++[]) w:=B
 have e:aU de.owns W []=[]:=by cases W<;>rfl
 rw [e]
 exact C.tied)
theorem G9 {E:ff} {K:Act→World→Prop} {D:List Deferred} {L:List (Nat×Value)} {C:List av} (e sz:Nat) (k:KJ E K D L (own none 0 e sz []::C)):KJ E K D L C:=fun a w hf hs=>k a w hf (hs.qS e sz)
end
section
open Go.RowKit
theorem NZ (l:bf) (kA:OA) (kC:Nat) (az:List RA) (cA:OA) (cC:Nat) (bA:OA) (bC:Nat) (r:cE) (sgA:OA) (sgC:Nat) (hin:eE l az) (hsl:r.aj.length≤1000000):
 ej Tryz.prog 163 [(vA (bK.cells (lp l kA kC cA cC bA bC))),(vA (eK.cells (mB r sgA sgC)))] [(rd kA l.aJ.length 9 (l.aJ.map ao.cells)),(rd cA l.ai.length 2 (List.zipWith au.cells l.ai az)),(e7 (aU au.gY l.ai az)),(rd bA l.ag.length 4 (l.ag.map bE.cells)),(rd sgA r.aj.length 2 (r.aj.map aN.cells))] (vB (decide (fh l r))):=by
 have AC:=hin.sE
 have AB:=hin.sD
 have w:=hin.og
 have AA:=hin.sB
 refine bI kr Tryz.func163 U U fun w0 Q hQ hN=>?_
 try dsimp only
 refine WS fun _ h=>fV U fun b2=>fV U fun b3=>bg 1 U<|RK h<|al fun _ j=>WS fun _ H=>fE 2 [] (mc 0 U I) U<|rS (CL (iA r.Start 0 86400000) (aL) U)<|rP 2 [] I ?_
 refine db (t:=11) U (bx fun X=>?_) (bw fun X=>?_)
 ·refine bg 13 U<|RK H<|aP U<|WS fun _ k=>rP 1 [] I ?_
  refine RK k<|ar<|Q1 hQ U U U ?_
  exact cB (cr fun q=>by have C:=q.time; have u:=q.len; omega).symm
 refine fE 4 [] (mc 0 U I) U<|rS (CL (iA r.gh r.Start 86400000) (aL) U)<|rP 3 [] I ?_
 refine db (t:=19) U (bx fun Z=>?_) (bw fun Z=>?_)
 ·refine bg 5 U<|RK H<|aP U<|WS fun _ m=>rP 1 [] I ?_
  refine RK m<|ar<|Q1 hQ U U U ?_
  exact cB (cr fun q=>by have C:=q.time; have u:=q.len; omega).symm
 refine rP 5 [] (mc 0 U I) ?_
 refine RK H<|cM U (aS fun a=>?_) (aR fun a=>?_)
 ·refine WS fun _ n=>rP 1 [] I ?_
  refine RK n<|ar<|Q1 hQ U U U ?_
  exact cB (cr fun q=>by have C:=q.time; have u:=q.len; omega).symm
 refine WK j<|al fun _ o=>WS fun _ J=>rP 1 [] I ?_
 refine RK J<|aw ?_
 have F:(0≤r.aj.length)∧(qj l r.aj 0):=by exact ⟨Nat.zero_le _,zj⟩
 refine bO (ι:={z:Nat // (z≤r.aj.length)∧(qj l r.aj z)}) [2,3] [0,1,2,3,4,5,6] U U (fun z=>[(5,(vI (z.1:Int)))]) (fun z=>[]) (fun _=>rfl) (fun _=>rfl) (fun z=>r.aj.length-z.1) ⟨0,F⟩ (aQ U) (aK [0,1,2,3,4,5,6]) ?_
 clear F
 rintro ⟨i,⟨p,A⟩⟩ J11 D
 try dsimp only
 refine al fun _ K=>WS fun _ L=>rP 5 [] (mc 0 U I) ?_
 refine RK L<|bR U (aR fun Y=>?_) (aS fun Y=>?_)
 ·refine bB<|ae<|ae<|ax<|KK o<|WS fun _ T=>rP 1 [] I ?_
  refine RK T<|ar<|Q1 hQ U U U ?_
  exact cB (fO (CN om om A om)).symm
 refine WK K<|al fun _ E=>aw<|WS fun _ M=>rP 3 [] (mc 0 U I) ?_
 obtain ⟨x,hx⟩:=aO r.aj i om
 have s:=bP aN.cells hx
 refine rS (IA i U (aG 6 U) zQ dc om om)<|rS (oB i 0 (aN.cells x) U cq (aG 6 U) s U dc U U)<|AL U Fx fun v=>fR U we U<|RK M<|al fun _ N=>WS fun _ G=>fE 6 [0,1] (mc 0 U (mc 2 U I)) U<|rS (CL (iA x.gj 0 ((l.ag.length:Int)-1)) (aL) U)<|rP 2 [] I ?_
 refine db (t:=45) U (bx fun b=>?_) (bw fun b=>?_)
 ·refine bg 5 U<|RK G<|aP U<|WS fun _ O=>rP 1 [] I ?_
  refine RK O<|ar<|Q1 hQ U U U ?_
  exact cB (cr fun q=>by have C:=q.sig i x hx; unfold kb k9 at C; omega).symm
 refine fE 2 [] (mc 0 U I) U<|rS (CL (iA x.Read 0 86400000) (aL) U)<|rP 2 [] I ?_
 refine RK G<|cM U (bx fun c=>?_) (bw fun c=>?_)
 ·refine WS fun _ P=>rP 1 [] I ?_
  refine RK P<|ar<|Q1 hQ U U U ?_
  exact cB (cr fun q=>by have C:=q.sig i x hx; unfold kb k9 at C; omega).symm
 refine WK N<|al fun _ B=>dF cD 38 kr<|dP 3 [] I ?_
 refine jk (t:=53) U (aR fun d=>?_) (aS fun d=>?_)
 ·refine lz 35 U<|cO<|RK B<|aV U<|bY<|aD<|KK E<|an<|rP 3 [] I ?_
  refine aH ?_
  have W:(vI (((i+1):Nat):Int))=(vI ((i:Int)+1)):=by exact cI om
  refine aT (D ⟨(i+1),⟨om,lL A hx (by unfold kb k9; (rw [Hm om]; simp only; omega))⟩⟩ _ _ _ U os (dx.cons U<|dx.cons U<|bk U W<|dx.nil _) (aK [1,2,3,4,5,6,7]))
 refine dP 6 [0,1] (mc 0 U (mc 1 U I)) ?_
 obtain ⟨y,hy⟩:=aO r.aj (i-1) om
 have AE:=bP aN.cells hy
 refine dS (IA (i-1) U (aG 7 U) zQ dc om om)<|dS (nK ((i-1)*2) U (aG 7 U) (Nat.mul_pos om dc) fD U)<|dS (gF (i-1) 0 (vI y.gj) U cq (aG 7 U) AE U dc U)<|dP 2 [] I ?_
 refine iS (t:=64) U (aS fun e=>?_) (aR fun e=>?_)
 ·refine lz 24 U<|cO<|RK B<|aP U<|WS fun _ R=>rP 1 [] I ?_
  refine RK R<|ar<|Q1 hQ U U U ?_
  exact cB (cr fun q=>by have C:=q.sig i x hx; unfold kb k9 at C; (rw [qT om hy] at C; omega)).symm
 refine mI 6 [0,1] (mc 0 U (mc 1 U I)) U<|dS (IA (i-1) U (aG 7 U) zQ dc om om)<|dS (nK ((i-1)*2) U (aG 7 U) (Nat.mul_pos om dc) fD U)<|dS (gF (i-1) 0 (vI y.gj) U cq (aG 7 U) AE U dc U)<|dP 2 [] I ?_
 refine jk (t:=75) U (aR fun f=>?_) (aS fun f=>?_)
 ·refine lz 13 U<|cO<|RK B<|aV U<|bY<|aD<|KK E<|an<|rP 3 [] I ?_
  refine aH ?_
  have V:(vI (((i+1):Nat):Int))=(vI ((i:Int)+1)):=by exact cI om
  refine aT (D ⟨(i+1),⟨om,lL A hx (by unfold kb k9; (rw [qT om hy]; omega))⟩⟩ _ _ _ U os (dx.cons U<|dx.cons U<|bk U V<|dx.nil _) (aK [1,2,3,4,5,6,7]))
 refine mI 6 [0,1] (mc 0 U (mc 1 U I)) U<|dS (IA (i-1) U (aG 7 U) zQ dc om om)<|dS (nK (((i-1)*2)+1) U (aG 7 U) (Nat.mul_pos om dc) fD U)<|dS (gF (i-1) 1 (vI y.Read) U cq (aG 7 U) AE U dc U)<|dP 4 [] I ?_
 refine cO<|RK B<|cM U (aS fun g=>?_) (aR fun g=>?_)
 ·refine WS fun _ S=>rP 1 [] I ?_
  refine RK S<|ar<|Q1 hQ U U U ?_
  exact cB (cr fun q=>by have C:=q.sig i x hx; unfold kb k9 at C; (rw [qT om hy] at C; omega)).symm
 refine bY<|aD<|KK E<|an<|rP 3 [] I ?_
 refine aH ?_
 have AD:(vI (((i+1):Nat):Int))=(vI ((i:Int)+1)):=by exact cI om
 refine aT (D ⟨(i+1),⟨om,lL A hx (by unfold kb k9; (rw [qT om hy]; omega))⟩⟩ _ _ _ U os (dx.cons U<|dx.cons U<|bk U AD<|dx.nil _) (aK [1,2,3,4,5,6,7]))
end
section
open Go.RowKit
theorem MP (l:bf) (kA:OA) (kC:Nat) (az:List RA) (cA:OA) (cC:Nat) (bA:OA) (bC:Nat) (r:cE) (sgA:OA) (sgC:Nat) (hin:eE l az) (hle:dw l=0) (hr:fh l r):
 lv Tryz.prog 165 [(vA (bK.cells (lp l kA kC cA cC bA bC))),(vA (eK.cells (mB r sgA sgC)))] [(rd kA l.aJ.length 9 (l.aJ.map ao.cells)),(rd cA l.ai.length 2 (List.zipWith au.cells l.ai az)),(e7 (aU au.gY l.ai az)),(rd bA l.ag.length 4 (l.ag.map bE.cells)),(rd sgA r.aj.length 2 (r.aj.map aN.cells))] (fun (x:(OA)×Nat×(OA)×Nat×(OA)×Nat)=>(vA (im.cells (im.mk (aM.mk x.1 ((cL l l.ag.length).length) x.2.1) (aM.mk x.2.2.1 ((eT l r r.aj.length).length) x.2.2.2.1) (aM.mk x.2.2.2.2.1 ((fj l r r.aj.length).length) x.2.2.2.2.2))))) (fun (x:(OA)×Nat×(OA)×Nat×(OA)×Nat)=>True) (fun (x:(OA)×Nat×(OA)×Nat×(OA)×Nat)=>[(own x.1 x.2.1 3 1 ((cL l l.ag.length).map iC)),(own x.2.2.1 x.2.2.2.1 38 2 ((eT l r r.aj.length).map aa.cells)),(own x.2.2.2.2.1 x.2.2.2.2.2 4 1 ((fj l r r.aj.length).map pQ))]):=by
 have AK:=hin.sE
 have AF:=hin.sD
 have AD:=hin.og
 have AE:=hin.sB
 obtain ⟨w,g⟩:=gL hle
 have t:=g.head
 unfold gk at t
 have AI:=hr.len
 have AJ:=hr.time
 refine dp kr Tryz.func165 U U fun w0 Q hQ hN=>?_
 try dsimp only
 refine WS fun _ n=>fV U fun b2=>fV U fun b3=>AL U OE fun b4=>RK n<|WS fun _ o=>AL U OE fun h=>RK o<|al fun _ p=>WS fun _ q=>rP 1 [] I ?_
 refine RK q<|aw<|fX 3 1 ?_
 have A:(0≤l.ag.length):=by exact Nat.zero_le _
 refine bO (ι:={z:Nat×(OA)×Nat // (z.1≤l.ag.length)}) [2,3,4,5] [2,3,4,5,6,7,8,9] U U (fun z=>[(6,(vI (z.1.1:Int)))]) (fun z=>[(own z.1.2.1 z.1.2.2 3 1 ((cL l z.1.1).map iC)),(bZ h 233 (im.cells (im.mk (aM.mk z.1.2.1 ((cL l z.1.1).length) z.1.2.2) (aM.mk none 0 0) (aM.mk none 0 0))))]) (fun _=>rfl) (fun _=>rfl) (fun z=>l.ag.length-z.1.1) ⟨(0,none,0),A⟩ (aQ U) (aK [2,3,4,5,6,7,8,9,0,1]) ?_
 clear A
 rintro ⟨⟨b,a,c⟩,F⟩ J9 m
 try dsimp only at F
 try dsimp only
 refine al fun _ K=>WS fun _ L=>rP 5 [] (mc 2 U I) ?_
 refine RK L<|cM U (aS fun j=>?_) (aR fun j=>?_)
 ·refine WK K<|al fun _ M=>aw<|dR cD [5,6,8] [1] [0] [0,1,2,3,4,5,6,7] [0,1,2,3,4,5,6,7,8,9] U U U U U<|eS U (FA 0 U fD U)<|fS U (L1 (vS a ((cL l b).length) c) 9 U cq U U)<|eS U (LW 2 U cq U U)<|eS U (MV U) ?_
  have AH:=mS w g (i:=b) om
  refine eS U (CL (I1 l kA kC az cA cC bA bC (b:Int) hin asm asm om) (bp [3,4,5,6]) U)<|eS U (FA 0 U fD U)<|e8 U<|iz U fun T14 W=>cU (xs:=[.tmp 21]) (cs:=[(vI (eh l (b:Int).toNat))]) U cy jd U U U U (by simp [Value.cells]) U U fun y=>aH (W _ _ (aK [1,2,3,4,5,6,7,8]) (aK [1,2,3,4,5,6,7,8,9,10]) ?_)
  refine cp U fun T16 X=>?_
  refine c_ (es2:=(List.map iC (cL l (b+1)))) (m':=(cL l (b+1)).length) 9 U U U pE U U sm (aY (es:=List.map iC [(eh l (b:Int).toNat)]) 0 U U (by simp [bJ]) U) (jT _) (by simp only [eo]; omega) (by simp only [maxLen,eo]; omega) (by rw [uW]; simp) sm U fun H AN=>?_
  try dsimp only
  refine aH (X _ _ (aK [1,2,3,4,5,6,7,8]) ?_)
  refine cp U fun T19 Y=>U8 (im.cells (im.mk (aM.mk H ((cL l (b+1)).length) AN) (aM.mk none 0 0) (aM.mk none 0 0))) U z7 U U<|aH (Y _ _ (aK [1,2,3,4,5,6,7,8]) ?_)
  refine fM U<|aD<|KK M<|an<|rP 3 [] I ?_
  refine aH ?_
  have e:(vI (((b+1):Nat):Int))=(vI ((b:Int)+1)):=by exact cI om
  refine aT (m ⟨((b+1),H,AN),(by first|omega|(simp only []; omega))⟩ _ _ _ U os (cN 4<|bk U e<|dx.nil _) (aK [1,2,3,4,5,6,7,8,9,10]))
 refine bB<|ae<|ae<|ax<|KK p<|al fun _ N=>WS fun _ O=>?_
 rw [show cL l b=(cL l l.ag.length) from by rw [show b=l.ag.length by omega]]
 refine rP 1 [] I ?_
 refine RK O<|aw<|fX 38 2<|fX 4 1 ?_
 have A:(0≤r.aj.length):=by exact Nat.zero_le _
 refine bO (ι:={z:Nat×(OA)×Nat×(OA)×Nat // (z.1≤r.aj.length)}) [2,3,4,5] [2,3,4,5,6,7,8,9,10] U U (fun z=>[(7,(vI (z.1.1:Int)))]) (fun z=>[(own z.1.2.2.2.1 z.1.2.2.2.2 4 1 ((fj l r z.1.1).map pQ)),(own z.1.2.1 z.1.2.2.1 38 2 ((eT l r z.1.1).map aa.cells)),(bZ h 233 (im.cells (im.mk (aM.mk a ((cL l l.ag.length).length) c) (aM.mk z.1.2.1 ((eT l r z.1.1).length) z.1.2.2.1) (aM.mk z.1.2.2.2.1 ((fj l r z.1.1).length) z.1.2.2.2.2))))]) (fun _=>rfl) (fun _=>rfl) (fun z=>r.aj.length-z.1.1) ⟨(0,none,0,none,0),A⟩ (aQ U) (aK [2,3,4,5,6,7,8,9,10,0,1,11]) ?_
 clear A
 rintro ⟨⟨i,ta,tc,sa,sc⟩,G⟩ J23 J
 try dsimp only at G
 try dsimp only
 refine al fun _ P=>WS fun _ R=>rP 5 [] (mc 1 U I) ?_
 refine RK R<|bR U (aR fun k=>?_) (aS fun k=>?_)
 ·refine bB<|ae<|ae<|ax<|KK N<|WS fun _ V=>?_
  rw [show eT l r i=(eT l r r.aj.length) from by rw [show i=r.aj.length by omega]]
  rw [show fj l r i=(fj l r r.aj.length) from by rw [show i=r.aj.length by omega]]
  refine rP 1 [] (mc 11 U I) ?_
  refine fR U Q6 U<|RK V<|ar<|LX hQ (a,c,ta,tc,sa,sc) [8,10,9] [0] (mc 0 U I) U U U U ?_
  trivial
 refine WK P<|al fun _ S=>aw<|al fun _ T=>dR cD [10,11] [] [] [0,1,2,3,4,5,6,7,8,9,10,11] [] U U U U U<|eS U (LW 2 U cq U U)<|eS U (FA 2 U fD U)<|eS U (L1 (vS sgA r.aj.length sgC) 1 U cq U U)<|eS U (MV U) ?_
 obtain ⟨s,hs⟩:=aO r.aj i om
 have v:=bP aN.cells hs
 refine eS U (IA i U (aG 7 U) zQ dc om om)<|eS U (oB i 0 (aN.cells s) U cq (aG 7 U) v U dc U U) ?_
 have u:=(hr.sig i s hs).1
 refine eS U (CL (MQ l kA kC az cA cC bA bC s hin asm (by exact u)) (bp [3,4,5,6]) U)<|eS U (MV U)<|eS U (EX U)<|eS U (EX U)<|eS U (AG U)<|e8 U<|cp U fun T29 Z=>AL U dg fun AA=>aH (Z _ _ (aK [1,2,3,4,5,6,7,8,9,10,11,12]) ?_)
 refine cp U fun T31 d=>fR U cu U<|aH (d _ _ (aK [1,2,3,4,5,6,7,8,9,10,11,12]) ?_)
 refine fM U<|KK T<|WS fun _ AM=>rP 3 [0,1] (mc 12 U (mc 0 U I)) ?_
 refine cU (xs:=[.tmp 44]) (cs:=(aa.cells (cH l s))) U jK dg U U U U (by simp [Value.cells,aa.aW]) U U fun AB=>?_
 refine c_ (es2:=(List.map aa.cells (eT l r (i+1)))) (m':=(eT l r (i+1)).length) 12 U U U Ek U U sm (aY (es:=List.map aa.cells [(cH l s)]) 0 U U (by simp [aa.aW]) U) (gV _) (by rw [qI om]; omega) (by rw [qI om]; simp only [maxLen]; omega) (by rw [DC hs]; simp) sm U fun B C=>?_
 try dsimp only
 refine bg 1 U<|jh (vs:=[(vS B ((eT l r (i+1)).length) C)]) (cs':=(im.cells (im.mk (aM.mk a ((cL l l.ag.length).length) c) (aM.mk B ((eT l r (i+1)).length) C) (aM.mk sa ((fj l r i).length) sc)))) (C':=[_,_,_,_,_,_,_,_,_,_,_,_,_,(bZ h 233 (im.cells (im.mk (aM.mk a ((cL l l.ag.length).length) c) (aM.mk B ((eT l r (i+1)).length) C) (aM.mk sa ((fj l r i).length) sc))))]) 13 U U U TR U U U U U U U<|RK AM<|an<|rP 3 [] (mc 13 U I) ?_
 refine cU (xs:=[.tmp 50]) (cs:=[(vB (decide ((cH l s).Lo≤(cH l s).Hi)))]) U O7 Vs U U U U (by simp [Value.cells]) U U fun AC=>?_
 refine c_ (es2:=(List.map pQ (fj l r (i+1)))) (m':=(fj l r (i+1)).length) 12 U U U Te U U sm (aY (es:=List.map pQ [(decide ((cH l s).Lo≤(cH l s).Hi))]) 0 U U (by simp [Aa]) U) (GC _) (by rw [uG om]; omega) (by rw [uG om]; simp only [maxLen]; omega) (by rw [EG hs]; simp) sm U fun D E=>?_
 try dsimp only
 refine bg 1 U<|jh (vs:=[(vS D ((fj l r (i+1)).length) E)]) (cs':=(im.cells (im.mk (aM.mk a ((cL l l.ag.length).length) c) (aM.mk B ((eT l r (i+1)).length) C) (aM.mk D ((fj l r (i+1)).length) E)))) (C':=[_,_,_,_,_,_,_,_,_,_,_,_,_,_,(bZ h 233 (im.cells (im.mk (aM.mk a ((cL l l.ag.length).length) c) (aM.mk B ((eT l r (i+1)).length) C) (aM.mk D ((fj l r (i+1)).length) E))))]) 14 U U U Q5 U U U U U U U<|aH<|aD<|KK S<|an<|bg 2 U<|rP 1 [] I ?_
 refine aH ?_
 have f:(vI (((i+1):Nat):Int))=(vI ((i:Int)+1)):=by exact cI om
 refine aT (J ⟨((i+1),B,C,D,E),(by first|omega|(simp only []; omega))⟩ _ _ _ U os (cN 4<|bk U f<|dx.nil _) (aK [3,4,5,6,7,8,9,10,11,12,13,14]))
theorem Jq (r:cE) (sgA:OA) (sgC:Nat) (l:bf) (wA:OA) (wC:Nat) (tA:OA) (tC:Nat) (bA:OA) (bC:Nat) (rs:List Int) (rsA:OA) (rsC:Nat) (hle:dw l=0) (hr:fh l r) (hn:rs.length≤l.ag.length) (hrs: ∀ x∈rs,0≤x→x<(r.aj.length:Int)):
 lv Tryz.prog 167 [(vA (eK.cells (mB r sgA sgC))),(vA (im.cells (im.mk (aM.mk wA ((cL l l.ag.length).length) wC) (aM.mk tA ((eT l r r.aj.length).length) tC) (aM.mk bA ((fj l r r.aj.length).length) bC)))),(vS rsA rs.length rsC)] [(rd sgA r.aj.length 2 (r.aj.map aN.cells)),(rd wA ((cL l l.ag.length).length) 1 ((cL l l.ag.length).map iC)),(rd tA ((eT l r r.aj.length).length) 2 ((eT l r r.aj.length).map aa.cells)),(rd bA ((fj l r r.aj.length).length) 1 ((fj l r r.aj.length).map pQ)),(rd rsA rs.length 1 (rs.map iC))] (fun (x:(OA)×Nat)=>(vS x.1 ((jn l r rs).length) x.2)) (fun (x:(OA)×Nat)=>True) (fun (x:(OA)×Nat)=>[(own x.1 x.2 3 1 ((jn l r rs).map iC))]):=by
 obtain ⟨J,D⟩:=gL hle
 have v:=D.head
 unfold gk at v
 have AG:=hr.len
 have AH:=hr.time
 have w:=E7 (l:=l) (rs:=rs) ⟨om,om⟩ (fun b hb=>by have:=mS J D (i:=b) om; omega) hrs
 have AE:=eo (l:=l) (n:=l.ag.length)
 have AI:=qI (l:=l) (Nat.le_refl r.aj.length)
 refine dp kr Tryz.func167 U U fun w0 Q hQ hN=>?_
 try dsimp only
 refine WS fun _ h=>fV U fun b2=>fV U fun b3=>bg 1 U<|RK h<|WS fun _ m=>rP 2 [] I ?_
 refine x5 (n:=rs.length) (es:=(List.map iC (List.replicate rs.length 0))) U U U pE om om (by simp only [maxLen]; omega) (by rw [List.map_replicate]; rfl) U fun E=>?_
 try dsimp only
 refine bg 1 U<|RK m<|WS fun _ p=>fE 3 [] (mc 2 U I) U<|RK p<|al fun _ q=>WS fun _ t=>rP 4 [] I ?_
 refine RK t<|aw ?_
 rw [show (own (some ⟨E,0,none⟩) rs.length 3 1 (List.map iC (List.replicate rs.length 0)))=(own (some ⟨E,0,none⟩) rs.length 3 1 ((jH l r rs rs.length).map iC)) from by rw [GL]]
 have B:(rs.length≤rs.length):=by exact Nat.le_refl _
 have u:(vI ((jE l r rs rs.length).2))=(vI r.gh):=by rw [uA]
 refine bO (ι:={z:Nat // (z≤rs.length)}) [2,3,4,7] [1,2,3,4,5,6,7] U U (fun z=>[(8,(vI ((jE l r rs z.1).2))),(9,(vI ((z.1:Int)-1)))]) (fun z=>[(own (some ⟨E,0,none⟩) rs.length 3 1 ((jH l r rs z.1).map iC))]) (fun _=>rfl) (fun _=>rfl) (fun z=>z.1) ⟨rs.length,B⟩ (bk U u<|aQ U) (aK [1,2,3,4,5,6,7,0]) ?_
 clear B
 rintro ⟨j,AA⟩ J10 F
 try dsimp only
 have AF:=Ho (l:=l) (r:=r) (rs:=rs) (j:=j) om
 refine al fun _ L=>WS fun _ M=>rP 2 [] I ?_
 refine RK M<|bR U (aR fun g=>?_) (aS fun g=>?_)
 ·refine bB<|ae<|ae<|ax<|KK q<|WS fun _ R=>rP 1 [] I ?_
  rw [show (Value.slice (some ⟨E,0,none⟩) rs.length rs.length)=(Value.slice (some ⟨E,0,none⟩) ((jn l r rs).length) rs.length) from by rw [show (jn l r rs).length=rs.length from qP _ _]]
  rw [show jH l r rs j=jn l r rs from by rw [show j=0 by omega]; exact Eg]
  refine rP 1 [] I ?_
  refine RK R<|ar<|LX hQ ((some ⟨E,0,none⟩),rs.length) [7] [] I U U U U ?_
  trivial
 refine WK L<|al fun _ G=>aw<|al fun _ H=>WS fun _ N=>rP 2 [] I ?_
 have AD:=w (rs.length-j) j om
 obtain ⟨x,hx⟩:=aO rs (j-1) om
 have d:=bP iC hx
 refine rS (IA (j-1) U (aG 6 U) cy dc om om)<|rS (gF (j-1) 0 (vI x) U cq (aG 6 U) d U dc U)<|rP 1 [] I ?_
 refine RK N<|bR U (aR fun A=>?_) (aS fun A=>?_)
 ·refine WK H<|WS fun _ P=>rP 3 [] I ?_
  obtain ⟨AL,c⟩:=aO (jH l r rs j) (j-1) om
  have hx25m:=bP iC c
  refine rS (IA (j-1) U (ak (n:=rs.length) 7 U sq) cy dc om om) ?_
  have V:((jH l r rs j).set (j-1) ((jE l r rs j).2))=(jH l r rs (j-1)):=by (rw [← yx om hx]; congr 1; unfold tq; (rw [if_neg A]; done))
  refine eG (k:=(j-1)) (o:=0) (vs:=[(vI ((jE l r rs j).2))]) (es':=(List.map iC (jH l r rs (j-1)))) (C':=[_,_,_,_,_,_,_,(own (some ⟨E,0,none⟩) rs.length 3 1 (List.map iC (jH l r rs (j-1))))]) 7 U U U BF U U U U hx25m U dc (by exact (List.map_set (f:=iC) (l:=(jH l r rs j)) (i:=(j-1)) (a:=(jE l r rs j).2)).symm.trans (congrArg _ V)) U<|RK P<|an<|rP 4 [] (mc 0 U I) ?_
  obtain ⟨y,hy⟩:=aO (cL l l.ag.length) (j-1) om
  have K:=bP iC hy
  refine rS (IA (j-1) U (aG 3 U) cy dc om om)<|rS (gF (j-1) 0 (vI y) U cq (aG 3 U) K U dc U) ?_
  have C:=uC hy
  have AN:=mS J D (i:=j-1) om
  rw [← C] at AN
  refine bg 2 U<|aH<|aD<|KK G<|an<|rP 3 [] I ?_
  refine aH ?_
  have W:(vI ((jE l r rs (j-1)).2))=(vI (((jE l r rs j).2)-y)):=by exact cI (by rw [pI om hx]; simp only; unfold tq; rw [C]; (rw [if_neg A]; done))
  have X:(vI ((((j-1):Nat):Int)-1))=(vI (((j:Int)-1)-1)):=by exact cI om
  refine aT (F ⟨(j-1),(by first|omega|(simp only []; omega))⟩ _ _ _ U os (cN 4<|bk U W<|bk U X<|dx.nil _) (aK [0,1,2,3,4,5,6,7]))
 refine dF cD 12 kr<|dP 5 [] (mc 0 U I) ?_
 refine dS (IA (j-1) U (aG 6 U) cy dc om om)<|dS (gF (j-1) 0 (vI x) U cq (aG 6 U) d U dc U) ?_
 have AJ:=hrs x (aX hx) A
 obtain ⟨z,hz⟩:=aO (eT l r r.aj.length) ((x).toNat) om
 have AC:=bP aa.cells hz
 refine dS (IA ((x).toNat) U (aG 4 U) jK dc om om)<|dS (nK ((((x).toNat)*2)+1) U (aG 4 U) (Nat.mul_pos om dc) fD U) ?_
 obtain ⟨s,hs,e⟩:=IK hz
 have AB:=x_ l s
 rw [← e] at AB
 have Y:Md l r x=z.Hi:=by rw [DL hs,e]
 refine dS (gF ((x).toNat) 1 (vI z.Hi) U cq (aG 4 U) AC U dc U)<|dS (MN U)<|lz 1 U<|cO<|RK H<|WS fun _ O=>rP 3 [] I ?_
 obtain ⟨AK,Z⟩:=aO (jH l r rs j) (j-1) om
 have hx19m:=bP iC Z
 refine rS (IA (j-1) U (ak (n:=rs.length) 7 U sq) cy dc om om) ?_
 have S:((jH l r rs j).set (j-1) (min ((jE l r rs j).2) z.Hi))=(jH l r rs (j-1)):=by (rw [← yx om hx]; congr 1; unfold tq; (rw [if_pos A,Y]; done))
 refine eG (k:=(j-1)) (o:=0) (vs:=[(vI (min ((jE l r rs j).2) z.Hi))]) (es':=(List.map iC (jH l r rs (j-1)))) (C':=[_,_,_,_,_,_,_,(own (some ⟨E,0,none⟩) rs.length 3 1 (List.map iC (jH l r rs (j-1))))]) 7 U U U BF U U U U hx19m U dc (by exact (List.map_set (f:=iC) (l:=(jH l r rs j)) (i:=(j-1)) (a:=(min ((jE l r rs j).2) z.Hi))).symm.trans (congrArg _ S)) U<|RK O<|an<|rP 4 [] (mc 0 U I) ?_
 obtain ⟨y,hy⟩:=aO (cL l l.ag.length) (j-1) om
 have K:=bP iC hy
 refine rS (IA (j-1) U (aG 3 U) cy dc om om)<|rS (gF (j-1) 0 (vI y) U cq (aG 3 U) K U dc U) ?_
 have C:=uC hy
 have AN:=mS J D (i:=j-1) om
 rw [← C] at AN
 refine bg 2 U<|aH<|aD<|KK G<|an<|rP 3 [] I ?_
 refine aH ?_
 have T:(vI ((jE l r rs (j-1)).2))=(vI ((min ((jE l r rs j).2) z.Hi)-y)):=by exact cI (by rw [pI om hx]; simp only; unfold tq; rw [C]; (rw [if_pos A,Y]; done))
 have AM:(vI ((((j-1):Nat):Int)-1))=(vI (((j:Int)-1)-1)):=by exact cI om
 refine aT (F ⟨(j-1),(by first|omega|(simp only []; omega))⟩ _ _ _ U os (cN 4<|bk U T<|bk U AM<|dx.nil _) (aK [0,1,2,3,4,5,6,7]))
end
section
open Go.RowKit
theorem Gp (l:bf) (kA:OA) (kC:Nat) (az:List RA) (cA:OA) (cC:Nat) (bA:OA) (bC:Nat) (r:cE) (sgA:OA) (sgC:Nat) (vwA:OA) (vwC:Nat) (vtA:OA) (vtC:Nat) (vbA:OA) (vbC k:Nat) (rs:List Int) (rA:OA) (rC:Nat) (fs:List Int) (fA:OA) (fC:Nat) (hin:eE l az) (hle:dw l=0) (hr:fh l r) (hk:rs.length+k=l.ag.length) (hfl:fs.length=rs.length) (hst:r.Start≤fZ r.Start fs∧fZ r.Start fs≤r.gh) (hrs: ∀ x∈rs,-1≤x∧x<(r.aj.length:Int)) (hrec: ∀ (k2:Nat) (rs2:List Int) (rA2:OA) (rC2:Nat) (fs2:List Int) (fA2:OA) (fC2:Nat),(k2<k)→(rs2.length+k2=l.ag.length)→(fs2.length=rs2.length)→(r.Start≤fZ r.Start fs2∧fZ r.Start fs2≤r.gh)→(∀ x∈rs2,-1≤x∧x<(r.aj.length:Int))→De Tryz.prog 164 [(vA (bK.cells (lp l kA kC cA cC bA bC))),(vA (eK.cells (mB r sgA sgC))),(vA (im.cells (im.mk (aM.mk vwA ((cL l l.ag.length).length) vwC) (aM.mk vtA ((eT l r r.aj.length).length) vtC) (aM.mk vbA ((fj l r r.aj.length).length) vbC)))),(vS rA2 rs2.length rC2),(vS fA2 fs2.length fC2)] [(rd kA l.aJ.length 9 (l.aJ.map ao.cells)),(rd cA l.ai.length 2 (List.zipWith au.cells l.ai az)),(e7 (aU au.gY l.ai az)),(rd bA l.ag.length 4 (l.ag.map bE.cells)),(rd sgA r.aj.length 2 (r.aj.map aN.cells)),(rd vwA ((cL l l.ag.length).length) 1 ((cL l l.ag.length).map iC)),(rd vtA ((eT l r r.aj.length).length) 2 ((eT l r r.aj.length).map aa.cells)),(rd vbA ((fj l r r.aj.length).length) 1 ((fj l r r.aj.length).map pQ))] (bo [own rA2 rC2 3 1 (rs2.map iC),own fA2 fC2 3 1 (fs2.map iC)]) (fun (x:(OA)×Nat×(List ku))=>(vS x.1 ((g9 l r k2 rs2 fs2).length) x.2.1)) (fun (x:(OA)×Nat×(List ku))=>x.2.2.length=(g9 l r k2 rs2 fs2).length) (fun (x:(OA)×Nat×(List ku))=>(bo (aU de.owns (g9 l r k2 rs2 fs2) x.2.2++[own x.1 x.2.1 236 3 (List.zipWith de.cells (g9 l r k2 rs2 fs2) x.2.2)])))):
 De Tryz.prog 164 [(vA (bK.cells (lp l kA kC cA cC bA bC))),(vA (eK.cells (mB r sgA sgC))),(vA (im.cells (im.mk (aM.mk vwA ((cL l l.ag.length).length) vwC) (aM.mk vtA ((eT l r r.aj.length).length) vtC) (aM.mk vbA ((fj l r r.aj.length).length) vbC)))),(vS rA rs.length rC),(vS fA fs.length fC)] [(rd kA l.aJ.length 9 (l.aJ.map ao.cells)),(rd cA l.ai.length 2 (List.zipWith au.cells l.ai az)),(e7 (aU au.gY l.ai az)),(rd bA l.ag.length 4 (l.ag.map bE.cells)),(rd sgA r.aj.length 2 (r.aj.map aN.cells)),(rd vwA ((cL l l.ag.length).length) 1 ((cL l l.ag.length).map iC)),(rd vtA ((eT l r r.aj.length).length) 2 ((eT l r r.aj.length).map aa.cells)),(rd vbA ((fj l r r.aj.length).length) 1 ((fj l r r.aj.length).map pQ))] (bo [own rA rC 3 1 (rs.map iC),own fA fC 3 1 (fs.map iC)]) (fun (x:(OA)×Nat×(List ku))=>(vS x.1 ((g9 l r k rs fs).length) x.2.1)) (fun (x:(OA)×Nat×(List ku))=>x.2.2.length=(g9 l r k rs fs).length) (fun (x:(OA)×Nat×(List ku))=>(bo (aU de.owns (g9 l r k rs fs) x.2.2++[own x.1 x.2.1 236 3 (List.zipWith de.cells (g9 l r k rs fs) x.2.2)]))):=by
 have Bl:=hin.sE
 have Bd:=hin.sD
 have Bb:=hin.og
 have Bc:=hin.sB
 obtain ⟨BI,Ak⟩:=gL hle
 have BC:=Ak.head
 unfold gk at BC
 have AD:=hr.len
 have Bi:=hr.time
 have Bh:=eo (l:=l) (n:=l.ag.length)
 have Bm:=qI (l:=l) (Nat.le_refl r.aj.length)
 have Bk:=uG (l:=l) (Nat.le_refl r.aj.length)
 have Bn:=sI rs
 refine mE kr Tryz.func164 U U fun w0 Q hQ hN=>?_
 try dsimp only
 refine BQ 0 U U fun wz Sz hz=>?_
 try dsimp only
 refine WS fun _ A6=>fV U fun b2=>fV U fun b3=>fV U fun b4=>bg 1 U<|RK A6<|WS fun _ A7=>bg 1 U<|RK A7<|WS fun _ A8=>bg 4 U<|RK A8<|al fun _ A9=>WS fun _ A_=>rP 1 [] I ?_
 refine RK A_<|aw ?_
 have C:(0≤rs.length):=by exact Nat.zero_le _
 have BA:(vI ((cY (rs.take 0)).right))=(vI 0):=by rfl
 refine bO (ι:={z:Nat // (z≤rs.length)}) [3,4,5,6,7,11,12] [0,1,2,3,4,5,6,7,8,9,10,11] U U (fun z=>[(13,(vI ((cY (rs.take z.1)).right))),(14,(vI (z.1:Int)))]) (fun z=>[]) (fun _=>rfl) (fun _=>rfl) (fun z=>rs.length-z.1) ⟨0,C⟩ (bk U BA<|aQ U) (aK [0,1,2,3,4,5,6,7,8,9,10,11]) ?_
 clear C
 rintro ⟨i,BE⟩ J10 g
 try dsimp only
 have BG:=sI (rs.take i)
 rw [List.length_take] at BG
 refine al fun _ AH=>WS fun _ AI=>rP 3 [] I ?_
 refine RK AI<|cM U (aS fun A0=>?_) (aR fun A0=>?_)
 ·refine WK AH<|al fun _ h=>aw<|WS fun _ AJ=>rP 2 [] I ?_
  obtain ⟨x,hx⟩:=aO rs i om
  have BJ:=bP iC hx
  refine rS (IA i U (show jc _ (rd rA rs.length 1 (rs.map iC)).holds from (po (c:=rC) (e:=3) 3 U sm sm)) cy dc om om)<|rS (gF i 0 (vI x) U cq (show jc _ (rd rA rs.length 1 (rs.map iC)).holds from (po (c:=rC) (e:=3) 3 U sm sm)) BJ U dc U)<|rP 1 [] I ?_
  refine RK AJ<|bR U (aR fun AB=>?_) (aS fun AB=>?_)
  ·refine bY<|aD<|KK h<|an<|rP 3 [] I ?_
   refine aH ?_
   have AZ:(vI ((cY (rs.take (i+1))).right))=(vI ((cY (rs.take i)).right)):=by exact cI (by rw [s_ hx]; (rw [if_neg AB]; exact Int.add_zero _))
   have Aa:(vI (((i+1):Nat):Int))=(vI ((i:Int)+1)):=by exact cI om
   refine aT (g ⟨(i+1),(by first|omega|(simp only []; omega))⟩ _ _ _ U os (cN 7<|bk U AZ<|bk U Aa<|dx.nil _) (aK [0,1,2,3,4,5,6,7,8,9,10,11]))
  refine an<|bg 3 U<|aH<|aD<|KK h<|an<|rP 3 [] I ?_
  refine aH ?_
  have AX:(vI ((cY (rs.take (i+1))).right))=(vI (((cY (rs.take i)).right)+1)):=by exact cI (by rw [s_ hx]; (rw [if_pos AB]; done))
  have AY:(vI (((i+1):Nat):Int))=(vI ((i:Int)+1)):=by exact cI om
  refine aT (g ⟨(i+1),(by first|omega|(simp only []; omega))⟩ _ _ _ U os (cN 7<|bk U AX<|bk U AY<|dx.nil _) (aK [0,1,2,3,4,5,6,7,8,9,10,11]))
 refine bB<|ae<|ae<|ax<|KK A9<|al fun _ AK=>al fun _ AL=>?_
 rw [show rs.take i=rs from List.take_of_length_le om]
 refine an<|rP 6 [] (mc 2 U I) ?_
 refine RK AL<|cM U (aS fun A2=>?_) (aR fun A2=>?_)
 ·refine WS fun _ AM=>dU 236 3<|rP 1 [] I ?_
  refine RK AM<|ar<|Am (C1:=[(own none 0 236 3 [])]) hz [0] U U U<|Qz (W:=g9 l r k rs fs) ?_
  rw [show (own none 0 236 3 [])=(own none 0 236 3 (List.zipWith de.cells (g9 l r k rs fs) [])) from by rw [mZ om]; rfl]
  refine LM hQ (none,0,[]) 0 [] I U (by show List.all _ _=true; rw [List.all_append,pb]; rfl) U ?_ ?_
  ·exact (by rw [mZ om]; rfl)
  ·rw [mZ om]; rfl
 refine WK AK ?_
 refine mN (ι:={z:(OA)×Nat×(List ku)×(List av) // (x3 l r rs fs (rA,rC) (fA,fC) z.2.2.1 z.2.2.2)}) [3,4,5,6,7,12] [0,1,2,3,4,5,6,7,8,9,10,11] U U (fun z=>[(11,(vS z.1.1 ((gP l r rs fs).length) z.1.2.1))]) (fun z=>[(own z.1.1 z.1.2.1 236 3 (List.zipWith de.cells (gP l r rs fs) z.1.2.2.1)),(bo z.1.2.2.2)]) (fun _=>rfl) (fun _=>rfl) ?_ fun K23 m=>?_
 ·rintro ⟨⟨oA,oC,E,LA⟩,H⟩
  try dsimp only at H
  try dsimp only
  have D:=H
  have BD:=D.len
  have Be:=wa (l:=l) (r:=r) (rs:=rs) (fs:=fs)
  refine al fun _ V=>WS fun _ AN=>rP 4 [] (mc 2 U I) ?_
  have Bo:=tU (l:=l) (r:=r) (rs:=rs) (fs:=fs) AD (k:=k) om
  refine rP 1 [] I ?_
  refine RK AN<|cM U (aS fun A3=>?_) (aR fun A3=>?_)
  ·refine WS fun _ AO=>bg 1 U<|rP 1 [] I ?_
   refine RK AO<|ar ?_
   obtain rfl:k=0:=by omega
   refine D8 ?_
   try dsimp only
   refine Am (C1:=[(own oA oC 236 3 (List.zipWith de.cells (gP l r rs fs) E)),(bo LA),(bo (aU de.owns [] []))]) hz [13,14,0] U U (by simp only [fI,List.all_nil,Bool.and_true,cR]; exact ⟨U,D.wr,pb _ _⟩) ?_
   refine Jo (ra:=(rA,rC)) (fa:=(fA,fC)) (A':=(own oA oC 236 3 (List.zipWith de.cells (g9 l r 0 rs fs) E))) D ((List.append_nil _).trans (nt om).symm) (List.append_nil _) (by rw [nt om]) ?_
   refine LM hQ (oA,oC,E) 0 [] I U (by show List.all _ _=true; rw [List.all_append,pb]; rfl) U ?_ ?_
   ·exact (by (rw [nt om]; rfl))
   ·rw [nt om]; exact BD
  refine WK V<|WS fun _ AP=>?_
  obtain ⟨B,rfl⟩: ∃ B,k=B+1:=⟨k-1,om⟩
  refine rP 3 [] (mc 1 U I) ?_
  refine RK AP ?_
  refine mN (ι:=Unit) [3,4,5,6,7,11,12] [0,1,2,3,4,5,6,7,8,9,10,11,12,13] U U (fun z=>[(15,(vI (fZ r.Start fs)))]) (fun z=>[]) (fun _=>rfl) (fun _=>rfl) ?_ fun K28 o=>?_
  ·intro _
   try dsimp only
   refine WS fun _ Z=>rP 4 [] (mc 0 U I) ?_
   obtain ⟨yls,Ao⟩:=aO (cL l l.ag.length) (rs.length) om
   have Ap:=bP iC Ao
   refine rS (IA rs.length U (aG 9 U) cy dc om om)<|rS (gF rs.length 0 (vI yls) U cq (aG 9 U) Ap U dc U) ?_
   have Bg:=mS BI Ak (i:=rs.length) om
   rw [uC Ao]
   refine bg 2 U<|RK Z<|al fun _ AQ=>WS fun _ AR=>rP 1 [] I ?_
   refine RK AR<|aw ?_
   rw [show (gP l r rs fs)=((gP l r rs fs)++(ij l r B rs fs 0)) from (List.append_nil _).symm]
   rw [show E=E++[] from (List.append_nil _).symm]
   refine ox ?_
   try dsimp only
   have C:(0≤r.aj.length+1)∧(([]:List ku).length=(ij l r B rs fs 0).length):=by exact ⟨Nat.zero_le _,rfl⟩
   have d:(vI ((0:Int)-1))=(vI (-1)):=by exact cI om
   refine bO (ι:={z:Nat×(OA)×Nat×(List ku) // (z.1≤r.aj.length+1)∧(z.2.2.2.length=(ij l r B rs fs z.1).length)}) [3,4,5,6,7,12,15] [1,2,3,4,5,6,7,8,9,10,11,12,14] U U (fun z=>[(11,(vS z.1.2.1 (((gP l r rs fs)++(ij l r B rs fs z.1.1)).length) z.1.2.2.1)),(16,(vI ((z.1.1:Int)-1)))]) (fun z=>[(bo (aU de.owns (ij l r B rs fs z.1.1) z.1.2.2.2)),(own z.1.2.1 z.1.2.2.1 236 3 (List.zipWith de.cells ((gP l r rs fs)++(ij l r B rs fs z.1.1)) (E++z.1.2.2.2)))]) (fun _=>rfl) (fun _=>rfl) (fun z=>r.aj.length+1-z.1.1) ⟨(0,oA,oC,([]:List ku)),C⟩ (dx.cons U<|bk U d<|dx.nil _) (aK [1,2,3,4,5,6,7,8,9,10,11,12,14,0,13]) ?_
   clear C
   rintro ⟨⟨j,M,N,azW⟩,⟨f,A⟩⟩ J33 O
   try dsimp only at f A
   try dsimp only
   have BH:=K9 (l:=l) (r:=r) (k:=B) (j:=j) (rs:=rs) (fs:=fs) AD om om
   refine al fun _ AS=>WS fun _ AT=>rP 5 [] (mc 1 U I) ?_
   refine RK AT<|bR U (aR fun A1=>?_) (aS fun A1=>?_)
   ·refine bB<|ae<|ae<|ax<|KK AQ<|WS fun _ AW=>bg 1 U<|rP 1 [] I ?_
    refine RK AW<|ar ?_
    refine Am (C1:=[(own M N 236 3 (List.zipWith de.cells ((gP l r rs fs)++(ij l r B rs fs j)) (E++azW))),(bo LA),(bo (aU de.owns (ij l r B rs fs j) azW))]) hz [14,12,13] U U (by simp only [fI,List.all_nil,Bool.and_true,cR]; exact ⟨U,D.wr,pb _ _⟩) ?_
    refine Jo (ra:=(rA,rC)) (fa:=(fA,fC)) (W:=g9 l r (B+1) rs fs) (A':=(own M N 236 3 (List.zipWith de.cells (g9 l r (B+1) rs fs) (E++azW)))) D (by rw [nk om,qX,show r.aj.length+1=j by omega]) U (by rw [nk om,qX,show r.aj.length+1=j by omega]) ?_
    refine LM hQ (M,N,(E++azW)) 0 [] I U (by show List.all _ _=true; rw [List.all_append,pb]; rfl) U ?_ ?_
    ·exact (by (rw [nk om,qX,show r.aj.length+1=j by omega]; rfl))
    ·rw [nk om,qX,show r.aj.length+1=j by omega]; simp only [List.length_append]; omega
   refine WK AS<|al fun _ P=>aw<|al fun _ AU=>dF cD 5 kr<|dP 5 [] (mc 1 U I) ?_
   refine cO<|RK AU ?_
   refine mN (ι:={z:Int×Int // ((z.1≤z.2→oP l r rs.length (fZ r.Start fs+eh l rs.length) ((j:Int)-1)=some z.1)∧(¬ z.1≤z.2→oP l r rs.length (fZ r.Start fs+eh l rs.length) ((j:Int)-1)=none))∧(r.Start≤z.1∧z.2≤r.gh)}) [3,4,5,6,7,11,12,15,16] [0,1,2,3,4,5,6,7,8,9,10,11,12,13,14] U U (fun z=>[(17,(vI z.1.1)),(18,(vI z.1.2))]) (fun z=>[]) (fun _=>rfl) (fun _=>rfl) ?_ fun K39 p=>?_
   ·rintro ⟨⟨tt,ee⟩,⟨BO,J⟩⟩
    try dsimp only at BO J
    try dsimp only
    have Aj:=BO
    have Bf:=J
    refine WS fun _ a=>rP 3 [] I ?_
    refine RK a<|bR U (aR fun BN=>?_) (aS fun BN=>?_)
    ·refine bY<|aD<|KK P<|an<|rP 3 [] I ?_
     refine aH ?_
     have L:(ij l r B rs fs (j+1))=(ij l r B rs fs j):=by exact qx (Aj.2 BN)
     rw [← L]
     have Ah:(vI ((((j+1):Nat):Int)-1))=(vI (((j:Int)-1)+1)):=by exact cI om
     refine aT (O ⟨((j+1),M,N,azW),⟨om,by dsimp only; (rw [L]; exact A)⟩⟩ _ _ _ U os (cN 8<|bk U Ah<|dx.nil _) (aK [0,1,2,3,4,5,6,7,8,9,10,11,12,13,14]))
    refine SV (L':=[(3,(vS rA rs.length rC)),(4,(vS fA fs.length fC)),(5,(vP b2)),(6,(vP b3)),(7,(vP b4)),(11,(vS M (((gP l r rs fs)++(ij l r B rs fs j)).length) N)),(12,(vI (rs.length:Int))),(15,(vI ((fZ r.Start fs)+(eh l rs.length)))),(16,(vI ((j:Int)-1))),(17,(vI tt)),(18,(vI ee)),(123,(vI tt)),(124,(vI ee)),(125,(vB (decide (tt≤ee))))]) rfl<|o8 cD [0,1,2,3,5,7,11,13] [4,6,8,9,10,12,14,15,16,17,18] [false,false,false,false,false,false,false,false] [] [(bZ b4 233 (im.cells (im.mk (aM.mk vwA ((cL l l.ag.length).length) vwC) (aM.mk vtA ((eT l r r.aj.length).length) vtC) (aM.mk vbA ((fj l r r.aj.length).length) vbC)))),(bZ b3 44 (eK.cells (mB r sgA sgC))),(bZ b2 28 (bK.cells (lp l kA kC cA cC bA bC))),(bo [own rA rC 3 1 (rs.map iC),own fA fC 3 1 (fs.map iC)]).ro,(rd kA l.aJ.length 9 (l.aJ.map ao.cells)).ro,(rd cA l.ai.length 2 (List.zipWith au.cells l.ai az)).ro,(e7 (aU au.gY l.ai az)).ro,(rd bA l.ag.length 4 (l.ag.map bE.cells)).ro,(rd sgA r.aj.length 2 (r.aj.map aN.cells)).ro,(rd vwA ((cL l l.ag.length).length) 1 ((cL l l.ag.length).map iC)).ro,(rd vtA ((eT l r r.aj.length).length) 2 ((eT l r r.aj.length).map aa.cells)).ro,(rd vbA ((fj l r r.aj.length).length) 1 ((fj l r r.aj.length).map pQ)).ro,(bo LA),(bo (aU de.owns (ij l r B rs fs j) azW))] [] kr (aK [0,1,2,3,4,5,6,7,8,9,10,11,12,13]) (aK [])<|eS rfl (MV rfl)<|eS rfl (LW 2 rfl cq rfl rfl)<|eS rfl (LW 1 rfl cq rfl rfl)<|eS rfl (LW 0 rfl cq rfl rfl)<|eS rfl (MV rfl)<|eS rfl (MV rfl)<|eS rfl (MV rfl)<|eS rfl (MV rfl)<|e8 rfl<|Oc [.take 4,.op 6,.take 8,.op 9,.take 10,.op 12,.take 14,.op 15,.op 16,.op 17,.op 18] [(133,(vI ((j:Int)-1))),(139,(vI tt))] (fun i=>match i with |4=>130|8=>134|10=>136|14=>140|_=>0) (fun i b=>match i with |4=> .slice (some ⟨b,0,none⟩) 0 0|8=> .slice (some ⟨b,0,none⟩) 1 1|10=> .slice (some ⟨b,0,none⟩) 0 0|14=> .slice (some ⟨b,0,none⟩) 1 1|_=>undef) (fun i b=>match i with |4=>bZ b 3 []|8=>bZ b 3 [(vI ((j:Int)-1))]|10=>bZ b 3 []|14=>bZ b 3 [(vI tt)]|_=>bZ b 0 []) rfl rfl rfl kr rfl rfl (aK [0,1,2,3,4,5,6,7,8,9,10,11,12,13]) (vQ (IP rfl cy rfl rfl (fun _=>rfl) fun _=>rfl)<|wg<|vQ (OC (xs:=[.tmp 133]) (cs:=[(vI ((j:Int)-1))]) rfl cy jd rfl rfl rfl rfl (by simp [Value.cells]) rfl rfl rfl (fun _=>rfl) fun _=>rfl)<|wg<|vQ (IP rfl cy rfl rfl (fun _=>rfl) fun _=>rfl)<|wg<|vQ (OC (xs:=[.tmp 139]) (cs:=[(vI tt)]) rfl cy jd rfl rfl rfl rfl (by simp [Value.cells]) rfl rfl rfl (fun _=>rfl) fun _=>rfl)<|wg<|wg<|wg<|wg<|PR) ?_
    intro Av
    try dsimp only
    refine x8 U fun Y X K hT=>dT (es:=(List.map iC [])) (C':=[own (some ⟨Av,0,none⟩) 0 3 1 (List.map iC []),_,_,_,_,_,_,_,_,_,_,_,_,_,_,_]++X) 0 U sm U (by simp [maxLen]) U ?_
    refine c_ (es2:=(List.map iC rs)) (m':=rs.length) 0 U U U pE U U sm (show jc _ (rd rA rs.length 1 (rs.map iC)).holds from (po (c:=rC) (e:=3) 4 U sm sm)) (jT _) (by first|omega|(simp; done)|(simp; omega)) (by (simp only [maxLen]; omega)) sm sm U fun BU BZ=>?_
    try dsimp only
    refine rX hT 24 16 U U (fun w hs=>St.kj [1,2,3,4,5,6,7,8,9,10,11,12,13,14] U U hs) U U ?_
    try dsimp only [List.take]
    intro BX
    try dsimp only
    refine x8 U fun Y X K hT=>?_
    refine c_ (es2:=(List.map iC (rs++[(j:Int)-1]))) (m':=(rs++[(j:Int)-1]).length) 1 U U U pE U U sm (aY (es:=List.map iC [((j:Int)-1)]) 0 U U (by simp [bJ]) U) (jT _) (by first|omega|(simp; done)|(simp; omega)) (by (simp only [maxLen]; omega)) sm sm U fun As Ax=>?_
    try dsimp only
    refine rX hT 26 17 U U (fun w hs=>St.kj [2,3,4,5,6,7,8,9,10,11,12,13,14,15] U U hs) U U ?_
    try dsimp only [List.take]
    intro Aw
    try dsimp only
    refine x8 U fun Y X K hT=>dT (es:=(List.map iC [])) (C':=[own (some ⟨Aw,0,none⟩) 0 3 1 (List.map iC []),_,_,_,_,_,_,_,_,_,_,_,_,_,_,_,_,_]++X) 0 U sm U (by simp [maxLen]) U ?_
    refine c_ (es2:=(List.map iC fs)) (m':=fs.length) 0 U U U pE U U sm (show jc _ (rd fA fs.length 1 (fs.map iC)).holds from (po (c:=fC) (e:=3) 6 U sm sm)) (jT _) (by first|omega|(simp; done)|(simp; omega)) (by (simp only [maxLen]; omega)) sm sm U fun BV Ba=>?_
    try dsimp only
    refine rX hT 28 18 U U (fun w hs=>St.kj [3,4,5,6,7,8,9,10,11,12,13,14,15,16] U U hs) U U ?_
    try dsimp only [List.take]
    intro BY
    try dsimp only
    refine x8 U fun Y X K hT=>?_
    refine c_ (es2:=(List.map iC (fs++[tt]))) (m':=(fs++[tt]).length) 1 U U U pE U U sm (aY (es:=List.map iC [tt]) 0 U U (by simp [bJ]) U) (jT _) (by first|omega|(simp; done)|(simp; omega)) (by (simp only [maxLen]; omega)) sm sm U fun At Ay=>?_
    try dsimp only
    refine rX hT 30 19 U U (fun w hs=>St.kj [4,5,6,7,8,9,10,11,12,13,14,15,16,17] U U hs) U U ?_
    try dsimp only [List.take]
    refine x8 U fun Y X K hT=>?_
    have R:=Aj.1 BN
    refine xY<|qM 4 U ?_
    try dsimp only [List.eraseIdx]
    refine zG U<|qM 2 U ?_
    try dsimp only [List.eraseIdx]
    refine zG U ?_
    try dsimp only
    refine iQ 0 rfl rfl rfl rfl (hrec B (rs++[(j:Int)-1]) As Ax (fs++[tt]) At Ay om (by simp only [List.length_append,List.length_singleton]; omega) (by simp only [List.length_append,List.length_singleton]; omega) (by rw [mT]; omega) (by intro x hx; rcases List.mem_append.1 hx with hx|hx; exact hrs x hx; rw [List.mem_singleton.1 hx]; omega)) rfl (eg 7 rfl rfl (dI (bU _)) (eg 8 rfl rfl (dI (bU _)) (eg 9 rfl rfl (dI (bU _)) (eg 10 rfl rfl (dI (bU _)) (eg 11 rfl rfl (dI (bU _)) (eg 12 rfl rfl (dI (bU _)) (eg 13 rfl rfl (dI (bU _)) (eg 14 rfl rfl (dI (bU _)) ki)))))))) rfl (fun BM AE=>?_)
    obtain ⟨BS,BT,v⟩:=BM
    try dsimp only
    dsimp only at AE
    refine rX hT 31 18 U U (fun w hs=>St.kj [3,4,5,6,7,8,9,10,11,12,13,14,15,16] U U hs) U U ?_
    try dsimp only [List.take]
    refine x8 U fun Y X K hT=>qM 0 U ?_
    try dsimp only [List.eraseIdx]
    refine yJ ?_
    have Bp:=tU (l:=l) (r:=r) (k:=B) (rs:=(rs++[(j:Int)-1])) (fs:=(fs++[tt])) AD om
    refine c_ (es2:=(List.zipWith de.cells ((gP l r rs fs)++(ij l r B rs fs (j+1))) (E++(azW++v)))) (m':=((gP l r rs fs)++(ij l r B rs fs (j+1))).length) 18 U U U OD U U (tL (by simp only [List.length_append]; omega)).symm (ak (n:=(g9 l r B (rs++[(j:Int)-1]) (fs++[tt])).length) 0 U (tL AE)) (Cf _ _) (by simp only [List.length_append]; omega) (by simp only [List.length_append,maxLen]; omega) (by rw [mW R,← List.append_assoc,← List.append_assoc]; exact (Kx (by simp only [List.length_append]; omega)).symm) (tL (by rw [mW R]; simp only [List.length_append]; omega)) U fun Au Az=>?_
    try dsimp only
    refine rX hT 32 19 U U (fun w hs=>St.kj [4,5,6,7,8,9,10,11,12,13,14,15,16,17] U U hs) U U ?_
    try dsimp only [List.take]
    refine x8 U fun Y X K hT=>rS (AG U)<|rX hT 33 19 U U (fun w hs=>St.kj [4,5,6,7,8,9,10,11,12,13,14,15,16,17] U U hs) U U ?_
    try dsimp only [List.take]
    refine aD<|KK P<|an<|rP 3 [] I ?_
    refine aH<|Fa 1 U ?_
    try dsimp only [List.eraseIdx]
    refine Fa 17 U ?_
    try dsimp only [List.eraseIdx]
    refine Ke A ?_
    rw [← mW R]
    try dsimp only
    have Ag:(vI ((((j+1):Nat):Int)-1))=(vI (((j:Int)-1)+1)):=by exact cI om
    refine aT (O ⟨((j+1),Au,Az,(azW++v)),⟨om,by dsimp only; (rw [mW R,List.length_append,List.length_append,A,AE])⟩⟩ _ _ _ U os (cN 8<|bk U Ag<|dx.nil _) (aK [4,5,6,7,8,9,10,11,12,13,14,15,16,0,17]))
   refine WS fun _ a=>rP 2 [] I ?_
   refine RK a<|bR U (aR fun A5=>?_) (aS fun A5=>?_)
   ·refine bY ?_
    refine aT (jg (aQ U) (aK [0,1,2,3,4,5,6,7,8,9,10,11,12,13,14]) (p ⟨(((fZ r.Start fs)+(eh l rs.length)),r.gh),⟨by exact K1 om,om⟩⟩))
   refine al fun _ AV=>WS fun _ u=>rP 3 [] (mc 1 U I) ?_
   obtain ⟨s,hs⟩:=aO r.aj ((((j:Int)-1)).toNat) om
   have BF:=bP aN.cells hs
   refine rS (IA ((((j:Int)-1)).toNat) U (aG 8 U) zQ dc om om)<|rS (nK (((((j:Int)-1)).toNat)*2) U (aG 8 U) (Nat.mul_pos om dc) fD U)<|rS (gF ((((j:Int)-1)).toNat) 0 (vI s.gj) U cq (aG 8 U) BF U dc U) ?_
   have Bj:=(hr.sig _ s hs).1
   refine rP 3 [] I ?_
   refine db (t:=99) U (bx fun AF=>?_) (bw fun AF=>?_)
   ·refine bg 7 U<|RK u<|aP U<|bB<|ae<|ae<|ax<|KK P<|an<|rP 3 [] I ?_
    refine aH ?_
    have L:(ij l r B rs fs (j+1))=(ij l r B rs fs j):=by exact qx (wc om hs (fun q=>AF om))
    rw [← L]
    have Ae:(vI ((((j+1):Nat):Int)-1))=(vI (((j:Int)-1)+1)):=by exact cI om
    refine aT (O ⟨((j+1),M,N,azW),⟨om,by dsimp only; (rw [L]; exact A)⟩⟩ _ _ _ U os (cN 8<|bk U Ae<|dx.nil _) (aK [0,1,2,3,4,5,6,7,8,9,10,11,12,13,14]))
   refine rP 3 [] (mc 0 U I) ?_
   obtain ⟨bs,AC⟩:=aO (fj l r r.aj.length) ((((j:Int)-1)).toNat) om
   have Ai:=bP pQ AC
   refine rS (IA ((((j:Int)-1)).toNat) U (aG 11 U) O7 dc om om)<|rS (gF ((((j:Int)-1)).toNat) 0 (vB bs) U cq (aG 11 U) Ai U dc U)<|rP 2 [] I ?_
   refine RK u<|cM U (fun F=>?_) (fun F=>?_)
   ·rw [Bool.not_eq_true'] at F
    refine bB<|ae<|ae<|ax<|KK P<|an<|rP 3 [] I ?_
    refine aH ?_
    have L:(ij l r B rs fs (j+1))=(ij l r B rs fs j):=by exact qx (wc om hs (fun q=>by rw [(CT hs AC).2 q.2] at F; cases F))
    rw [← L]
    have Af:(vI ((((j+1):Nat):Int)-1))=(vI (((j:Int)-1)+1)):=by exact cI om
    refine aT (O ⟨((j+1),M,N,azW),⟨om,by dsimp only; (rw [L]; exact A)⟩⟩ _ _ _ U os (cN 8<|bk U Af<|dx.nil _) (aK [0,1,2,3,4,5,6,7,8,9,10,11,12,13,14]))
   rw [Bool.not_eq_false'] at F
   refine WK AV<|dF cD 18 kr<|dP 4 [] (mc 0 U I) ?_
   obtain ⟨z,hz⟩:=aO (eT l r r.aj.length) ((((j:Int)-1)).toNat) om
   have Aq:=bP aa.cells hz
   refine dS (IA ((((j:Int)-1)).toNat) U (aG 10 U) jK dc om om)<|dS (nK (((((j:Int)-1)).toNat)*2) U (aG 10 U) (Nat.mul_pos om dc) fD U) ?_
   have Ar:=Lb hs hz
   have BK:=x_ l s
   rw [← Ar] at BK
   have BB:(cH l s).Lo≤(cH l s).Hi:=(CT hs AC).1 F
   refine dS (gF ((((j:Int)-1)).toNat) 0 (vI z.Lo) U cq (aG 10 U) Aq U dc U)<|dS (MX U)<|mI 4 [] (mc 0 U I) U<|dS (IA ((((j:Int)-1)).toNat) U (aG 10 U) jK dc om om)<|dS (nK ((((((j:Int)-1)).toNat)*2)+1) U (aG 10 U) (Nat.mul_pos om dc) fD U)<|dS (gF ((((j:Int)-1)).toNat) 1 (vI z.Hi) U cq (aG 10 U) Aq U dc U)<|dS (MN U)<|dP 2 [] I ?_
   refine cO<|aH ?_
   refine aT (jg (aQ U) (aK [0,1,2,3,4,5,6,7,8,9,10,11,12,13,14]) (p ⟨((max ((fZ r.Start fs)+(eh l rs.length)) z.Lo),(min r.gh z.Hi)),⟨by (rw [Ar]; exact JB om hs om BB),om⟩⟩))
  refine WS fun _ Z=>rP 2 [] I ?_
  refine RK Z<|bR U (aR fun A4=>?_) (aS fun A4=>?_)
  ·refine bY ?_
   have Ac:(vI (fZ r.Start fs))=(vI r.Start):=by exact cI (by have e:fs=[]:=jB om; rw [e]; rfl)
   refine aT (jg (cN 7<|bk U Ac<|dx.nil _) (aK [0,1,2,3,4,5,6,7,8,9,10,11,12,13]) (o ()))
  refine an<|rP 3 [] I ?_
  obtain ⟨xf,Al⟩:=aO fs (rs.length-1) om
  have An:=bP iC Al
  refine rS (IA (rs.length-1) U (show jc _ (rd fA fs.length 1 (fs.map iC)).holds from (po (c:=fC) (e:=3) 3 U sm sm)) cy dc om om)<|rS (gF (rs.length-1) 0 (vI xf) U cq (show jc _ (rd fA fs.length 1 (fs.map iC)).holds from (po (c:=fC) (e:=3) 3 U sm sm)) An U dc U)<|rP 1 [] I ?_
  refine aH ?_
  have Ab:(vI (fZ r.Start fs))=(vI xf):=by exact cI (CX _ _ _ (by rw [hfl]; exact Al))
  refine aT (jg (cN 7<|bk U Ab<|dx.nil _) (aK [0,1,2,3,4,5,6,7,8,9,10,11,12,13]) (o ()))
 refine WS fun _ V=>rP 8 [0,1] (mc 1 U (mc 2 U I)) ?_
 refine RK V<|bR U (aR fun G=>?_) (aS fun G=>?_)
 ·refine bY<|D8<|G9 236 3 ?_
  rw [show (own none 0 236 3 [])=(own none 0 236 3 (List.zipWith de.cells (gP l r rs fs) [])) from by rw [x4 G]; rfl]
  have Ad:(vS none ((gP l r rs fs).length) 0)=(vS none 0 0):=by first|rfl|(rw [x4 G]; rfl)
  refine aT (jg (cN 6<|bk U Ad<|dx.nil _) (aK [2,3,4,5,6,7,8,9,10,11,12,13,0,1]) (m ⟨(none,0,[],[]),(by exact .inr ⟨G,U,U⟩)⟩))
 refine an<|rP 6 [0,1] (mc 1 U (mc 0 U I)) ?_
 refine cX (Jq r sgA sgC l vwA vwC vtA vtC vbA vbC rs rA rC hle hr om (by exact fun x hx h0=>(hrs x hx).2)) (lR [8,9,10,11]<|ay (show jc _ (rd rA rs.length 1 (rs.map iC)).holds from (po (c:=rC) (e:=3) 3 U sm sm))<|aL) U fun BL BR=>?_
 obtain ⟨S,T⟩:=BL
 try dsimp only
 refine rS (SX (bj (xs:=[(0,.tmp 48),(1,.tmp 49),(2,.tmp 53)]) (cs:=(wS.cells (wS.mk (aM.mk rA rs.length rC) (aM.mk fA fs.length fC) (aM.mk S ((jn l r rs).length) T)))) U U (bh So U)) U U)<|cU (xs:=[.tmp 54]) (cs:=(wS.cells (wS.mk (aM.mk rA rs.length rC) (aM.mk fA fs.length fC) (aM.mk S ((jn l r rs).length) T)))) U Fc Rt U U U U (by simp [Value.cells,wS.aW]) U U fun BW=>dU 236 3 ?_
 refine c_ (es2:=(List.zipWith de.cells (gP l r rs fs) ([((rA,rC),(fA,fC),(S,T))]))) (m':=(gP l r rs fs).length) 0 rfl rfl rfl OD rfl rfl rfl (aY (es:=List.zipWith de.cells [(de.mk rs fs (jn l r rs))] [((rA,rC),(fA,fC),(S,T))]) 1 rfl rfl (by intro e he; simp at he; subst he; rfl) rfl) (Cf _ _) dc dc (by rw [yG G]; rfl) (by rw [yG G]; rfl) rfl fun y AA=>?_
 try dsimp only
 refine xY<|Ou 0 3 U U U ?_
 try dsimp only
 refine rP 1 [] I ?_
 refine aH ?_
 have d:(vS y ((gP l r rs fs).length) AA)=(vS y ((gP l r rs fs).length) AA):=by first|rfl|(rw [x4 G]; rfl)
 refine aT (jg (cN 6<|bk U d<|dx.nil _) (aK [3,4,5,6,7,8,9,10,11,12,13,14,1,0]) (m ⟨(y,AA,[((rA,rC),(fA,fC),(S,T))],[(own S T 3 1 ((jn l r rs).map iC))]),(by exact .inl ⟨G,_,U,U⟩)⟩))
theorem Qn (l:bf) (kA:OA) (kC:Nat) (az:List RA) (cA:OA) (cC:Nat) (bA:OA) (bC:Nat) (r:cE) (sgA:OA) (sgC:Nat) (vwA:OA) (vwC:Nat) (vtA:OA) (vtC:Nat) (vbA:OA) (vbC k:Nat) (rs:List Int) (rA:OA) (rC:Nat) (fs:List Int) (fA:OA) (fC:Nat) (hin:eE l az) (hle:dw l=0) (hr:fh l r) (hk:rs.length+k=l.ag.length) (hfl:fs.length=rs.length) (hst:r.Start≤fZ r.Start fs∧fZ r.Start fs≤r.gh) (hrs: ∀ x∈rs,-1≤x∧x<(r.aj.length:Int)):
 De Tryz.prog 164 [(vA (bK.cells (lp l kA kC cA cC bA bC))),(vA (eK.cells (mB r sgA sgC))),(vA (im.cells (im.mk (aM.mk vwA ((cL l l.ag.length).length) vwC) (aM.mk vtA ((eT l r r.aj.length).length) vtC) (aM.mk vbA ((fj l r r.aj.length).length) vbC)))),(vS rA rs.length rC),(vS fA fs.length fC)] [(rd kA l.aJ.length 9 (l.aJ.map ao.cells)),(rd cA l.ai.length 2 (List.zipWith au.cells l.ai az)),(e7 (aU au.gY l.ai az)),(rd bA l.ag.length 4 (l.ag.map bE.cells)),(rd sgA r.aj.length 2 (r.aj.map aN.cells)),(rd vwA ((cL l l.ag.length).length) 1 ((cL l l.ag.length).map iC)),(rd vtA ((eT l r r.aj.length).length) 2 ((eT l r r.aj.length).map aa.cells)),(rd vbA ((fj l r r.aj.length).length) 1 ((fj l r r.aj.length).map pQ))] (bo [own rA rC 3 1 (rs.map iC),own fA fC 3 1 (fs.map iC)]) (fun (x:(OA)×Nat×(List ku))=>(vS x.1 ((g9 l r k rs fs).length) x.2.1)) (fun (x:(OA)×Nat×(List ku))=>x.2.2.length=(g9 l r k rs fs).length) (fun (x:(OA)×Nat×(List ku))=>(bo (aU de.owns (g9 l r k rs fs) x.2.2++[own x.1 x.2.1 236 3 (List.zipWith de.cells (g9 l r k rs fs) x.2.2)]))):=by
 induction k using Nat.strongRecOn generalizing rs rA rC fs fA fC with
 |ind k ih=>exact Gp l kA kC az cA cC bA bC r sgA sgC vwA vwC vtA vtC vbA vbC k rs rA rC fs fA fC hin hle hr hk hfl hst hrs (fun L F D E C A B G H AA J K=>ih L G F D E C A B H AA J K)
end
section
open Go.RowKit
theorem Mu (l:bf) (kA:OA) (kC:Nat) (az:List RA) (cA:OA) (cC:Nat) (bA:OA) (bC:Nat) (r:cE) (sgA:OA) (sgC:Nat) (hin:eE l az) (hsl:r.aj.length≤1000000):
 lv Tryz.prog 154 [(vA (bK.cells (lp l kA kC cA cC bA bC))),(vA (eK.cells (mB r sgA sgC)))] [(rd kA l.aJ.length 9 (l.aJ.map ao.cells)),(rd cA l.ai.length 2 (List.zipWith au.cells l.ai az)),(e7 (aU au.gY l.ai az)),(rd bA l.ag.length 4 (l.ag.map bE.cells)),(rd sgA r.aj.length 2 (r.aj.map aN.cells))] (fun (x:Bool×Int×(OA)×Nat×(List ku))=>bif x.1 then (vT [(vS x.2.2.1 ((pU l r).length) x.2.2.2.1),(vI 0)]) else (vT [(vS none 0 0),(vI x.2.1)])) (fun (x:Bool×Int×(OA)×Nat×(List ku))=>(x.1=true→(eH l r 0=0∧x.2.2.2.2.length=(pU l r).length))∧(x.1=false→(x.2.1=eH l r 0∧ ¬ eH l r 0=0))) (fun (x:Bool×Int×(OA)×Nat×(List ku))=>bif x.1 then [(own x.2.2.1 x.2.2.2.1 236 3 (List.zipWith de.cells (pU l r) x.2.2.2.2)),(bo (aU de.owns (pU l r) x.2.2.2.2))] else []):=by
 have k:=hin.sE
 have j:=hin.sD
 have h:=hin.og
 have i:=hin.sB
 refine dp kr Tryz.func154 U U fun o Q hQ hN=>?_
 try dsimp only
 refine WS fun _ X=>fV U fun m=>fV U fun n=>bg 2 U<|RK X<|al fun _ Y=>WS fun _ Z=>fE 1 [] (mc 1 U I) U<|rS (CL (Bm l kA kC az cA cC bA bC hin) (bp [2,3,4,5]) U)<|bg 1 U<|RK Z<|WS fun _ a=>rP 2 [] I ?_
 refine RK a<|cM U (bx fun A=>?_) (bw fun A=>?_)
 ·refine WS fun _ b=>rP 3 [] I ?_
  refine RK b<|ar<|LX hQ (false,(dw l),none,0,[]) [] [] I U (by rfl) U U ?_
  exact rf<|JV (nU (r:=r) (me:=0) A) A
 refine WK Y<|al fun _ c=>WS fun _ d=>fE 2 [0,1] (mc 1 U (mc 0 U I)) U<|rS (CL (NZ l kA kC az cA cC bA bC r sgA sgC hin (by exact hsl)) (bp [2,3,4,5,6]) U)<|rP 1 [] I ?_
 refine RK d<|cM U (bx fun B=>?_) (bw fun B=>?_)
 ·refine WS fun _ D=>rP 2 [] I ?_
  refine RK D<|ar<|LX hQ (false,51,none,0,[]) [] [] I U (by rfl) U U ?_
  exact rf<|pL (je (me:=0) A B)
 refine WK c<|al fun _ E=>dR cD [4,5,6] [] [] [0,1,2,3,4,5,6] [] U U U U U<|eS U (LW 1 U cq U U)<|eS U (LW 0 U cq U U)<|eS U (LW 1 U cq U U)<|eS U (LW 0 U cq U U)<|e8 U<|cp U fun T12 J=>cX (MP l kA kC az cA cC bA bC r sgA sgC hin (by exact A) (by exact B)) (bp [2,3,4,5,6]) U fun e g=>?_
 obtain ⟨V,W,T,AA,R,S⟩:=e
 try dsimp only
 refine aH (J _ _ (aK [3,4,5,6,7,8,9]) ?_)
 refine cp U fun T21 K=>dU 3 1<|dU 3 1<|xY<|qM 1 U ?_
 try dsimp only [List.eraseIdx]
 refine zG U<|qM 1 U ?_
 try dsimp only [List.eraseIdx]
 refine zG U ?_
 try dsimp only
 refine iQ 0 rfl rfl rfl rfl (Qn l kA kC az cA cC bA bC r sgA sgC V W T AA R S l.ag.length ([]:List Int) none 0 ([]:List Int) none 0 hin (by exact A) (by exact B) sm (by rfl) (by exact ⟨Int.le_refl _,B.time.2.1⟩) (by intro x hx; cases hx)) rfl (eg 6 rfl rfl (dI (bU _)) (eg 7 rfl rfl (dI (bU _)) (eg 8 rfl rfl (dI (bU _)) (eg 9 rfl rfl (dI (bU _)) (eg 10 rfl rfl (dI (bU _)) (eg 1 rfl rfl (j_ sm) (eg 2 rfl rfl (j_ sm) (eg 3 rfl rfl (j_ sm) ki)))))))) rfl (fun f M=>?_)
 obtain ⟨N,O,P⟩:=f
 try dsimp only
 refine aH (K _ _ (aK [4,5,6,7,8,9,10]) ?_)
 refine cp U fun T26 L=>qM 0 U ?_
 try dsimp only [List.eraseIdx]
 refine yJ ?_
 dsimp only at M
 refine rS (AG U)<|aH (L _ _ (aK [5,6,7,8,9,10,11]) ?_)
 refine fM U<|KK E<|al fun _ F=>WS fun _ G=>rP 3 [] I ?_
 refine RK G<|bR U (aR fun C=>?_) (aS fun C=>?_)
 ·refine WK F<|WS fun _ AB=>rP 3 [] I ?_
  refine RK AB<|ar ?_
  refine LX hQ (true,0,N,O,P) [0,1] [] I U (by (show List.all _ _=true; simp only [cond_true,fI,List.all_nil,Ir,Bool.and_true]; rfl)) U U ?_
  exact ⟨fun _=>⟨lO A B U fun q=>C (by rw [show g9 l r l.ag.length [] []=[] from (fK A B).2 q]; rfl),M⟩,N_⟩
 refine WS fun _ H=>rP 2 [] I ?_
 refine RK H<|ar<|LX hQ (false,8,none,0,[]) [] [] I U (by rfl) U U ?_
 exact rf<|pL (pj (me:=0) A B U ((fK A B).1 (jB (Int.natCast_eq_zero.1 C))))
theorem G3 (ws:List de) (wz:List ku) (wA:OA) (wC b:Nat) (hws:NY ws) (hwz:wz.length=ws.length) (hb:b≤6):
 ej Tryz.prog 155 [(vS wA ws.length wC),(vI (b:Int))] [(rd wA ws.length 3 (List.zipWith de.cells ws wz)),(e7 (aU de.gY ws wz))] (vT [(vA (aa.cells (pa ws b))),(vI (pC ws b))]):=by
 have u:=hws.num
 refine bI kr Tryz.func155 U U fun x Q hQ hN=>?_
 try dsimp only
 refine WS fun _ g=>AL U dg fun w=>bg 1 U<|RK g<|WS fun _ h=>AL U dg fun t=>RK h<|WS fun _ j=>bg 1 U<|RK j<|al fun _ k=>WS fun _ l=>rP 1 [] I ?_
 refine RK l<|aw ?_
 have D:(0≤ws.length)∧(nc b (ws.take 0) false (aa.mk 0 0)):=by exact ⟨Nat.zero_le _,HW⟩
 refine bO (ι:={z:Nat×Bool×aa // (z.1≤ws.length)∧(nc b (ws.take z.1) z.2.1 z.2.2)}) [0,1,4,5,6] [1,2,3] U U (fun z=>[(7,(vB z.1.2.1)),(8,(vI (z.1.1:Int)))]) (fun z=>[(bZ t 38 (aa.cells z.1.2.2))]) (fun _=>rfl) (fun _=>rfl) (fun z=>ws.length-z.1.1) ⟨(0,false,(aa.mk 0 0)),D⟩ (aQ U) (aK [1,2,3,0]) ?_
 clear D
 rintro ⟨⟨i,fd,o⟩,⟨J,A⟩⟩ J8 H
 try dsimp only at J A
 try dsimp only
 refine al fun _ m=>WS fun _ L=>rP 4 [] I ?_
 refine RK L<|bR U (aR fun c=>?_) (aS fun c=>?_)
 ·refine bB<|ae<|ae<|ax<|KK k<|al fun _ R=>WS fun _ S=>rP 2 [] I ?_
  refine RK S<|bR U (fun B=>?_) (fun B=>?_)
  ·rw [Bool.not_eq_false'] at B
   refine WK R<|WS fun _ AA=>fE 1 [] (mc 3 U I) U<|fR U cu U<|rP 1 [] I ?_
   refine RK AA<|ar<|lk hQ [0] (mc 0 U I) U ?_
   have AB:=zi (by have q:=A; rwa [List.take_of_length_le om] at q) hws.F5
   (have q:=AB.2 B; rw [q.1,q.2]; done)
  rw [Bool.not_eq_true'] at B
  refine WS fun _ T=>rS (SX (bj (xs:=[]) (cs:=(aa.cells (aa.mk 0 0))) U U (bh gl U)) U U)<|fR U cu U<|rP 1 [] I ?_
  refine RK T<|ar<|lk hQ [0] (mc 0 U I) U ?_
  have AB:=zi (by have q:=A; rwa [List.take_of_length_le om] at q) hws.F5
  (have q:=AB.1 B; rw [q.1,q.2]; done)
 refine WK m<|al fun _ C=>aw<|al fun _ M=>WS fun _ N=>rP 2 [] I ?_
 obtain ⟨y,hy⟩:=aO ws i om
 obtain ⟨ya,E⟩:=aO wz i om
 have K:(List.zipWith de.cells ws wz)[i]? =some (de.cells y ya):=dZ hy E
 refine rS (IA i U (aG 1 U) Fc dc om om)<|rS (nK (i*3) U (aG 1 U) (Nat.mul_pos om dc) fD U)<|rS (gF i 0 (vS ya.1.1 y.gu.length ya.1.2) U cq (aG 1 U) K U dc U)<|rP 3 [] I ?_
 refine RK N<|cM U (aS fun d=>?_) (aR fun d=>?_)
 ·refine bB<|ae<|ax<|KK C<|an<|rP 3 [] I ?_
  refine aH ?_
  have X:(vI (((i+1):Nat):Int))=(vI ((i:Int)+1)):=by exact cI om
  refine aT (H ⟨((i+1),fd,o),⟨om,by dsimp only; rw [lB hy]; exact ES A om⟩⟩ _ _ _ U os (cN 6<|bk U X<|dx.nil _) (aK [0,1,2,3]))
 refine WK M<|al fun _ O=>dR cD [17,18] [] [] [0,1,2,3] [] U U U U U ?_
 have v:=hws.lens y (aX hy)
 obtain ⟨s,hs⟩: ∃ s,y.gu[b]? =some s:=⟨y.gu[b]'om,e9 _⟩
 refine eS U (MV U)<|eS U (MV U)<|eS U (IA i U (aG 1 U) Fc dc om om)<|eS U (nK ((i*3)+1) U (aG 1 U) (Nat.mul_pos om dc) fD U)<|eS U (gF i 1 (vS ya.2.1.1 y.iy.length ya.2.1.2) U cq (aG 1 U) K U dc U)<|eS U (MV U) ?_
 obtain ⟨f,hf⟩:=aO y.iy b om
 have p:=bP iC hf
 refine eS U (IA b U (show jc _ (rd ya.2.1.1 y.iy.length 1 (y.iy.map iC)).holds from (dy 2 U (cj hy E (by simp [de.gY])))) cy dc om om)<|eS U (gF b 0 (vI f) U cq (show jc _ (rd ya.2.1.1 y.iy.length 1 (y.iy.map iC)).holds from (dy 2 U (cj hy E (by simp [de.gY])))) p U dc U)<|eS U (MV U)<|eS U (MV U)<|eS U (IA i U (aG 1 U) Fc dc om om)<|eS U (nK ((i*3)+2) U (aG 1 U) (Nat.mul_pos om dc) fD U)<|eS U (gF i 2 (vS ya.2.2.1 y.lI.length ya.2.2.2) U cq (aG 1 U) K U dc U)<|eS U (MV U) ?_
 obtain ⟨e,he⟩:=aO y.lI b om
 have n:=bP iC he
 refine eS U (IA b U (show jc _ (rd ya.2.2.1 y.lI.length 1 (y.lI.map iC)).holds from (dy 2 U (cj hy E (by simp [de.gY])))) cy dc om om)<|eS U (gF b 0 (vI e) U cq (show jc _ (rd ya.2.2.1 y.lI.length 1 (y.lI.map iC)).holds from (dy 2 U (cj hy E (by simp [de.gY])))) n U dc U)<|eS U (SX (bj (xs:=[(0,.tmp 31),(1,.tmp 39)]) (cs:=(aa.cells (aa.mk f e))) U U (bh gl U)) U U)<|e8 U<|cp U fun T17 V=>AL U dg fun r=>aH (V _ _ (aK [1,2,3,4]) ?_)
 refine cp U fun T19 W=>fR U cu U<|aH (W _ _ (aK [1,2,3,4]) ?_)
 refine fM U<|KK O<|al fun _ F=>WS fun _ P=>?_
 have a:=hws.le y (aX hy) b f e om hf he
 refine rP 1 [] I ?_
 refine RK P<|bR U (fun G=>?_) (fun G=>?_)
 ·refine WK F<|an<|fE 1 [] (mc 0 U I) U<|OW U cu U<|bg 1 U<|aH<|aD<|KK C<|an<|rP 3 [] I ?_
  refine aH ?_
  have Z:(vI (((i+1):Nat):Int))=(vI ((i:Int)+1)):=by exact cI om
  refine aT (H ⟨((i+1),true,(aa.mk f e)),⟨om,by dsimp only; rw [lB hy]; exact CV A G hs hf he a⟩⟩ _ _ _ U os (cN 6<|bk U Z<|dx.nil _) (aK [1,2,3,4]))
 refine an<|fE 4 [0,1] (mc 0 U (mc 4 U I)) U<|rS (MN U)<|fE 4 [0,1] (mc 0 U (mc 4 U I)) U<|rS (MX U)<|rS (SX (bj (xs:=[(0,.tmp 46),(1,.tmp 51)]) (cs:=(aa.cells (aa.mk (min f o.Lo) (max e o.Hi)))) U U (bh gl U)) U U)<|fR U cu U<|RK F<|an<|fE 1 [] (mc 0 U I) U<|OW U cu U<|bg 1 U<|aH<|aD<|KK C<|an<|rP 3 [] I ?_
 refine aH ?_
 have Y:(vI (((i+1):Nat):Int))=(vI ((i:Int)+1)):=by exact cI om
 refine aT (H ⟨((i+1),true,(aa.mk (min f o.Lo) (max e o.Hi))),⟨om,by dsimp only; rw [lB hy]; exact EO A G hs hf he a⟩⟩ _ _ _ U os (cN 6<|bk U Y<|dx.nil _) (aK [1,2,3,4]))
end
section
open Go.RowKit
theorem Qw (l:bf) (kA:OA) (kC:Nat) (az:List RA) (cA:OA) (cC:Nat) (bA:OA) (bC:Nat) (r:cE) (sgA:OA) (sgC:Nat) (hin:eE l az) (hsl:r.aj.length≤1000000):
 ej Tryz.prog 138 [(vA (bK.cells (bK.mk (aZ.mk (aM.mk kA l.aJ.length kC)) l.dM (aM.mk cA l.ai.length cC) (aM.mk bA l.ag.length bC) l.bH l.cv l.bL))),(vA (eK.cells (mB r sgA sgC)))] [(rd kA l.aJ.length 9 (l.aJ.map ao.cells)),(rd cA l.ai.length 2 (List.zipWith au.cells l.ai az)),(e7 (aU au.gY l.ai az)),(rd bA l.ag.length 4 (l.ag.map bE.cells)),(rd sgA r.aj.length 2 (r.aj.map aN.cells))] (vT [(vA (aa.cells (Au l r))),(vI (eQ l r l.bH))]):=by
 have q:=hin.sE
 have j:=hin.sD
 have h:=hin.og
 have i:=hin.sB
 refine bI kr Tryz.func138 U U fun y Q hQ hN=>?_
 try dsimp only
 refine WS fun _ Z=>fV U fun v=>fV U fun w=>AL U dg fun x=>bg 1 U<|RK Z<|WS fun _ P=>rP 2 [0,1] (mc 2 U (mc 1 U I)) ?_
 refine cX (Mu l kA kC az cA cC bA bC r sgA sgC hin hsl) (bp [3,4,5,6,7]) U fun u V=>?_
 obtain ⟨W,g,e,Y,X⟩:=u
 cases W
 ·obtain ⟨R,he⟩:=V.2 rfl
  try dsimp only at R he
  subst R
  try dsimp only [cond_true,cond_false,List.cons_append,List.nil_append]
  refine bg 5 U<|RK P<|al fun _ d=>WS fun _ G=>rP 2 [] I ?_
  refine RK G<|bR U (bw fun F=>?_) (bx fun F=>?_)
  ·exact absurd F he
  refine WS fun _ H=>rS (SX (bj (xs:=[]) (cs:=(aa.cells (aa.mk 0 0))) U U (bh gl U)) U U)<|bg 1 U<|fR U cu U<|rP 1 [] I ?_
  refine RK H<|ar<|lk hQ [0] (mc 0 U I) U ?_
  (rw [EC (fun z=>he ((vk he).symm.trans z)),vk he]<;>rfl)
 obtain ⟨he,C⟩:=V.1 rfl
 try dsimp only [cond_true,cond_false,List.cons_append,List.nil_append]
 try dsimp only at he C
 obtain ⟨T,E,_,k⟩:=j1 he
 obtain ⟨s,c⟩:=gL T
 have a:=c.head
 unfold gk at a
 have AA:=Pv T E
 have t:=AA.num
 have o:=E.len
 have p:=E.time
 refine bg 5 U<|RK P<|al fun _ AB=>WS fun _ J=>rP 1 [] I ?_
 refine rS (SX (b_ (r:= .bool false) U U U ng) U U)<|RK J<|aV U<|WK AB<|al fun _ K=>?_
 obtain ⟨b,S⟩: ∃ b:Nat,l.bH=(b:Int):=⟨l.bH.toNat,om⟩
 have A:=LY he (b:=b) om
 rw [← S] at A
 rw [S]
 refine an<|fE 3 [] (mc 4 U I) U<|rS (CL (G3 (pU l r) X e Y b (by exact AA) (by exact C) om) (ay (ak (n:=(pU l r).length) 0 U (tL C))<|ay (dW 1 U N6)<|aL) U)<|bg 3 U<|AL U dg fun f=>fR U cu U<|bg 1 U<|RK K<|al fun _ L=>WS fun _ M=>rP 2 [] I ?_
 refine RK M<|cM U (bx fun B=>?_) (bw fun B=>?_)
 ·refine WS fun _ N=>rS (SX (bj (xs:=[]) (cs:=(aa.cells (aa.mk 0 0))) U U (bh gl U)) U U)<|bg 1 U<|Tv U cu U<|rP 1 [] I ?_
  refine RK N<|ar<|lk hQ [0] (mc 3 U I) U ?_
  (rw [EC (fun z=>B (A.1.trans z)),← A.1]<;>rfl)
 refine WK L<|al fun _ O=>?_
 have D:eQ l r l.bH=0:=A.1.symm.trans B
 have m:=w9 D
 rw [A.2]
 refine an<|fE 10 [0,1,0,1] (mc 0 U (mc 4 U I)) U<|rS (SX (bj (xs:=[(0,.tmp 34),(1,.tmp 39)]) (cs:=(aa.cells (aa.mk (((eZ l r l.bH).Lo)-r.Start) (((eZ l r l.bH).Hi)-r.Start)))) U U (bh gl U)) U U)<|Tv U cu U<|rP 1 [] I ?_
 refine RK O<|ar<|lk hQ [0] (mc 3 U I) U ?_
 (rw [As D,D])
end
section
open Go.RowKit
theorem Ea (l:bf) (kA:OA) (kC:Nat) (az:List RA) (cA:OA) (cC:Nat) (bA:OA) (bC:Nat) (d:aA) (sgA:OA) (sgC:Nat) (hin:eE l az) (hle:dw l=0) (hsl:d.cx.aj.length≤1000000) (hk:d.Out=true):
 ej Tryz.prog 107 [(vA (bK.cells (lp l kA kC cA cC bA bC))),(vA (br.cells (br.mk d.Out d.eO d.Time (mB d.cx sgA sgC))))] [(rd kA l.aJ.length 9 (l.aJ.map ao.cells)),(rd cA l.ai.length 2 (List.zipWith au.cells l.ai az)),(e7 (aU au.gY l.ai az)),(rd bA l.ag.length 4 (l.ag.map bE.cells)),(rd sgA d.cx.aj.length 2 (d.cx.aj.map aN.cells))] (vT [(vA (aa.cells (oQ l d))),(vB (decide (hZ l d)))]):=by
 have K:=hin.sE
 have J:=hin.sD
 have H:=hin.og
 have AA:=hin.sB
 refine bI kr Tryz.func107 U U fun O Q hQ hN=>?_
 try dsimp only
 refine WS fun _ B=>fV U fun L=>fV U fun M=>AL U dg fun N=>bg 1 U<|RK B<|al fun _ E=>aw<|WS fun _ C=>rP 3 [] (mc 1 U I) ?_
 refine RK C<|bR U (fun G=>?_) (fun G=>?_)
 ·exact absurd ((hk).symm.trans G) dc
 refine WS fun _ A=>rS (SX (bj (xs:=[]) (cs:=(aa.cells (aa.mk 0 0))) U U (bh gl U)) U U)<|rP 4 [] (mc 1 U I) ?_
 refine cb (t:=15) U (fun D=>?_) (fun D=>?_)
 ·rw [Bool.not_eq_false'] at D
  refine bg 10 U<|fR U cu U<|rP 1 [] I ?_
  refine RK A<|ar<|lk hQ [0] (mc 0 U I) U ?_
  clear hQ hN A C E B
  rw [zR hk]
  simp only [qw hk]
  refine congrArg (fun z=>Value.tuple #[_,vB z]) ?_
  first|rfl|(simp_all [dD]; done)
 rw [Bool.not_eq_true'] at D
 refine bg 1 U<|rS (LP (aa.cells d.Time) 1 U cq U U U)<|rS (SX (bj (xs:=[]) (cs:=(aa.cells (aa.mk 0 0))) U U (bh gl U)) U U)<|rS (BI U (tp _ _ d.Time (aa.mk 0 0)))<|rP 2 [] I ?_
 refine cb (t:=21) U (aR fun F=>?_) (aS fun F=>?_)
 ·refine bg 4 U<|fR U cu U<|rP 1 [] I ?_
  refine RK A<|ar<|lk hQ [0] (mc 0 U I) U ?_
  clear hQ hN A C E B
  rw [zR hk]
  simp only [qw hk]
  refine congrArg (fun z=>Value.tuple #[_,vB z]) ?_
  first|rfl|(simp_all [dD]; done)
 refine bg 1 U<|rS (LP (eK.cells (mB d.cx sgA sgC)) 1 U cq U U U)<|rS (CL (Fj d.cx sgA sgC) (bp [7]) U)<|bg 1 U<|fR U cu U<|rP 1 [] I ?_
 refine RK A<|ar<|lk hQ [0] (mc 0 U I) U ?_
 clear hQ hN A C E B
 rw [zR hk]
 simp only [qw hk]
 refine congrArg (fun z=>Value.tuple #[_,vB z]) ?_
 first|rfl|(simp_all [dD]; done)
theorem D6 (l:bf) (kA:OA) (kC:Nat) (az:List RA) (cA:OA) (cC:Nat) (bA:OA) (bC:Nat) (d:aA) (sgA:OA) (sgC:Nat) (hin:eE l az) (hle:dw l=0) (hsl:d.cx.aj.length≤1000000) (hk:d.Out=false∧d.eO=true):
 ej Tryz.prog 107 [(vA (bK.cells (lp l kA kC cA cC bA bC))),(vA (br.cells (br.mk d.Out d.eO d.Time (mB d.cx sgA sgC))))] [(rd kA l.aJ.length 9 (l.aJ.map ao.cells)),(rd cA l.ai.length 2 (List.zipWith au.cells l.ai az)),(e7 (aU au.gY l.ai az)),(rd bA l.ag.length 4 (l.ag.map bE.cells)),(rd sgA d.cx.aj.length 2 (d.cx.aj.map aN.cells))] (vT [(vA (aa.cells (oQ l d))),(vB (decide (hZ l d)))]):=by
 have N:=hin.sE
 have M:=hin.sD
 have K:=hin.og
 have L:=hin.sB
 refine bI kr Tryz.func107 U U fun S Q hQ hN=>?_
 try dsimp only
 refine WS fun _ D=>fV U fun O=>fV U fun P=>AL U dg fun R=>bg 1 U<|RK D<|al fun _ H=>aw<|WS fun _ E=>rP 3 [] (mc 1 U I) ?_
 refine RK E<|cM U (fun J=>?_) (fun J=>?_)
 ·exact absurd ((hk.1).symm.trans J) dc
 refine WS fun _ F=>rP 3 [] (mc 1 U I) ?_
 refine RK F<|bR U (fun G=>?_) (fun G=>?_)
 ·exact absurd ((hk.2).symm.trans G) dc
 refine al fun _ B=>dR cD [10] [] [] [1,2,3,4,5,6,7] [] U U U U U<|eS U (FA 2 U fD U)<|eS U (LP (aa.cells d.Time) 0 U cq U U U)<|eS U (FA 2 U fD U)<|eS U (LP (aa.cells d.Time) 0 U cq U U U)<|eS U (CL (Ni d.Time) (aL) U)<|eS U (MV U)<|q6 (t:=34) U (fun A=>?_) (fun A=>?_)
 rotate_left 1
 ·replace A:=DF A
  refine eS U (OX U)<|eS U (OX U)<|eS U (OX U)<|eS U (PK U)<|eS U (AG U)<|e8 U<|cp U fun T10 C=>fR U cu U<|aH (C _ _ (aK [1,2,3,4,5,6,7]) ?_)
  refine fM U<|KK B<|ar<|lk hQ [0] (mc 0 U I) U ?_
  clear hQ hN C T10 B F E H D
  rw [Fh hk]
  simp only [sS hk]
  refine congrArg (fun z=>Value.tuple #[_,vB z]) ?_
  first|rfl|(simp_all; done)
 replace A:=DT A
 refine eS U (FA 4 U fD U)<|eS U (LP (eK.cells (mB d.cx sgA sgC)) 0 U cq U U U)<|eS U (CL (Fj d.cx sgA sgC) (bp [6]) U)<|eS U (PK U)<|eS U (AG U)<|e8 U<|cp U fun T9 AA=>fR U cu U<|aH (AA _ _ (aK [1,2,3,4,5,6,7]) ?_)
 refine fM U<|KK B<|ar<|lk hQ [0] (mc 0 U I) U ?_
 clear hQ hN AA T9 B F E H D
 rw [Fh hk]
 simp only [sS hk]
 refine congrArg (fun z=>Value.tuple #[_,vB z]) ?_
 first|rfl|(simp_all; done)
theorem DH (l:bf) (kA:OA) (kC:Nat) (az:List RA) (cA:OA) (cC:Nat) (bA:OA) (bC:Nat) (d:aA) (sgA:OA) (sgC:Nat) (hin:eE l az) (hle:dw l=0) (hsl:d.cx.aj.length≤1000000) (hk:d.Out=false∧d.eO=false):
 ej Tryz.prog 107 [(vA (bK.cells (lp l kA kC cA cC bA bC))),(vA (br.cells (br.mk d.Out d.eO d.Time (mB d.cx sgA sgC))))] [(rd kA l.aJ.length 9 (l.aJ.map ao.cells)),(rd cA l.ai.length 2 (List.zipWith au.cells l.ai az)),(e7 (aU au.gY l.ai az)),(rd bA l.ag.length 4 (l.ag.map bE.cells)),(rd sgA d.cx.aj.length 2 (d.cx.aj.map aN.cells))] (vT [(vA (aa.cells (oQ l d))),(vB (decide (hZ l d)))]):=by
 have O:=hin.sE
 have N:=hin.sD
 have L:=hin.og
 have M:=hin.sB
 refine bI kr Tryz.func107 U U fun AA Q hQ hN=>?_
 try dsimp only
 refine WS fun _ E=>fV U fun P=>fV U fun R=>AL U dg fun S=>bg 1 U<|RK E<|al fun _ F=>aw<|WS fun _ G=>rP 3 [] (mc 1 U I) ?_
 refine RK G<|cM U (fun K=>?_) (fun K=>?_)
 ·exact absurd ((hk.1).symm.trans K) dc
 refine WS fun _ H=>rP 3 [] (mc 1 U I) ?_
 refine RK H<|cM U (fun J=>?_) (fun J=>?_)
 ·exact absurd ((hk.2).symm.trans J) dc
 refine bY<|aD<|KK F<|WS fun _ AB=>fE 2 [] (mc 2 U I) U<|rS (LP (eK.cells (mB d.cx sgA sgC)) 1 U cq U U U)<|rS (CL (Qw l kA kC az cA cC bA bC d.cx sgA sgC hin hsl) (bp [3,4,5,6,7]) U)<|bg 3 U<|AL U dg fun T=>fR U cu U<|rP 1 [] I ?_
 refine RK AB<|al fun _ A=>dR cD [9] [] [] [0,2,3,4,5,6,7,8] [] U U U U U<|eS U (LW 0 U cq U U)<|eS U (MV U)<|eS U (BI U mq)<|eS U (MV U)<|q6 (t:=49) U (fun B=>?_) (fun B=>?_)
 rotate_left 1
 ·replace B:=DF B
  refine eS U (OX U)<|eS U (OX U)<|eS U (OX U)<|eS U (OX U)<|eS U (PK U)<|eS U (AG U)<|e8 U<|cp U fun T12 D=>tP U cu U<|aH (D _ _ (aK [0,2,3,4,5,6,7,8]) ?_)
  refine fM U<|KK A<|ar<|lk hQ [0] (mc 1 U I) U ?_
  clear hQ hN D T12 A AB H G F E
  rw [E6 hk]
  simp only [tn hk]
  refine congrArg (fun z=>Value.tuple #[_,vB z]) ?_
  first|rfl|(simp_all [dD]; done)
 replace B:=DT B
 refine eS U (FA 2 U fD U)<|eS U (LP (aa.cells d.Time) 1 U cq U U U)<|eS U (SX (bj (xs:=[]) (cs:=(aa.cells (aa.mk 0 0))) U U (bh gl U)) U U)<|eS U (BI U (tp _ _ d.Time (aa.mk 0 0)))<|eS U (PK U)<|eS U (AG U)<|e8 U<|cp U fun T11 C=>tP U cu U<|aH (C _ _ (aK [0,2,3,4,5,6,7,8]) ?_)
 refine fM U<|KK A<|ar<|lk hQ [0] (mc 1 U I) U ?_
 clear hQ hN C T11 A AB H G F E
 rw [E6 hk]
 simp only [tn hk]
 refine congrArg (fun z=>Value.tuple #[_,vB z]) ?_
 first|rfl|(simp_all [dD]; done)
theorem GW (l:bf) (kA:OA) (kC:Nat) (az:List RA) (cA:OA) (cC:Nat) (bA:OA) (bC:Nat) (d:aA) (sgA:OA) (sgC:Nat) (hin:eE l az) (hle:dw l=0) (hsl:d.cx.aj.length≤1000000):
 ej Tryz.prog 107 [(vA (bK.cells (lp l kA kC cA cC bA bC))),(vA (br.cells (br.mk d.Out d.eO d.Time (mB d.cx sgA sgC))))] [(rd kA l.aJ.length 9 (l.aJ.map ao.cells)),(rd cA l.ai.length 2 (List.zipWith au.cells l.ai az)),(e7 (aU au.gY l.ai az)),(rd bA l.ag.length 4 (l.ag.map bE.cells)),(rd sgA d.cx.aj.length 2 (d.cx.aj.map aN.cells))] (vT [(vA (aa.cells (oQ l d))),(vB (decide (hZ l d)))]):=by
 by_cases ho:d.Out=true
 ·exact Ea l kA kC az cA cC bA bC d sgA sgC hin hle hsl ho
 by_cases hf:d.eO=true
 ·exact D6 l kA kC az cA cC bA bC d sgA sgC hin hle hsl ⟨by simpa using ho,hf⟩
 ·exact DH l kA kC az cA cC bA bC d sgA sgC hin hle hsl ⟨by simpa using ho,by simpa using hf⟩
end
section
open Go.RowKit
theorem DS (r:cf) (kA:OA) (kC:Nat) (az:List RA) (cA:OA) (cC:Nat) (bA:OA) (bC:Nat) (slA:OA) (slC:Nat) (drA:OA) (drC:Nat) (ha:List cQ) (heA:OA) (heC:Nat) (hin:fg r az ha) (hle:dw r.ah=0):
 lv Tryz.prog 73 [(vA (bq.cells (ot r kA kC cA cC bA bC slA slC drA drC heA heC)))] [(rd kA r.ah.aJ.length 9 (r.ah.aJ.map ao.cells)),(rd cA r.ah.ai.length 2 (List.zipWith au.cells r.ah.ai az)),(e7 (aU au.gY r.ah.ai az)),(rd bA r.ah.ag.length 4 (r.ah.ag.map bE.cells)),(rd slA r.aI.length 1 (r.aI.map iC)),(rd drA r.bD.length 1 (r.bD.map iC)),(rd heA r.aq.length 1 (List.zipWith cz r.aq ha)),(e7 (aU hU r.aq ha))] (fun (x:Bool×Int×(OA)×Nat×(List RA))=>bif x.1 then (vT [(vS x.2.2.1 ((cP r).length) x.2.2.2.1),(vB true)]) else (vT [(vS none 0 0),(vB false)])) (fun (x:Bool×Int×(OA)×Nat×(List RA))=>(x.1=true→(eX r∧x.2.2.2.2.length=r.aq.length))∧(x.1=false→(x.2.1=0∧ ¬ eX r))) (fun (x:Bool×Int×(OA)×Nat×(List RA))=>bif x.1 then [(own x.2.2.1 x.2.2.2.1 85 1 (List.zipWith Ei (cP r) x.2.2.2.2)),(bo (aU Dd (cP r) x.2.2.2.2))] else []):=by
 have BP:=hin.line
 have Ba:=hin.iM
 have Bb:=hin.has
 have BU:=hin.iN
 have BS:=hin.draw
 have BW:=dH (r:=r)
 refine dp kr Tryz.func73 U U fun w0 Q hQ hN=>?_
 try dsimp only
 refine WS fun _ BE=>fV U fun b2=>bg 2 U<|RK BE<|WS fun _ BF=>fE 4 [] (mc 0 U I) U<|RK BF<|al fun _ BH=>WS fun _ N=>bg 1 U<|rS (CL (oM (r.aI.length:Int) 1 5) (aL) U)<|rP 2 [] I ?_
 refine db (t:=19) U (bx fun A6=>?_) (bw fun A6=>?_)
 ·refine bg 19 U<|RK N<|aP U<|WS fun _ BI=>rP 2 [] I ?_
  refine RK BI<|ar<|LX hQ (false,0,none,0,[]) [] [] I U (by rfl) U U ?_
  (exact ⟨AP,fun _=>⟨rfl,fun q=>by have S:=q.num; have q2:=q.xH; have q3:=q.nh; have q4:=q.yk; omega⟩⟩)
 refine rP 7 [] (mc 0 U I) ?_
 refine db (t:=26) U (bx fun X=>?_) (bw fun X=>?_)
 ·refine bg 12 U<|RK N<|aP U<|WS fun _ BJ=>rP 2 [] I ?_
  refine RK BJ<|ar<|LX hQ (false,0,none,0,[]) [] [] I U (by rfl) U U ?_
  (exact ⟨AP,fun _=>⟨rfl,fun q=>by have S:=q.num; have q2:=q.xH; have q3:=q.nh; have q4:=q.yk; omega⟩⟩)
 refine fE 2 [] (mc 0 U I) U<|rS (CL (oM r.ed 0 5) (aL) U)<|rP 3 [] I ?_
 refine db (t:=32) U (bx fun A7=>?_) (bw fun A7=>?_)
 ·refine bg 6 U<|RK N<|aP U<|WS fun _ BK=>rP 2 [] I ?_
  refine RK BK<|ar<|LX hQ (false,0,none,0,[]) [] [] I U (by rfl) U U ?_
  (exact ⟨AP,fun _=>⟨rfl,fun q=>by have S:=q.num; have q2:=q.xH; have q3:=q.nh; have q4:=q.yk; omega⟩⟩)
 refine fE 3 [] (mc 0 U I) U<|rS (CL (oM (r.aq.length:Int) 1 3) (aL) U)<|rP 2 [] I ?_
 refine RK N<|cM U (bx fun A9=>?_) (bw fun A9=>?_)
 ·refine WS fun _ BL=>rP 2 [] I ?_
  refine RK BL<|ar<|LX hQ (false,0,none,0,[]) [] [] I U (by rfl) U U ?_
  (exact ⟨AP,fun _=>⟨rfl,fun q=>by have S:=q.num; have q2:=q.xH; have q3:=q.nh; have q4:=q.yk; omega⟩⟩)
 refine WK BH<|al fun _ o=>WS fun _ p=>rP 1 [] I ?_
 refine RK p<|aw ?_
 have A:(0≤r.aI.length)∧(xo r 0):=by exact ⟨Nat.zero_le _,K_⟩
 refine bO (ι:={z:Nat // (z≤r.aI.length)∧(xo r z)}) [1,4] [0,1,2,3,4,5,6,7,8] U U (fun z=>[(5,(vI (z.1:Int)))]) (fun z=>[]) (fun _=>rfl) (fun _=>rfl) (fun z=>r.aI.length-z.1) ⟨0,A⟩ (aQ U) (aK [0,1,2,3,4,5,6,7,8]) ?_
 clear A
 rintro ⟨i,⟨BO,Az⟩⟩ J12 T
 try dsimp only
 refine al fun _ s=>WS fun _ v=>rP 3 [] I ?_
 refine RK v<|bR U (aR fun A5=>?_) (aS fun A5=>?_)
 ·refine bB<|ae<|ae<|ax<|KK o<|WS fun _ AS=>bg 1 U<|RK AS<|al fun _ AT=>WS fun _ AU=>rP 1 [] I ?_
  refine RK AU<|aw<|fX 85 1<|ox ?_
  have A:(0≤r.aq.length)∧(([]:List RA).length=0)∧(j5 r 0):=by exact ⟨Nat.zero_le _,rfl,xU⟩
  refine bO (ι:={z:Nat×(List RA)×(OA)×Nat // (z.1≤r.aq.length)∧(z.2.1.length=z.1)∧(j5 r z.1)}) [1,4] [2,3,4,5,6,7,8,9,10] U U (fun z=>[(7,(vS z.1.2.2.1 ((List.zipWith CD (gH r z.1.1) z.1.2.1).length) z.1.2.2.2)),(8,(vI (z.1.1:Int)))]) (fun z=>[(bo (aU Dd (gH r z.1.1) z.1.2.1)),(own z.1.2.2.1 z.1.2.2.2 85 1 (List.map sC (List.zipWith CD (gH r z.1.1) z.1.2.1)))]) (fun _=>rfl) (fun _=>rfl) (fun z=>r.aq.length-z.1.1) ⟨(0,([]:List RA),none,0),A⟩ (aQ U) (aK [2,3,4,5,6,7,8,9,10,0,1]) ?_
  clear A
  rintro ⟨⟨h,tz,a,c⟩,⟨P,C,F⟩⟩ J46 l
  try dsimp only at P C F
  try dsimp only
  refine al fun _ AV=>WS fun _ AW=>rP 5 [] (mc 0 U I) ?_
  refine RK AW<|bR U (aR fun A_=>?_) (aS fun A_=>?_)
  ·refine bB<|ae<|ae<|ax<|KK AT<|al fun _ Al=>?_
   have BN:gH r h=cP r:=by unfold cP; rw [show h=r.aq.length by omega]
   have BQ:tz.length=r.aq.length:=by omega
   rw [BN,yr,show (List.zipWith CD (cP r) tz).length=(cP r).length from by rw [List.length_zipWith]; omega]
   have Aw:eX r:=Gh (n:=i) om om om om om Az F om
   refine an<|rP 3 [] I ?_
   refine RK Al<|ar ?_
   refine LX hQ (true,0,a,c,tz) [10,9] [] I U (by (show List.all _ _=true; simp only [cond_true,fI,List.all_nil,wG,Bool.and_true]; rfl)) U U ?_
   exact ⟨fun _=>⟨Aw,BQ⟩,N_⟩
  refine WK AV<|al fun _ AX=>aw<|al fun _ AY=>WS fun _ AZ=>rP 3 [] (mc 0 U I) ?_
  obtain ⟨ht,D⟩:=aO r.aq h om
  obtain ⟨E,H⟩:=aO ha h om
  have W:(List.zipWith cz r.aq ha)[h]? =some (cz ht E):=dZ D H
  refine rS (IA h U (aG 7 U) rm dc om om) ?_
  have Av:=hin.oI _ _ _ D H
  have BT:=Av.og
  refine rS (gF h 0 (vS E.1.1 ht.length E.1.2) U cq (aG 7 U) W U dc U)<|rP 3 [] I ?_
  refine RK AZ<|cM U (bx fun e=>?_) (bw fun e=>?_)
  ·refine WS fun _ Aa=>rP 2 [] I ?_
   refine RK Aa<|ar<|LX hQ (false,0,none,0,[]) [] [] I U (by rfl) U U ?_
   (exact ⟨AP,fun _=>⟨rfl,fun q=>by have S:=(q.oI ht (aX D)).1; omega⟩⟩)
  refine WK AY<|WS fun _ Ab=>bg 1 U<|RK Ab<|al fun _ Ac=>WS fun _ Ad=>rP 1 [] I ?_
  refine RK Ad<|aw<|fX 38 2 ?_
  have A:(0≤ht.length)∧(nZ r.ah ht 0):=by exact ⟨Nat.zero_le _,uS⟩
  refine bO (ι:={z:Nat×(OA)×Nat // (z.1≤ht.length)∧(nZ r.ah ht z.1)}) [1,4,7,8] [1,2,3,4,5,6,7,8,9,10,11] U U (fun z=>[(9,(vS z.1.2.1 (((ht.take z.1.1).map (dE r.ah)).length) z.1.2.2)),(10,(vI (z.1.1:Int)))]) (fun z=>[(own z.1.2.1 z.1.2.2 38 2 (((ht.take z.1.1).map (dE r.ah)).map aa.cells))]) (fun _=>rfl) (fun _=>rfl) (fun z=>ht.length-z.1.1) ⟨(0,none,0),A⟩ (aQ U) (aK [1,2,3,4,5,6,7,8,9,10,11,0]) ?_
  clear A
  rintro ⟨⟨j,la,lc⟩,⟨R,G⟩⟩ J57 m
  try dsimp only at R G
  try dsimp only
  refine al fun _ Ae=>WS fun _ Af=>rP 3 [] I ?_
  refine RK Af<|bR U (aR fun BC=>?_) (aS fun BC=>?_)
  ·refine bB<|ae<|ae<|ax<|KK Ac<|an ?_
   rw [show ((ht.take j).map (dE r.ah))=ht.map (dE r.ah) from by rw [List.take_of_length_le om]]
   refine rP 2 [] I ?_
   refine cU (xs:=[.tmp 137]) (cs:=[(vS la ((ht.map (dE r.ah)).length) lc)]) U Mi QV U U U U (by simp [Value.cells]) U U fun BZ=>?_
   refine c_ (es2:=(List.map sC (List.zipWith CD (gH r (h+1)) (tz++[(la,lc)])))) (m':=(List.zipWith CD (gH r (h+1)) (tz++[(la,lc)])).length) 11 U U U Q_ U U sm (aY (es:=List.map sC [(aM.mk la ((ht.map (dE r.ah)).length) lc)]) 0 U U (by simp [zb]) U) (LK _) (by rw [List.length_zipWith,kI om]; omega) (by rw [List.length_zipWith,kI om]; simp only [maxLen]; omega) (by rw [sP D C,List.map_append]; rfl) (by rw [sP D C]; simp) U fun A2 A4=>?_
   try dsimp only
   refine bg 1 U<|aH<|aD<|KK AX<|an<|rP 3 [] I ?_
   refine aH<|BV (X':=aU Dd (gH r (h+1)) (tz++[(la,lc)])) 10 12 U U (BG (a:=(la,lc)) D C) ?_
   have At:(vI (((h+1):Nat):Int))=(vI ((h:Int)+1)):=by exact cI om
   refine aT (l ⟨((h+1),(tz++[(la,lc)]),A2,A4),⟨om,by simp; omega,wY F D (FQ om G om)⟩⟩ _ _ _ U os (cN 3<|bk U At<|dx.nil _) (aK [2,3,4,5,6,7,8,9,10,0,11]))
  refine WK Ae<|al fun _ Ag=>aw<|al fun _ Ah=>dR cD [14,15] [] [] [0,1,2,3,4,5,6,7,8,9,10,11] [] U U U U U<|eS U (FA 0 U fD U)<|eS U (LP (bK.cells (lp r.ah kA kC cA cC bA bC)) 0 U cq U U U)<|eS U (FA 10 U fD U)<|eS U (L1 (vS heA r.aq.length heC) 0 U cq U U)<|eS U (MV U)<|eS U (IA h U (aG 7 U) rm dc om om)<|eS U (gF h 0 (vS E.1.1 ht.length E.1.2) U cq (aG 7 U) W U dc U)<|eS U (MV U) ?_
  obtain ⟨d,hd⟩:=aO ht j om
  obtain ⟨da,Au⟩:=aO E.2 j om
  have BM:(List.zipWith aA.cells ht E.2)[j]? =some (aA.cells d da):=dZ hd Au
  refine eS U (IA j U (show jc _ (rd E.1.1 ht.length 7 (List.zipWith aA.cells ht E.2)).holds from (dy 8 U (cj D H cm))) wT dc om om)<|eS U (oB j 0 (br.cells (br.mk d.Out d.eO d.Time (eK.mk d.cx.Start d.cx.gh (aM.mk da.1 d.cx.aj.length da.2)))) U cq (show jc _ (rd E.1.1 ht.length 7 (List.zipWith aA.cells ht E.2)).holds from (dy 8 U (cj D H cm))) BM U dc U U) ?_
  have Bc:=Av.sig d (aX hd)
  refine eS U (CL (GW r.ah kA kC az cA cC bA bC d da.1 da.2 asm hle asm) (lR [1,2,3,4]<|ay (show jc _ (rd da.1 d.cx.aj.length 2 (d.cx.aj.map aN.cells)).holds from (dy 8 U (cj D H (cS _ (cj hd Au (by simp [aA.gY]))))))<|aL) U)<|eS U (MV U)<|eS U (EX U)<|eS U (EX U)<|eS U (AG U)<|e8 U<|cp U fun T63 Am=>AL U dg fun BX=>aH (Am _ _ (aK [1,2,3,4,5,6,7,8,9,10,11,12]) ?_)
  refine cp U fun T65 An=>fR U cu U<|aH (An _ _ (aK [1,2,3,4,5,6,7,8,9,10,11,12]) ?_)
  refine fM U<|KK Ah<|al fun _ Ai=>WS fun _ Aj=>rP 2 [] I ?_
  refine RK Aj<|cM U (bx fun J=>?_) (bw fun J=>?_)
  ·refine WS fun _ Ak=>rP 2 [] I ?_
   refine RK Ak<|ar<|LX hQ (false,0,none,0,[]) [] [] I U (by rfl) U U ?_
   (exact ⟨AP,fun _=>⟨rfl,fun q=>by exact J ((q.oI ht (aX D)).2 d (aX hd))⟩⟩)
  refine WK Ai<|an<|rP 2 [] (mc 0 U I) ?_
  refine cU (xs:=[.tmp 133]) (cs:=(aa.cells (oQ r.ah d))) U jK dg U U U U (by simp [Value.cells,aa.aW]) U U fun BY=>?_
  refine c_ (es2:=(List.map aa.cells ((ht.take (j+1)).map (dE r.ah)))) (m':=((ht.take (j+1)).map (dE r.ah)).length) 13 U U U Ek U U sm (aY (es:=List.map aa.cells [(oQ r.ah d)]) 0 U U (by simp [aa.aW]) U) (gV _) (by simp only [List.length_map,List.length_take]; omega) (by simp only [maxLen,List.length_map,List.length_take]; omega) (by rw [List.take_add_one,hd]; simp [KR J]) sq U fun A1 A3=>?_
  try dsimp only
  refine bg 1 U<|aH<|aD<|KK Ag<|an<|rP 3 [] I ?_
  refine aH ?_
  have As:(vI (((j+1):Nat):Int))=(vI ((j:Int)+1)):=by exact cI om
  refine aT (m ⟨((j+1),A1,A3),⟨om,u3 G hd J⟩⟩ _ _ _ U os (cN 5<|bk U As<|dx.nil _) (aK [2,3,4,5,6,7,8,9,10,11,12,13]))
 refine WK s<|al fun _ Ay=>aw<|al fun _ V=>al fun _ K=>dF cD 36 kr<|dP 3 [] (mc 0 U I) ?_
 obtain ⟨y,hy⟩:=aO r.aI i om
 have Ax:=bP iC hy
 refine dS (IA i U (aG 5 U) cy dc om om)<|dS (gF i 0 (vI y) U cq (aG 5 U) Ax U dc U)<|dS (CL (oM y 0 9999) (aL) U)<|dP 2 [] I ?_
 refine iS (t:=51) U (bx fun BA=>?_) (bw fun BA=>?_)
 ·refine lz 28 U<|cO<|RK K<|aP U<|WS fun _ w=>rP 2 [] I ?_
  refine RK w<|ar<|LX hQ (false,0,none,0,[]) [] [] I U (by rfl) U U ?_
  (exact ⟨AP,fun _=>⟨rfl,fun q=>by have S:=(q.ids i y hy).1; omega⟩⟩)
 refine dP 3 [] I ?_
 refine jk (t:=54) U (aR fun BB=>?_) (aS fun BB=>?_)
 ·refine dP 18 [] (mc 0 U I) ?_
  obtain ⟨x,hx⟩:=aO r.bD i om
  have M:=bP iC hx
  refine dS (IA i U (aG 6 U) cy dc om om)<|dS (gF i 0 (vI x) U cq (aG 6 U) M U dc U)<|lz 2 U<|dS (CL (oM x 0 ((r.aI.length:Int)-1)) (aL) U)<|dP 2 [] I ?_
  refine cO<|RK K<|cM U (bx fun Y=>?_) (bw fun Y=>?_)
  ·refine WS fun _ AJ=>rP 2 [] I ?_
   refine RK AJ<|ar<|LX hQ (false,0,none,0,[]) [] [] I U (by rfl) U U ?_
   (exact ⟨AP,fun _=>⟨rfl,fun q=>by have S:=q.Lj hx; omega⟩⟩)
  refine WK V<|WS fun _ AK=>rP 1 [] I ?_
  refine RK AK<|aw ?_
  have A:(0≤i)∧(∀ (q:Nat) y,q<0→r.bD[q]? =some y→y≠x):=by exact ⟨Nat.zero_le _,fun q y hq=>absurd hq (Nat.not_lt_zero _)⟩
  refine bO (ι:={z:Nat // (z≤i)∧(∀ (q:Nat) y,q<z→r.bD[q]? =some y→y≠x)}) [1,4,5] [0,1,2,3,4,5,6,7,8] U U (fun z=>[(6,(vI (z.1:Int)))]) (fun z=>[]) (fun _=>rfl) (fun _=>rfl) (fun z=>i-z.1) ⟨0,A⟩ (aQ U) (aK [0,1,2,3,4,5,6,7,8]) ?_
  clear A
  rintro ⟨k,⟨O,B⟩⟩ J34 g
  try dsimp only
  refine al fun _ AM=>WS fun _ AN=>rP 3 [] I ?_
  refine RK AN<|bR U (aR fun A8=>?_) (aS fun A8=>?_)
  ·refine bB<|ae<|ae<|ax<|aD<|KK Ay<|an<|rP 3 [] I ?_
   refine aH ?_
   have Ar:(vI (((i+1):Nat):Int))=(vI ((i:Int)+1)):=by exact cI om
   refine aT (T ⟨(i+1),⟨om,Bf Az (fun a ha=>by rw [hy] at ha; cases ha; exact ⟨om,fun b hb hc=>by omega⟩) (fun a ha=>by rw [hx] at ha; cases ha; exact ⟨om,fun k b hk hb=>B k b om hb⟩)⟩⟩ _ _ _ rfl os (dx.cons rfl<|dx.cons rfl<|bk rfl Ar<|dx.nil _) (aK [0,1,2,3,4,5,6,7,8]))
  refine WK AM<|al fun _ AO=>aw<|al fun _ AQ=>dF cD 11 kr<|dP 3 [] (mc 0 U I) ?_
  obtain ⟨u,hu⟩:=aO r.bD k om
  have Z:=bP iC hu
  refine dS (IA k U (aG 6 U) cy dc om om)<|dS (gF k 0 (vI u) U cq (aG 6 U) Z U dc U)<|mI 3 [] (mc 0 U I) U<|dS (IA i U (aG 6 U) cy dc om om)<|dS (gF i 0 (vI x) U cq (aG 6 U) M U dc U)<|dP 1 [] I ?_
  refine cO<|RK AQ<|bR U (aR fun L=>?_) (aS fun L=>?_)
  ·refine bY<|aD<|KK AO<|an<|rP 3 [] I ?_
   refine aH ?_
   have Aq:(vI (((k+1):Nat):Int))=(vI ((k:Int)+1)):=by exact cI om
   refine aT (g ⟨(k+1),⟨om,xR B hu L⟩⟩ _ _ _ U os (cN 3<|bk U Aq<|dx.nil _) (aK [0,1,2,3,4,5,6,7,8]))
  refine WS fun _ AR=>rP 2 [] I ?_
  refine RK AR<|ar<|LX hQ (false,0,none,0,[]) [] [] I U (by rfl) U U ?_
  (exact ⟨AP,fun _=>⟨rfl,fun q=>by have S:=q.num; have q2:=q.xH; have q3:=q.nh; have q4:=q.yk; omega⟩⟩)
 refine mI 3 [] (mc 0 U I) U<|dS (IA i U (aG 5 U) cy dc om om)<|dS (gF i 0 (vI y) U cq (aG 5 U) Ax U dc U)<|dP 4 [] (mc 0 U I) ?_
 obtain ⟨z,hz⟩:=aO r.aI (i-1) om
 have BR:=bP iC hz
 refine dS (IA (i-1) U (aG 5 U) cy dc om om)<|dS (gF (i-1) 0 (vI z) U cq (aG 5 U) BR U dc U)<|dP 4 [] I ?_
 refine iS (t:=69) U (aS fun BD=>?_) (aR fun BD=>?_)
 ·refine lz 10 U<|cO<|RK K<|aP U<|WS fun _ AA=>rP 2 [] I ?_
  refine RK AA<|ar<|LX hQ (false,0,none,0,[]) [] [] I U (by rfl) U U ?_
  (exact ⟨AP,fun _=>⟨rfl,fun q=>by have S:=(q.ids i y hy).2 z om hz; omega⟩⟩)
 refine dP 3 [] (mc 0 U I) ?_
 obtain ⟨x,hx⟩:=aO r.bD i om
 have M:=bP iC hx
 refine dS (IA i U (aG 6 U) cy dc om om)<|dS (gF i 0 (vI x) U cq (aG 6 U) M U dc U)<|lz 2 U<|dS (CL (oM x 0 ((r.aI.length:Int)-1)) (aL) U)<|dP 2 [] I ?_
 refine cO<|RK K<|cM U (bx fun Y=>?_) (bw fun Y=>?_)
 ·refine WS fun _ AB=>rP 2 [] I ?_
  refine RK AB<|ar<|LX hQ (false,0,none,0,[]) [] [] I U (by rfl) U U ?_
  (exact ⟨AP,fun _=>⟨rfl,fun q=>by have S:=q.Lj hx; omega⟩⟩)
 refine WK V<|WS fun _ AC=>rP 1 [] I ?_
 refine RK AC<|aw ?_
 have A:(0≤i)∧(∀ (q:Nat) y,q<0→r.bD[q]? =some y→y≠x):=by exact ⟨Nat.zero_le _,fun q y hq=>absurd hq (Nat.not_lt_zero _)⟩
 refine bO (ι:={z:Nat // (z≤i)∧(∀ (q:Nat) y,q<z→r.bD[q]? =some y→y≠x)}) [1,4,5] [0,1,2,3,4,5,6,7,8] U U (fun z=>[(6,(vI (z.1:Int)))]) (fun z=>[]) (fun _=>rfl) (fun _=>rfl) (fun z=>i-z.1) ⟨0,A⟩ (aQ U) (aK [0,1,2,3,4,5,6,7,8]) ?_
 clear A
 rintro ⟨k,⟨O,B⟩⟩ J23 f
 try dsimp only
 refine al fun _ AD=>WS fun _ AE=>rP 3 [] I ?_
 refine RK AE<|bR U (aR fun X=>?_) (aS fun X=>?_)
 ·refine bB<|ae<|ae<|ax<|aD<|KK Ay<|an<|rP 3 [] I ?_
  refine aH ?_
  have Ap:(vI (((i+1):Nat):Int))=(vI ((i:Int)+1)):=by exact cI om
  refine aT (T ⟨(i+1),⟨om,Bf Az (fun a ha=>by rw [hy] at ha; cases ha; exact ⟨om,fun b hb hc=>by (rw [hz] at hc; cases hc; omega)⟩) (fun a ha=>by rw [hx] at ha; cases ha; exact ⟨om,fun k b hk hb=>B k b om hb⟩)⟩⟩ _ _ _ rfl os (dx.cons rfl<|dx.cons rfl<|bk rfl Ap<|dx.nil _) (aK [0,1,2,3,4,5,6,7,8]))
 refine WK AD<|al fun _ AF=>aw<|al fun _ AH=>dF cD 11 kr<|dP 3 [] (mc 0 U I) ?_
 obtain ⟨u,hu⟩:=aO r.bD k om
 have Z:=bP iC hu
 refine dS (IA k U (aG 6 U) cy dc om om)<|dS (gF k 0 (vI u) U cq (aG 6 U) Z U dc U)<|mI 3 [] (mc 0 U I) U<|dS (IA i U (aG 6 U) cy dc om om)<|dS (gF i 0 (vI x) U cq (aG 6 U) M U dc U)<|dP 1 [] I ?_
 refine cO<|RK AH<|bR U (aR fun L=>?_) (aS fun L=>?_)
 ·refine bY<|aD<|KK AF<|an<|rP 3 [] I ?_
  refine aH ?_
  have Ao:(vI (((k+1):Nat):Int))=(vI ((k:Int)+1)):=by exact cI om
  refine aT (f ⟨(k+1),⟨om,xR B hu L⟩⟩ _ _ _ U os (cN 3<|bk U Ao<|dx.nil _) (aK [0,1,2,3,4,5,6,7,8]))
 refine WS fun _ AI=>rP 2 [] I ?_
 refine RK AI<|ar<|LX hQ (false,0,none,0,[]) [] [] I U (by rfl) U U ?_
 (exact ⟨AP,fun _=>⟨rfl,fun q=>by exact q.Qk om hu hx L⟩⟩)
end
section
open Go.RowKit
theorem Hr (r:cf) (kA:OA) (kC:Nat) (az:List RA) (cA:OA) (cC:Nat) (bA:OA) (bC:Nat) (slA:OA) (slC:Nat) (drA:OA) (drC:Nat) (ha:List cQ) (heA:OA) (heC:Nat) (hin:fg r az ha):
 lv Tryz.prog 49 [(vA (bq.cells (ot r kA kC cA cC bA bC slA slC drA drC heA heC)))] [(rd kA r.ah.aJ.length 9 (r.ah.aJ.map ao.cells)),(rd cA r.ah.ai.length 2 (List.zipWith au.cells r.ah.ai az)),(e7 (aU au.gY r.ah.ai az)),(rd bA r.ah.ag.length 4 (r.ah.ag.map bE.cells)),(rd slA r.aI.length 1 (r.aI.map iC)),(rd drA r.bD.length 1 (r.bD.map iC)),(rd heA r.aq.length 1 (List.zipWith cz r.aq ha)),(e7 (aU hU r.aq ha))] (fun (x:Bool×Int×(OA)×Nat×(List RA))=>bif x.1 then (vT [(vS x.2.2.1 ((cP r).length) x.2.2.2.1),(vI 0)]) else (vT [(vS none 0 0),(vI x.2.1)])) (fun (x:Bool×Int×(OA)×Nat×(List RA))=>(x.1=true→(bX r=0∧x.2.2.2.2.length=r.aq.length))∧(x.1=false→(x.2.1=bX r∧ ¬ bX r=0))) (fun (x:Bool×Int×(OA)×Nat×(List RA))=>bif x.1 then [(own x.2.2.1 x.2.2.2.1 85 1 (List.zipWith Ei (cP r) x.2.2.2.2)),(bo (aU Dd (cP r) x.2.2.2.2))] else []):=by
 have AA:=hin.line
 have b:=hin.iM
 have c:=hin.has
 have Z:=hin.iN
 have Y:=hin.draw
 have a:=dH (r:=r)
 refine dp kr Tryz.func49 U U fun f Q hQ hN=>?_
 try dsimp only
 refine WS fun _ O=>fV U fun e=>bg 2 U<|RK O<|al fun _ P=>WS fun _ R=>bg 1 U<|rS (LP (bK.cells (lp r.ah kA kC cA cC bA bC)) 0 U cq U U U)<|rS (CL (Bm r.ah kA kC az cA cC bA bC asm) (bp [1,2,3,4]) U)<|bg 1 U<|RK R<|WS fun _ S=>rP 2 [] I ?_
 refine RK S<|cM U (bx fun A=>?_) (bw fun A=>?_)
 ·refine WS fun _ T=>rP 3 [] I ?_
  refine RK T<|ar<|LX hQ (false,(dw r.ah),none,0,[]) [] [] I U (by rfl) U U ?_
  exact rf<|JV (zw A) A
 refine WK P<|WS fun _ G=>rP 1 [] (mc 0 U I) ?_
 refine cX (DS r kA kC az cA cC bA bC slA slC drA drC ha heA heC hin (by exact A)) (bp [1,2,3,4,5,6,7,8]) U fun d J=>?_
 obtain ⟨K,W,L,M,N⟩:=d
 cases K
 rotate_left 1
 ·obtain ⟨AB,V⟩:=J.1 rfl
  try dsimp only [cond_true,cond_false,List.cons_append,List.nil_append]
  refine bg 5 U<|RK G<|al fun _ D=>WS fun _ E=>bg 2 U<|RK E<|aV U<|WK D<|WS fun _ F=>rP 3 [] I ?_
  refine RK F<|ar ?_
  refine LX hQ (true,0,L,M,N) [0,1] [] I U (by (show List.all _ _=true; simp only [cond_true,fI,List.all_nil,wG,Bool.and_true]; rfl)) U U ?_
  exact ⟨fun _=>⟨CC A AB,V⟩,N_⟩
 obtain ⟨H,he⟩:=J.2 rfl
 try dsimp only at H he
 subst H
 try dsimp only [cond_true,cond_false,List.cons_append,List.nil_append]
 refine bg 5 U<|RK G<|al fun _ X=>WS fun _ B=>bg 2 U<|RK B<|aP U<|WS fun _ C=>rP 2 [] I ?_
 refine RK C<|ar<|LX hQ (false,60,none,0,[]) [] [] I U (by rfl) U U ?_
 exact rf<|pL (kx A he)
end
section
open Go.RowKit
theorem Hf (r:cf) (kA:OA) (kC:Nat) (az:List RA) (cA:OA) (cC:Nat) (bA:OA) (bC:Nat) (slA:OA) (slC:Nat) (drA:OA) (drC:Nat) (ha:List cQ) (heA:OA) (heC:Nat) (hin:fg r az ha):
 ej Tryz.prog 30 [(vA (bq.cells (ot r kA kC cA cC bA bC slA slC drA drC heA heC)))] [(rd kA r.ah.aJ.length 9 (r.ah.aJ.map ao.cells)),(rd cA r.ah.ai.length 2 (List.zipWith au.cells r.ah.ai az)),(e7 (aU au.gY r.ah.ai az)),(rd bA r.ah.ag.length 4 (r.ah.ag.map bE.cells)),(rd slA r.aI.length 1 (r.aI.map iC)),(rd drA r.bD.length 1 (r.bD.map iC)),(rd heA r.aq.length 1 (List.zipWith cz r.aq ha)),(e7 (aU hU r.aq ha))] (vI (bX r)):=by
 have H:=hin.line
 have M:=hin.iM
 have N:=hin.has
 have J:=hin.iN
 have AB:=hin.draw
 have K:=dH (r:=r)
 refine bI kr Tryz.func30 U U fun V Q hQ hN=>?_
 try dsimp only
 refine WS fun _ G=>fV U fun AA=>bg 1 U<|RK G<|WS fun _ C=>rP 1 [] (mc 0 U I) ?_
 refine cX (Hr r kA kC az cA cC bA bC slA slC drA drC ha heA heC hin) (bp [1,2,3,4,5,6,7,8]) U fun T E=>?_
 obtain ⟨F,L,P,R,S⟩:=T
 cases F
 rotate_left 1
 ·obtain ⟨he,O⟩:=E.1 rfl
  try dsimp only [cond_true,cond_false,List.cons_append,List.nil_append]
  refine bg 5 U<|RK C<|WS fun _ B=>rP 2 [] I ?_
  refine RK B<|ar<|Q1 hQ U U U ?_
  first|rfl|(rw [he])
 obtain ⟨D,he⟩:=E.2 rfl
 try dsimp only at D he
 subst D
 try dsimp only [cond_true,cond_false,List.cons_append,List.nil_append]
 refine bg 5 U<|RK C<|WS fun _ A=>rP 2 [] I ?_
 refine RK A<|ar<|Q1 hQ U U U ?_
 first|rfl|(rw [he])
end
section
open Go.RowKit
theorem I6 (r:cf) (kA:OA) (kC:Nat) (az:List RA) (cA:OA) (cC:Nat) (bA:OA) (bC:Nat) (slA:OA) (slC:Nat) (drA:OA) (drC:Nat) (ha:List cQ) (heA:OA) (heC:Nat) (hraw:qJ r az ha):
 ej Tryz.prog 7 [(vA (bq.cells (ot r kA kC cA cC bA bC slA slC drA drC heA heC)))] [(rd kA r.ah.aJ.length 9 (r.ah.aJ.map ao.cells)),(rd cA r.ah.ai.length 2 (List.zipWith au.cells r.ah.ai az)),(e7 (aU au.gY r.ah.ai az)),(rd bA r.ah.ag.length 4 (r.ah.ag.map bE.cells)),(rd slA r.aI.length 1 (r.aI.map iC)),(rd drA r.bD.length 1 (r.bD.map iC)),(rd heA r.aq.length 1 (List.zipWith cz r.aq ha)),(e7 (aU hU r.aq ha))] (vB (decide (¬ oy r∧bX r=0))):=by
 refine bI kr Tryz.func7 U U fun F Q hQ hN=>?_
 try dsimp only
 refine WS fun _ C=>fV U fun E=>bg 1 U<|RK C<|WS fun _ B=>fE 1 [] (mc 0 U I) U<|rS (CL (Bo r kA kC az cA cC bA bC slA slC drA drC ha heA heC hraw) (bp [1,2,3,4,5,6,7,8]) U)<|rP 2 [] I ?_
 refine cb (t:=6) U (bw fun A=>?_) (bx fun A=>?_)
 ·refine bg 1 U<|rP 4 [] I ?_
  refine RK B<|ar<|Q1 hQ U U U ?_
  first|exact cB (cr fun q=>q.1 A).symm|exact cB (decide_eq_decide.2 ⟨fun q=>⟨A,q⟩,fun q=>q.2⟩)
 refine rP 1 [] (mc 0 U I) ?_
 have D:=hraw.small A
 refine rS (CL (Hf r kA kC az cA cC bA bC slA slC drA drC ha heA heC sd) (bp [1,2,3,4,5,6,7,8]) U) ?_
 refine rP 3 [] I ?_
 refine RK B<|ar<|Q1 hQ U U U ?_
 first|exact cB (cr fun q=>q.1 A).symm|exact cB (decide_eq_decide.2 ⟨fun q=>⟨A,q⟩,fun q=>q.2⟩)
end
section
open Go.RowKit
theorem M5 (r:cf) (kA:OA) (kC:Nat) (az:List RA) (cA:OA) (cC:Nat) (bA:OA) (bC:Nat) (slA:OA) (slC:Nat) (drA:OA) (drC:Nat) (ha:List cQ) (heA:OA) (heC:Nat) (hin:fg r az ha) (he:bX r=0):
 lv Tryz.prog 17 [(vA (bq.cells (ot r kA kC cA cC bA bC slA slC drA drC heA heC)))] [(rd dG 3 2 dh),(rd kA r.ah.aJ.length 9 (r.ah.aJ.map ao.cells)),(rd cA r.ah.ai.length 2 (List.zipWith au.cells r.ah.ai az)),(e7 (aU au.gY r.ah.ai az)),(rd bA r.ah.ag.length 4 (r.ah.ag.map bE.cells)),(rd slA r.aI.length 1 (r.aI.map iC)),(rd drA r.bD.length 1 (r.bD.map iC)),(rd heA r.aq.length 1 (List.zipWith cz r.aq ha)),(e7 (aU hU r.aq ha))] (fun (x:Nat)=>(vT [(Value.map (some x)),(vB true)])) (fun (x:Nat)=>True) (fun (x:Nat)=>[(gZ iV x (bM df (aB r)))]):=by
 have e:=hin.line
 have l:=hin.iM
 have m:=hin.has
 have g:=hin.iN
 have f:=hin.draw
 have h:=dH (r:=r)
 have AA:=(iG he).2
 have n:=AA.num
 refine dp kr Tryz.func17 U U fun p Q hQ hN=>?_
 try dsimp only
 refine WS fun _ X=>fV U fun o=>rP 2 [] I ?_
 refine RK X<|WS fun _ Y=>mz (kV:=iV) U U fun V=>?_
 try dsimp only
 refine bg 1 U<|RK Y<|al fun _ Z=>WS fun _ a=>rP 4 [] (mc 1 U I) ?_
 refine RK a<|aw ?_
 skip
 have C:(0≤r.aI.length):=by exact Nat.zero_le _
 refine bO (ι:={z:Nat // (z≤r.aI.length)}) [1,4,11] [1,2,3,4,5,6,7,8,9,10] U U (fun z=>[(12,(vI (z.1:Int)))]) (fun z=>[(gZ iV V (bM df (jO r z.1)))]) (fun _=>rfl) (fun _=>rfl) (fun z=>r.aI.length-z.1) ⟨0,C⟩ (aQ U) (aK [1,2,3,4,5,6,7,8,9,10,0]) ?_
 clear C
 rintro ⟨i,d⟩ J7 D
 try dsimp only
 refine WS fun _ b=>rP 1 [] I ?_
 refine RK b<|al fun _ c=>bR U (aR fun W=>?_) (aS fun W=>?_)
 ·refine bB<|ae<|ae<|ax<|KK Z<|al fun _ M=>?_
  rw [show jO r i=aB r from by rw [show i=r.aI.length by omega]; rfl]
  refine an<|rP 3 [] I ?_
  refine RK M<|ar<|LX hQ V [10] [] I U U U U ?_
  trivial
 refine WK c<|al fun _ B=>aw<|WS fun _ AB=>bg 2 U<|RK AB<|WS fun _ J=>fE 2 [] (mc 0 U I) U<|rS (CL (OG (i:Int) r kA kC az cA cC bA bC slA slC drA drC ha heA heC hin) (bp [1,2,3,4,5,6,7,8,9]) U)<|bg 3 U<|AL U dg fun j=>fR U cu U<|bg 1 U<|RK J<|al fun _ E=>WS fun _ F=>rP 3 [] I ?_
 refine cb (t:=23) U (bw fun G=>?_) (bx fun G=>?_)
 ·refine bg 3 U<|RK F<|aV U<|WK E<|WS fun _ L=>rP 2 [] I ?_
  refine RK L<|bR U (aR fun A=>?_) (aS fun A=>?_)
  ·refine bY<|aD<|KK B<|an<|rP 2 [] I ?_
   refine aH ?_
   rw [yz he om A]
   have T:(vI (((i+1):Nat):Int))=(vI ((i:Int)+1)):=by exact cI om
   refine aT (D ⟨(i+1),(by first|omega|(simp only []; omega))⟩ _ _ _ U os (cN 3<|bk U T<|dx.nil _) (aK [1,2,3,4,5,6,7,8,9,10,11]))
  refine an<|rP 3 [] (mc 0 U I) ?_
  have R:(dK (jO r i) (i:Int) (pq r (i:Int)))=(jO r (i+1)):=by exact CR he om A
  refine iu (kV:=iV) (x:=(i:Int)) (C':=[_,_,_,_,_,_,_,_,_,_,_,(gZ iV V (bM df (jO r (i+1))))]) 11 U U U U lF (dB od) U ((gE _ _ _ _).symm.trans (congrArg _ R)) U<|aH<|aD<|KK B<|an<|rP 2 [] I ?_
  refine aH ?_
  have S:(vI (((i+1):Nat):Int))=(vI ((i:Int)+1)):=by exact cI om
  refine aT (D ⟨(i+1),(by first|omega|(simp only []; omega))⟩ _ _ _ U os (cN 3<|bk U S<|dx.nil _) (aK [1,2,3,4,5,6,7,8,9,10,11]))
 refine rP 3 [] I ?_
 refine RK F<|cM U (bx fun H=>?_) (bw fun H=>?_)
 ·exfalso; exact (x7 he (k:=(i:Int)) (by unfold qK; omega)).elim (fun q=>G q.1) (fun q=>H q.1)
 refine WK E<|WS fun _ K=>rP 2 [] I ?_
 refine RK K<|bR U (aR fun A=>?_) (aS fun A=>?_)
 ·refine bY<|aD<|KK B<|an<|rP 2 [] I ?_
  refine aH ?_
  rw [yz he om A]
  have P:(vI (((i+1):Nat):Int))=(vI ((i:Int)+1)):=by exact cI om
  refine aT (D ⟨(i+1),(by first|omega|(simp only []; omega))⟩ _ _ _ U os (cN 3<|bk U P<|dx.nil _) (aK [1,2,3,4,5,6,7,8,9,10,11]))
 refine an<|rP 3 [] (mc 0 U I) ?_
 have N:(dK (jO r i) (i:Int) (pq r (i:Int)))=(jO r (i+1)):=by exact CR he om A
 refine iu (kV:=iV) (x:=(i:Int)) (C':=[_,_,_,_,_,_,_,_,_,_,_,(gZ iV V (bM df (jO r (i+1))))]) 11 U U U U lF (dB od) U ((gE _ _ _ _).symm.trans (congrArg _ N)) U<|aH<|aD<|KK B<|an<|rP 2 [] I ?_
 refine aH ?_
 have O:(vI (((i+1):Nat):Int))=(vI ((i:Int)+1)):=by exact cI om
 refine aT (D ⟨(i+1),(by first|omega|(simp only []; omega))⟩ _ _ _ U os (cN 3<|bk U O<|dx.nil _) (aK [1,2,3,4,5,6,7,8,9,10,11]))
end
section
open Go.RowKit
theorem yj (r:cf) (kA:OA) (kC:Nat) (az:List RA) (cA:OA) (cC:Nat) (bA:OA) (bC:Nat) (slA:OA) (slC:Nat) (drA:OA) (drC:Nat) (ha:List cQ) (heA:OA) (heC:Nat) (which:Int) (hraw:qJ r az ha) (hwb:0≤which∧which≤255):
 ej Tryz.prog 4 [(vA (bq.cells (ot r kA kC cA cC bA bC slA slC drA drC heA heC))),(Value.int .u8 which)] [(rd dG 3 2 dh),(rd kA r.ah.aJ.length 9 (r.ah.aJ.map ao.cells)),(rd cA r.ah.ai.length 2 (List.zipWith au.cells r.ah.ai az)),(e7 (aU au.gY r.ah.ai az)),(rd bA r.ah.ag.length 4 (r.ah.ag.map bE.cells)),(rd slA r.aI.length 1 (r.aI.map iC)),(rd drA r.bD.length 1 (r.bD.map iC)),(rd heA r.aq.length 1 (List.zipWith cz r.aq ha)),(e7 (aU hU r.aq ha))] (vB true):=by
 refine bI kr Tryz.func4 U U fun w0 Q hQ hN=>?_
 try dsimp only
 refine WS fun _ BU=>fV U fun b2=>bg 1 U<|RK BU<|WS fun _ BV=>rS (CL IX (bp [1]) U)<|bg 1 U<|RK BV<|al fun _ BW=>WS fun _ BX=>bg 2 U<|RK BX<|aV U<|WK BW<|al fun _ BY=>WS fun _ BZ=>fE 1 [] (mc 0 U I) U<|rS (CL (I6 r kA kC az cA cC bA bC slA slC drA drC ha heA heC hraw) (bp [2,3,4,5,6,7,8,9]) U)<|rP 1 [] I ?_
 refine RK BZ<|cM U (bx fun O=>?_) (bw fun O=>?_)
 ·refine WS fun _ Ba=>rP 2 [] I ?_
  refine RK Ba<|ar<|Q1 hQ U U U ?_
  first|rfl|exact cB (fO (by rw [oS (by rw [AF P]; decide)]; rfl))|exact cB (fO (by rw [o]; have h_:=AA.1; omega))
 refine WK BY<|WS fun _ Bb=>?_
 have k:=hraw.small O.1
 have Be:=k.line
 have B4:=k.iM
 have B5:=k.has
 have Bu:=k.iN
 have Bs:=k.draw
 have Bv:=dH (r:=r)
 have BL:=(iG O.2).2
 have B6:=BL.num
 refine bg 1 U<|rS (SX (tJ (m:=which) U U QJ od (p_ (by first|assumption|omega))) U U)<|fE 3 [] (mc 0 U I) U<|rS (BI U (ON om om))<|rP 1 [] I ?_
 refine RK Bb<|al fun _ Ah=>?_
 obtain ⟨i,hi,AW⟩: ∃ q:Int,(which % (r.aI.length:Int))=q∧qK r q:=⟨_,rfl,by unfold qK; have:=RO which (r.aI.length:Int) om om; omega⟩
 rw [hi]
 refine an<|rP 2 [] (mc 0 U I) ?_
 refine cX (Fi i r kA kC az cA cC bA bC slA slC drA drC ha heA heC sd) (bp [1,2,3,4,5,6,7,8,9]) U fun Bp Bw=>?_
 obtain ⟨BN,BP⟩:=Bp
 try dsimp only
 refine bg 5 U<|RK Ah<|WS fun _ Ai=>rP 1 [] (mc 1 U I) ?_
 refine cX (M5 r kA kC az cA cC bA bC slA slC drA drC ha heA heC sd (by exact O.2)) (bp [2,3,4,5,6,7,8,9,10]) U fun Y Bx=>?_
 try dsimp only
 refine rP 5 [] I ?_
 refine RK Ai<|al fun _ Aj=>Ih (C':=[(gZ iV Y (bM df (aB r))).ro,(own BN BP 3 1 ((fU r i).map iC)),(bZ b2 32 (bq.cells (ot r kA kC cA cC bA bC slA slC drA drC heA heC))),(rd dG 3 2 dh).ro,(rd kA r.ah.aJ.length 9 (r.ah.aJ.map ao.cells)).ro,(rd cA r.ah.ai.length 2 (List.zipWith au.cells r.ah.ai az)).ro,(e7 (aU au.gY r.ah.ai az)).ro,(rd bA r.ah.ag.length 4 (r.ah.ag.map bE.cells)).ro,(rd slA r.aI.length 1 (r.aI.map iC)).ro,(rd drA r.bD.length 1 (r.bD.map iC)).ro,(rd heA r.aq.length 1 (List.zipWith cz r.aq ha)).ro,(e7 (aU hU r.aq ha)).ro]) 0 U U ?_
 have Bh:=Ny O.2 AW
 have AF:((aB r).lookup i).isSome=false→jy r i=6:=fun q=>ug O.2 AW q
 refine an<|bg 2 U<|rS (SX (jZ (kV:=iV) (x:=i) (l:=(aB r)) (f:=df) (z:=(aa.mk 0 0)) U U U lF (dB od) vD (by exact jG 0 U)) U U)<|bg 3 U<|AL U dg fun Bz=>fR U cu U<|rP 1 [] I ?_
 refine RK Aj ?_
 refine mN (ι:={z:Nat // (True)}) [2,5,6,7,8,9,10,11,12] [0,1,2,3,4,5,6,7,8,9,10,11,12] U U (fun z=>[]) (fun z=>[]) (fun _=>rfl) (fun _=>rfl) ?_ fun K21 AK=>?_
 ·rintro ⟨u_,BK⟩
  try dsimp only
  refine al fun _ W=>WS fun _ Ak=>rP 2 [] I ?_
  refine RK Ak<|cM U (fun P=>?_) (fun P=>?_)
  ·rw [Bool.not_eq_true'] at P
   refine WS fun _ Al=>rP 7 [] I ?_
   refine RK Al<|ar<|Q1 hQ U U U ?_
   first|rfl|exact cB (fO (by rw [oS (by rw [AF P]; decide)]; rfl))|exact cB (fO (by rw [o]; have h_:=AA.1; omega))
  rw [Bool.not_eq_false'] at P
  refine WK W<|al fun _ Am=>?_
  obtain ⟨ow,AG⟩:=Option.isSome_iff_exists.1 P
  have Bf:((List.lookup i (aB r)).getD (aa.mk 0 0))=ow:=by rw [AG]; rfl
  rw [Bf]
  have Bg:=(Nh O.2).at AG
  have AX:=lM O.2 _ (zZ AG)
  dsimp only at AX
  have Bt:=ni O.2
  have o:fU r i=di (aB r) i ow:=(Fm O.2 AW AG).2.2
  have B7:=v_ (r:=r) (i:=i)
  refine an<|rP 2 [] (mc 0 U I) ?_
  refine cU (xs:=[.tmp 81]) (cs:=[(vI ow.Lo)]) U cy jd U U U U (by simp [Value.cells]) U U fun AY=>?_
  refine dT (es:=([ow.Lo].map iC)) (C':=[(own (some ⟨AY,0,none⟩) 1 3 1 ([ow.Lo].map iC)),_,_,_,_,_,_,_,_,_,_,_,_,_]) 0 U (l4 bJ _) U (by show _≤maxLen; exact Nat.le_trans (m:=10) (show (1:Nat)≤10 by decide) dc) U ?_
  refine bg 1 U<|RK Am<|al fun _ An=>WS fun _ Ao=>rP 1 [] I ?_
  refine iI (kV:=iV) (m:=bM df (aB r)) 2 U U lF U ⟨U,fun h=>h⟩ (by exact jG 2 U) U fun Bn=>?_
  try dsimp only
  refine RK Ao<|aw ?_
  have G:(∀ p∈(aB r),p∈aB r)∧(yg (aB r) i ow (aB r) ([ow.Lo]))∧(([ow.Lo]).length+2*(aB r).length≤1+2*(aB r).length):=by exact ⟨fun p hp=>hp,HF,sm⟩
  refine bO (ι:={z:gp×(List Int)×(OA)×Nat // (∀ p∈z.1,p∈aB r)∧(yg (aB r) i ow z.1 z.2.1)∧(z.2.1.length+2*z.1.length≤1+2*(aB r).length)}) [2,5,6,7,9,11,84] [2,3,4,5,6,7,8,9,10,11,12,13,14] U U (fun z=>[(13,(vS z.1.2.2.1 z.1.2.1.length z.1.2.2.2))]) (fun z=>[(yd iV Bn Y (bM df (aB r)) (bM df z.1.1) none),(own z.1.2.2.1 z.1.2.2.2 3 1 (z.1.2.1.map iC))]) (fun _=>rfl) (fun _=>rfl) (fun z=>z.1.1.length) ⟨((aB r),[ow.Lo],(some ⟨AY,0,none⟩),1),G⟩ (aQ U) (aK [2,3,4,5,6,7,8,9,10,11,12,13,14,0,1]) ?_
  clear G
  rintro ⟨⟨left,ys,a,c⟩,⟨L,AZ,AB⟩⟩ J30 AI
  try dsimp only at L AZ AB
  try dsimp only
  refine WS fun _ AM=>g8 (dB od).inj (f:=df) 13 U U U U (fun BT=>?_) (fun x y hm hn=>?_)
  rotate_left 1
  ·try dsimp only
   refine bg 1 U<|RK AM<|al fun _ BB=>aP U<|WK BB<|aw<|WS fun _ BC=>rS (SX (g7 13 U U U) U U)<|bg 2 U<|AL U dg fun B1=>bg 1 U<|fR U cu U<|RK BC<|WS fun _ BD=>rP 3 [] I ?_
   refine RK BD<|bR U (bw fun b=>?_) (bx fun b=>?_)
   ·refine bY<|aD<|fm 14 U dA U ?_
    refine aT (AI ⟨((cd left x),ys,a,c),⟨dC L,by first|exact Ch hn hm L b AZ|exact yU hn hm b AZ,by have:=cW hm; first|omega|(simp; omega)⟩⟩ _ _ _ U (cW hm) (aQ U) (aK [1,2,3,4,5,6,7,8,9,10,11,12,13,14,15]))
   refine an<|rP 1 [] I ?_
   have Bm:=lM O.2 _ (L _ hm)
   dsimp only at Bm
   refine rP 6 [] (mc 0 U I) ?_
   refine cU (xs:=[.tmp 96,.tmp 99]) (cs:=[(vI (y.Lo+1)),(vI (y.Hi+1))]) U cy jd U U U U (by simp [Value.cells]) U U fun B2=>?_
   refine c_ (es2:=(List.map iC (ys++[y.Lo+1,y.Hi+1]))) (m':=(ys++[y.Lo+1,y.Hi+1]).length) 16 U U U pE U U sm (aY (es:=List.map iC [(y.Lo+1),(y.Hi+1)]) 0 U U (by simp [bJ]) U) (jT _) os (by simp only [maxLen]; first|omega|(simp; omega)) sm sm U fun BO BR=>?_
   try dsimp only
   refine rP 1 [] I ?_
   refine aH<|aD<|fm 15 U dA U ?_
   refine aT (AI ⟨((cd left x),(ys++[y.Lo+1,y.Hi+1]),BO,BR),⟨dC L,by first|exact Ch hn hm L b AZ|exact yU hn hm b AZ,by have:=cW hm; first|omega|(simp; omega)⟩⟩ _ _ _ U (cW hm) (aQ U) (aK [2,3,4,5,6,7,8,9,10,11,12,13,14,15,16]))
  refine rP 1 [] I ?_
  refine RK AM<|al fun _ Bq=>aV U<|bB<|ae<|ae<|ax<|KK An<|al fun _ Aq=>?_
  have Bd:yg (aB r) i ow [] ys:=by rw [BT] at AZ; exact AZ
  refine an<|mz (kV:=iV) U U fun AV=>?_
  try dsimp only
  refine bg 1 U<|RK Aq<|al fun _ Ar=>WS fun _ As=>rP 3 [] I ?_
  refine RK As<|aw ?_
  have G:(0≤ys.length)∧(u9 (aB r) i ow (ys.take 0) ([]:ly)):=by exact ⟨Nat.zero_le _,by simpa using Gs⟩
  refine bO (ι:={z:Nat×ly // (z.1≤ys.length)∧(u9 (aB r) i ow (ys.take z.1) z.2)}) [2,5,6,7,9,11,13,16,103,104] [1,2,3,4,5,6,7,8,9,10,11,12,13,14,15] U U (fun z=>[(105,(vI (z.1.1:Int)))]) (fun z=>[(gZ iV AV (bM vB z.1.2))]) (fun _=>rfl) (fun _=>rfl) (fun z=>ys.length-z.1.1) ⟨(0,([]:ly)),G⟩ (aQ U) (aK [1,2,3,4,5,6,7,8,9,10,11,12,13,14,15,0]) ?_
  clear G
  rintro ⟨⟨j,c0⟩,⟨AC,J⟩⟩ J37 d
  try dsimp only at AC J
  try dsimp only
  refine WS fun _ At=>rP 1 [] I ?_
  refine RK At<|al fun _ Au=>bR U (aR fun BS=>?_) (aS fun BS=>?_)
  ·refine bB<|ae<|ae<|ax<|KK Ar<|al fun _ A6=>al fun _ A7=>?_
   have AA:=JU AG Bg Bd (by rw [show ys.take j=ys from List.take_of_length_le om] at J; exact J)
   refine an<|rP 3 [] I ?_
   refine RK A7<|aw ?_
   have G:(0≤(fU r i).length):=by exact Nat.zero_le _
   refine bO (ι:={z:Nat // (z≤(fU r i).length)}) [2,5,7,16,157,158] [1,2,3,4,5,6,7,8,9,10,11,12,13,14,15] U U (fun z=>[(159,(vI (z.1:Int)))]) (fun z=>[]) (fun _=>rfl) (fun _=>rfl) (fun z=>(fU r i).length-z.1) ⟨0,G⟩ (aQ U) (aK [1,2,3,4,5,6,7,8,9,10,11,12,13,14,15]) ?_
   clear G
   rintro ⟨q,BM⟩ J70 AJ
   try dsimp only
   refine WS fun _ A8=>rP 1 [] I ?_
   refine RK A8<|al fun _ A9=>bR U (aR fun P=>?_) (aS fun P=>?_)
   ·refine bB<|ae<|ae<|ax<|KK A6<|WS fun _ BA=>bg 5 U<|rS (SX (xQ U U wN (by exact aG 14 U)) U U)<|rP 3 [] I ?_
    refine RK BA<|ar<|Q1 hQ U U U ?_
    first|rfl|exact cB (fO (by rw [oS (by rw [AF P]; decide)]; rfl))|exact cB (fO (by rw [o]; have h_:=AA.1; omega))
   refine WK A9<|al fun _ AT=>aw<|WS fun _ A_=>rP 1 [] I ?_
   obtain ⟨u,hu⟩:=aO (fU r i) q om
   have Bk:=bP iC hu
   refine rS (IA q U (ak (n:=(fU r i).length) 1 U sm) cy dc om om)<|rS (gF q 0 (vI u) U cq (ak (n:=(fU r i).length) 1 U sm) Bk U dc U)<|bg 2 U<|RK A_<|WS fun _ AU=>bg 2 U<|rS (SX (jR (kV:=iV) (x:=u) (l:=c0) (f:=Value.bool) (z:=false) U U U wN (dB od) Vt (by exact aG 14 U)) U U)<|rP 2 [] I ?_
   refine db (t:=168) U (fun T=>?_) (fun T=>?_)
   ·rw [Bool.not_eq_true'] at T
    exfalso; have e_:=AA.2 u (by rw [← o]; exact aX hu); rw [e_] at T; simp at T
   rw [Bool.not_eq_false'] at T
   refine rP 3 [] I ?_
   refine cb (t:=171) U (aR fun Ad=>?_) (aS fun Ad=>?_)
   ·refine bg 9 U<|RK AU<|aV U<|bY<|aD<|KK AT<|an<|rP 2 [] I ?_
    refine aH ?_
    have BJ:(vI (((q+1):Nat):Int))=(vI ((q:Int)+1)):=by exact cI om
    refine aT (AJ ⟨(q+1),(by first|omega|(simp only []; omega))⟩ _ _ _ U os (cN 6<|bk U BJ<|dx.nil _) (aK [0,1,2,3,4,5,6,7,8,9,10,11,12,13,14]))
   refine rP 4 [] I ?_
   obtain ⟨v,hv⟩:=aO (fU r i) (q-1) om
   have Bl:=bP iC hv
   refine rS (IA (q-1) U (ak (n:=(fU r i).length) 1 U sm) cy dc om om)<|rS (gF (q-1) 0 (vI v) U cq (ak (n:=(fU r i).length) 1 U sm) Bl U dc U)<|rP 3 [] I ?_
   refine RK AU<|cM U (aS fun Ae=>?_) (aR fun Ae=>?_)
   ·exfalso; have h_:=Pn (by rw [o]; exact CM) hu hv om; omega
   refine bY<|aD<|KK AT<|an<|rP 2 [] I ?_
   refine aH ?_
   have BH:(vI (((q+1):Nat):Int))=(vI ((q:Int)+1)):=by exact cI om
   refine aT (AJ ⟨(q+1),(by first|omega|(simp only []; omega))⟩ _ _ _ U os (cN 6<|bk U BH<|dx.nil _) (aK [0,1,2,3,4,5,6,7,8,9,10,11,12,13,14]))
  refine WK Au<|al fun _ e=>aw<|WS fun _ Av=>?_
  obtain ⟨n,V⟩:=aO ys j om
  have hn0m:=bP iC V
  refine rS (IA j U (ak (n:=ys.length) 14 U sm) cy dc om om)<|rS (gF j 0 (vI n) U cq (ak (n:=ys.length) 14 U sm) hn0m U dc U)<|bg 1 U<|RK Av<|al fun _ Aw=>WS fun _ AN=>rP 5 [] (mc 0 U I) ?_
  refine db (t:=113) U (aS fun Aa=>?_) (aR fun Aa=>?_)
  ·refine bg 5 U<|RK AN<|aP U<|bB<|ae<|ax<|KK e<|an<|rP 2 [] I ?_
   refine aH ?_
   have BE:(vI (((j+1):Nat):Int))=(vI ((j:Int)+1)):=by exact cI om
   refine aT (d ⟨((j+1),c0),⟨om,by first|exact AE J V om|exact uN (x:=x) (by rw [show (gD (aB r) i n:Int)+1=s by omega]; exact N) V om om⟩⟩ _ _ _ U os (cN 10<|bk U BE<|dx.nil _) (aK [0,1,2,3,4,5,6,7,8,9,10,11,12,13,14,15]))
  refine rP 5 [] (mc 0 U I) ?_
  refine RK AN<|cM U (aS fun Ab=>?_) (aR fun Ab=>?_)
  ·refine bB<|ae<|ax<|KK e<|an<|rP 2 [] I ?_
   refine aH ?_
   have BF:(vI (((j+1):Nat):Int))=(vI ((j:Int)+1)):=by exact cI om
   refine aT (d ⟨((j+1),c0),⟨om,by first|exact AE J V om|exact uN (x:=x) (by rw [show (gD (aB r) i n:Int)+1=s by omega]; exact N) V om om⟩⟩ _ _ _ U os (cN 10<|bk U BF<|dx.nil _) (aK [0,1,2,3,4,5,6,7,8,9,10,11,12,13,14,15]))
  refine WK Aw<|WS fun _ Ax=>bg 2 U<|RK Ax<|al fun _ Ay=>WS fun _ Az=>rP 1 [] I ?_
  refine iI (kV:=iV) (m:=bM df (aB r)) 1 U U lF U ⟨U,fun h=>h⟩ (by exact jG 1 U) U fun Bo=>?_
  try dsimp only
  refine RK Az<|aw ?_
  have G:((1:Int)+(gD (aB r) i n:Int)=1+(gD (aB r) i n:Int))∧((1:Int)+(jt (aB r) i n:Int)=1+(jt (aB r) i n:Int))∧(∀ p∈(aB r),p∈aB r)∧(1≤(1:Int)∧1≤(1:Int)):=by exact ⟨rfl,rfl,fun p hp=>hp,om⟩
  refine bO (ι:={z:gp×Int×Int // (z.2.1+(gD z.1 i n:Int)=1+(gD (aB r) i n:Int))∧(z.2.2+(jt z.1 i n:Int)=1+(jt (aB r) i n:Int))∧(∀ p∈z.1,p∈aB r)∧(1≤z.2.1∧1≤z.2.2)}) [2,5,6,7,9,11,13,16,18,103,104,105,120] [1,2,3,4,5,6,7,8,9,10,11,12,13,14,15,16] U U (fun z=>[(19,(vI z.1.2.1)),(20,(vI z.1.2.2))]) (fun z=>[(yd iV Bo Y (bM df (aB r)) (bM df z.1.1) none)]) (fun _=>rfl) (fun _=>rfl) (fun z=>z.1.1.length) ⟨((aB r),(1:Int),(1:Int)),G⟩ (aQ U) (aK [1,2,3,4,5,6,7,8,9,10,11,12,13,14,15,16,0]) ?_
  clear G
  rintro ⟨⟨K,s,t⟩,⟨R,S,H,AD⟩⟩ J51 M
  try dsimp only at R S H AD
  try dsimp only
  have Bi:=vU (m:=aB r) (i:=i) (n:=n)
  have Bj:=Ap (m:=aB r) (i:=i) (n:=n)
  refine WS fun _ AO=>g8 (dB od).inj (f:=df) 16 U U U U (fun AH=>?_) (fun x2 y2 A B=>?_)
  ·refine bg 1 U<|RK AO<|al fun _ Br=>aV U<|bB<|ae<|ae<|ax<|KK Ay<|WS fun _ A0=>rP 2 [] I ?_
   refine RK A0<|aw ?_
   have G:(s≤s∧(s≤t+1∨s=s))∧(G_ (aB r) i ow (ys.take j) s s c0):=by exact ⟨⟨Int.le_refl _,.inr rfl⟩,DW J⟩
   refine bO (ι:={z:Int×ly // (s≤z.1∧(z.1≤t+1∨z.1=s))∧(G_ (aB r) i ow (ys.take j) s z.1 z.2)}) [2,5,6,7,9,11,13,16,18,19,20,103,104,105] [0,1,2,3,4,5,6,7,8,9,10,11,12,13,14,16] U U (fun z=>[(23,(vI z.1.1))]) (fun z=>[(gZ iV AV (bM vB z.1.2))]) (fun _=>rfl) (fun _=>rfl) (fun z=>(t+1-z.1.1).toNat) ⟨(s,c0),G⟩ (aQ U) (aK [0,1,2,3,4,5,6,7,8,9,10,11,12,13,14,16,15]) ?_
   clear G
   rintro ⟨⟨x,c2⟩,⟨X,N⟩⟩ J55 Ag
   try dsimp only at X N
   try dsimp only
   have Bi:=vU (m:=aB r) (i:=i) (n:=n)
   have Bj:=Ap (m:=aB r) (i:=i) (n:=n)
   have B8:s=1+(gD (aB r) i n:Int):=by rw [AH] at R; simp only [ub] at R; omega
   have B9:t=1+(jt (aB r) i n:Int):=by rw [AH] at S; simp only [xe] at S; omega
   refine al fun _ A1=>WS fun _ A2=>rP 3 [] I ?_
   refine RK A2<|bR U (aR fun Ac=>?_) (aS fun Ac=>?_)
   ·refine bB<|ae<|ae<|ax<|aD<|KK e<|an<|rP 2 [] I ?_
    refine aH ?_
    have BG:(vI (((j+1):Nat):Int))=(vI ((j:Int)+1)):=by exact cI om
    refine aT (d ⟨((j+1),c2),⟨om,by first|exact AE J V om|exact uN (x:=x) (by rw [show (gD (aB r) i n:Int)+1=s by omega]; exact N) V om om⟩⟩ _ _ _ U os (cN 10<|bk U BG<|dx.nil _) (aK [0,1,2,3,4,5,6,7,8,9,10,11,12,13,14,16]))
   refine WK A1<|al fun _ A3=>aw<|an<|bg 2 U<|iu (kV:=iV) (x:=x) (C':=[_,_,_,_,_,_,_,_,_,_,_,_,_,_,_,_,(gZ iV AV (bM vB (dK c2 x true)))]) 16 U U U U wN (dB od) U (gE _ _ _ _).symm U<|aH<|aD<|KK A3<|an<|rP 3 [] I ?_
   refine aH ?_
   refine aT (Ag ⟨((x+1),(dK c2 x true)),⟨om,Gi N X.1⟩⟩ _ _ _ U dso (aQ U) (aK [0,1,2,3,4,5,6,7,8,9,10,11,12,13,14,15,16]))
  try dsimp only
  refine bg 1 U<|RK AO<|al fun _ A4=>aP U<|WK A4<|aw<|WS fun _ A5=>rS (SX (g7 16 U U U) U U)<|bg 2 U<|AL U dg fun B0=>bg 1 U<|fR U cu U<|RK A5<|al fun _ g=>WS fun _ AP=>rP 4 [] I ?_
  refine cb (t:=129) U (bw fun D=>?_) (bx fun D=>?_)
  ·refine bg 5 U<|RK AP<|aV U<|WK g<|WS fun _ AS=>rP 4 [] I ?_
   refine cb (t:=140) U (bw fun C=>?_) (bx fun C=>?_)
   ·refine rP 5 [] I ?_
    refine RK AS<|aV U<|bY<|aD<|fm 17 U dA U ?_
    refine aT (M ⟨((cd K x2),s,t),(by refine ⟨?_,?_,dC H,?_⟩<;>dsimp only <;>first|contradiction|omega|(rw [← jw B A D]; omega)|(rw [← kl B A C]; omega)|(have:=iW B A D F; omega)|(have:=jQ B A D F; omega)|(have:=jX B A C E; omega)|(have:=k6 B A C E; omega))⟩ _ _ _ U (cW A) (aQ U) (aK [1,2,3,4,5,6,7,8,9,10,11,12,13,14,15,16,17]))
   refine rP 5 [] (mc 0 U I) ?_
   refine RK AS<|bR U (aR fun E=>?_) (aS fun E=>?_)
   ·refine bY<|aD<|fm 17 U dA U ?_
    refine aT (M ⟨((cd K x2),s,t),(by refine ⟨?_,?_,dC H,?_⟩<;>dsimp only <;>first|contradiction|omega|(rw [← jw B A D]; omega)|(rw [← kl B A C]; omega)|(have:=iW B A D F; omega)|(have:=jQ B A D F; omega)|(have:=jX B A C E; omega)|(have:=k6 B A C E; omega))⟩ _ _ _ U (cW A) (aQ U) (aK [1,2,3,4,5,6,7,8,9,10,11,12,13,14,15,16,17]))
   refine an<|rP 3 [] I ?_
   refine aH<|aD<|fm 17 U dA U ?_
   refine aT (M ⟨((cd K x2),s,(t+1)),(by refine ⟨?_,?_,dC H,?_⟩<;>dsimp only <;>first|contradiction|omega|(rw [← jw B A D]; omega)|(rw [← kl B A C]; omega)|(have:=iW B A D F; omega)|(have:=jQ B A D F; omega)|(have:=jX B A C E; omega)|(have:=k6 B A C E; omega))⟩ _ _ _ U (cW A) (aQ U) (aK [1,2,3,4,5,6,7,8,9,10,11,12,13,14,15,16,17]))
  refine rP 5 [] (mc 0 U I) ?_
  refine RK AP<|bR U (aR fun F=>?_) (aS fun F=>?_)
  ·refine WK g<|WS fun _ AR=>rP 4 [] I ?_
   refine cb (t:=140) U (bw fun C=>?_) (bx fun C=>?_)
   ·refine rP 5 [] I ?_
    refine RK AR<|aV U<|bY<|aD<|fm 17 U dA U ?_
    refine aT (M ⟨((cd K x2),s,t),(by refine ⟨?_,?_,dC H,?_⟩<;>dsimp only <;>first|contradiction|omega|(rw [← jw B A D]; omega)|(rw [← kl B A C]; omega)|(have:=iW B A D F; omega)|(have:=jQ B A D F; omega)|(have:=jX B A C E; omega)|(have:=k6 B A C E; omega))⟩ _ _ _ U (cW A) (aQ U) (aK [1,2,3,4,5,6,7,8,9,10,11,12,13,14,15,16,17]))
   refine rP 5 [] (mc 0 U I) ?_
   refine RK AR<|bR U (aR fun E=>?_) (aS fun E=>?_)
   ·refine bY<|aD<|fm 17 U dA U ?_
    refine aT (M ⟨((cd K x2),s,t),(by refine ⟨?_,?_,dC H,?_⟩<;>dsimp only <;>first|contradiction|omega|(rw [← jw B A D]; omega)|(rw [← kl B A C]; omega)|(have:=iW B A D F; omega)|(have:=jQ B A D F; omega)|(have:=jX B A C E; omega)|(have:=k6 B A C E; omega))⟩ _ _ _ U (cW A) (aQ U) (aK [1,2,3,4,5,6,7,8,9,10,11,12,13,14,15,16,17]))
   refine an<|rP 3 [] I ?_
   refine aH<|aD<|fm 17 U dA U ?_
   refine aT (M ⟨((cd K x2),s,(t+1)),(by refine ⟨?_,?_,dC H,?_⟩<;>dsimp only <;>first|contradiction|omega|(rw [← jw B A D]; omega)|(rw [← kl B A C]; omega)|(have:=iW B A D F; omega)|(have:=jQ B A D F; omega)|(have:=jX B A C E; omega)|(have:=k6 B A C E; omega))⟩ _ _ _ U (cW A) (aQ U) (aK [1,2,3,4,5,6,7,8,9,10,11,12,13,14,15,16,17]))
  refine an<|bg 3 U<|RK g<|WS fun _ AQ=>rP 4 [] I ?_
  refine cb (t:=140) U (bw fun C=>?_) (bx fun C=>?_)
  ·refine rP 5 [] I ?_
   refine RK AQ<|aV U<|bY<|aD<|fm 17 U dA U ?_
   refine aT (M ⟨((cd K x2),(s+1),t),(by refine ⟨?_,?_,dC H,?_⟩<;>dsimp only <;>first|contradiction|omega|(rw [← jw B A D]; omega)|(rw [← kl B A C]; omega)|(have:=iW B A D F; omega)|(have:=jQ B A D F; omega)|(have:=jX B A C E; omega)|(have:=k6 B A C E; omega))⟩ _ _ _ U (cW A) (aQ U) (aK [1,2,3,4,5,6,7,8,9,10,11,12,13,14,15,16,17]))
  refine rP 5 [] (mc 0 U I) ?_
  refine RK AQ<|bR U (aR fun E=>?_) (aS fun E=>?_)
  ·refine bY<|aD<|fm 17 U dA U ?_
   refine aT (M ⟨((cd K x2),(s+1),t),(by refine ⟨?_,?_,dC H,?_⟩<;>dsimp only <;>first|contradiction|omega|(rw [← jw B A D]; omega)|(rw [← kl B A C]; omega)|(have:=iW B A D F; omega)|(have:=jQ B A D F; omega)|(have:=jX B A C E; omega)|(have:=k6 B A C E; omega))⟩ _ _ _ U (cW A) (aQ U) (aK [1,2,3,4,5,6,7,8,9,10,11,12,13,14,15,16,17]))
  refine an<|rP 3 [] I ?_
  refine aH<|aD<|fm 17 U dA U ?_
  refine aT (M ⟨((cd K x2),(s+1),(t+1)),(by refine ⟨?_,?_,dC H,?_⟩<;>dsimp only <;>first|contradiction|omega|(rw [← jw B A D]; omega)|(rw [← kl B A C]; omega)|(have:=iW B A D F; omega)|(have:=jQ B A D F; omega)|(have:=jX B A C E; omega)|(have:=k6 B A C E; omega))⟩ _ _ _ U (cW A) (aQ U) (aK [1,2,3,4,5,6,7,8,9,10,11,12,13,14,15,16,17]))
 refine WS fun _ W=>bg 6 U<|rS (BI U (P2 Uq))<|rP 2 [] I ?_
 refine db (t:=64) U (fun Z=>?_) (fun Z=>?_)
 ·rw [Bool.not_eq_true'] at Z
  exfalso; rw [Bh] at Z; simp at Z
 rw [Bool.not_eq_false'] at Z
 refine rP 3 [] I ?_
 refine cb (t:=67) U (fun w=>?_) (fun w=>?_)
 ·rw [Bool.not_eq_false'] at w
  refine rP 4 [] I ?_
  refine RK W<|aV U<|bY ?_
  refine aT (jg (aQ U) (aK [0,1,2,3,4,5,6,7,8,9,10,11,12]) (AK ⟨0,trivial⟩))
 rw [Bool.not_eq_true'] at w
 refine rP 4 [] I ?_
 refine RK W<|cM U (bx fun Af=>?_) (bw fun Af=>?_)
 ·exact absurd (AF w) Af
 refine bY ?_
 refine aT (jg (aQ U) (aK [0,1,2,3,4,5,6,7,8,9,10,11,12]) (AK ⟨0,trivial⟩))
end
section
open Go.RowKit
def iE {α:Type} (cells:α→List Value) (sz:Nat) (R:World→α→Prop) (w:World) (s:aM):Prop:= ∃ l:List α,s.n=l.length∧(rd s.a l.length sz (l.map cells)).holds w∧(∀ x∈l,R w x)∧l.length≤maxLen∧s.n≤s.c
theorem uZ {w:World} {R:World→cG→Prop}: ∀ {l:List dv},(∀ x∈l,iE cG.cells 3 R w x.bu)→ ∃ (ms:List au) (az:List RA),l.map dv.cells=List.zipWith au.cells ms az∧ms.length=l.length∧az.length=l.length∧(∀ X∈aU au.gY ms az,X.holds w)∧
 (∀ (k:Nat) m (a:RA),ms[k]? =some m→az[k]? =some a→m.bu.length≤a.2∧m.bu.length≤9223372036854775807)∧ms.map (fun m=>m.dj)=l.map (fun x=>x.dj)∧ ∀ (k:Nat) m y,ms[k]? =some m→y∈m.bu→R w y
 |[],_=>⟨[],[],rfl,rfl,rfl,(fun X hX=>by cases hX),(fun k m a h=>by simp at h),rfl,(fun k m y h=>by simp at h)⟩
 |x::l,h=>by
  obtain ⟨ms,az,E,F,G,H,AA,J,K⟩:=uZ (fun y hy=>h y (cS _ hy))
  obtain ⟨sy,A,B,C,D,L⟩:=h x sm
  have e4':sy.length≤9223372036854775807:=D
  refine ⟨⟨x.dj,sy⟩::ms,(x.bu.a,x.bu.c)::az,?_,by simp [F],by simp [G],fun X hX=>?_,fun k m a hm ha=>?_,by simp [J],fun k m y hm hy=>?_⟩
  ·obtain ⟨dr,⟨a,n,c⟩⟩:=x
   simp only at A
   subst A
   simp only [List.map_cons,List.zipWith_cons_cons,E]
   rfl
  ·rcases List.mem_append.1 hX with hX|hX
   ·simp only [au.gY,bW] at hX
    subst hX; exact B
   ·exact H X hX
  ·cases k with
   |zero=>
    simp only [List.getElem?_cons_zero,Option.some.injEq] at hm ha
    subst hm ha
    exact ⟨by simp only; omega,e4'⟩
   |succ k=>exact AA k m a (by simpa using hm) (by simpa using ha)
  ·cases k with
   |zero=>
    simp only [List.getElem?_cons_zero,Option.some.injEq] at hm
    subst hm
    exact C y hy
   |succ k=>exact K k m y (by simpa using hm) hy
theorem HH {w:World} {s:bK} {R1:World→ao→Prop} {R2:World→dv→Prop} {R3:World→bE→Prop} {R4:World→cG→Prop} (h1:iE ao.cells 9 R1 w s.aJ.kS) (hs: ∀ x,R1 w x→0≤x.iZ∧x.iZ≤255) (h2:iE dv.cells 2 R2 w s.ai) (hc: ∀ x,R2 w x→iE cG.cells 3 R4 w x.bu) (h3:iE bE.cells 4 R3 w s.ag):
 ∃ (l:bf) (az:List RA) (kA:OA) (kC:Nat) (cA:OA) (cC:Nat) (bA:OA) (bC:Nat),s=bK.mk (aZ.mk (aM.mk kA l.aJ.length kC)) l.dM (aM.mk cA l.ai.length cC) (aM.mk bA l.ag.length bC) l.bH l.cv l.bL∧s8 l az∧
  ((rd kA l.aJ.length 9 (l.aJ.map ao.cells)).holds w∧(rd cA l.ai.length 2 (List.zipWith au.cells l.ai az)).holds w∧(e7 (aU au.gY l.ai az)).holds w∧(rd bA l.ag.length 4 (l.ag.map bE.cells)).holds w)∧l.dM=s.dM∧l.bH=s.bH∧l.cv=s.cv∧l.bL=s.bL:=by
 obtain ⟨⟨⟨ka,kn,kc⟩⟩,fa,⟨ca,cn,cc⟩,⟨ba,bn,bc⟩,fi,fk,mi⟩:=s
 obtain ⟨ts,E,M,N,O,T⟩:=h1
 obtain ⟨cs,B,C,H,AA,R⟩:=h2
 obtain ⟨bs,A,F,P,G,Q⟩:=h3
 simp only at E B A
 subst E B A
 obtain ⟨ms,az,J,D,S,K,L,_⟩:=uZ (fun x hx=>hc x (H x hx))
 have t4':ts.length≤9223372036854775807:=O
 have c4':cs.length≤9223372036854775807:=AA
 have b4':bs.length≤9223372036854775807:=G
 refine ⟨⟨ts,fa,ms,bs,fi,fk,mi⟩,az,ka,kc,ca,cc,ba,bc,by simp only [D],⟨t4',fun x hx=>hs x (N x hx),by simp only; omega,by simp only; omega,b4',L⟩,⟨M,?_,K,F⟩,U,U,U,U⟩
 simp only at C ⊢
 rw [D,← J]; exact C
end
section
open Go.RowKit
theorem xI {w:World} {R:World→aN→Prop}: ∀ {l:List br},(∀ x∈l,iE aN.cells 2 R w x.cx.aj)→ ∃ (ms:List aA) (az:List RA),l.map br.cells=List.zipWith aA.cells ms az∧ms.length=l.length∧az.length=l.length∧(∀ X∈aU aA.gY ms az,X.holds w)∧
 ∀ d∈ms,d.cx.aj.length≤9223372036854775807
 |[],_=>⟨[],[],rfl,rfl,rfl,(fun X hX=>by cases hX),fun d h=>by cases h⟩
 |x::l,h=>by
  obtain ⟨ms,az,D,E,F,G,H⟩:=xI (fun y hy=>h y (cS _ hy))
  obtain ⟨sg,A,B,AA,C,J⟩:=h x sm
  have e4':sg.length≤9223372036854775807:=C
  refine ⟨⟨x.Out,x.eO,x.Time,⟨x.cx.Start,x.cx.gh,sg⟩⟩::ms,(x.cx.aj.a,x.cx.aj.c)::az,?_,by simp [E],by simp [F],fun X hX=>?_,fun d hd=>?_⟩
  ·obtain ⟨o,f,t,⟨st,nw,⟨a,n,c⟩⟩⟩:=x
   simp only at A
   subst A
   simp only [List.map_cons,List.zipWith_cons_cons,D]
   rfl
  ·rcases List.mem_append.1 hX with hX|hX
   ·simp only [aA.gY,bW] at hX
    subst hX; exact B
   ·exact G X hX
  ·rcases List.mem_cons.1 hd with rfl|hd
   ·exact e4'
   ·exact H d hd
theorem xg {w:World} {R2:World→br→Prop} {R:World→aN→Prop} (hc: ∀ x,R2 w x→iE aN.cells 2 R w x.cx.aj): ∀ {l:List aM},(∀ x∈l,iE br.cells 7 R2 w x)→ ∃ (ms:List (List aA)) (ha:List cQ),(l.map fun s=>[vS s.a s.n s.c])=List.zipWith cz ms ha∧ms.length=l.length∧ha.length=l.length∧(∀ X∈aU hU ms ha,X.holds w)∧
 ∀ (k:Nat) h (a:cQ),ms[k]? =some h→ha[k]? =some a→h.length≤9223372036854775807∧a.2.length=h.length∧ ∀ d∈h,d.cx.aj.length≤9223372036854775807
 |[],_=>⟨[],[],rfl,rfl,rfl,(fun X hX=>by cases hX),(fun k h a q=>by simp at q)⟩
 |x::l,h=>by
  obtain ⟨ms,ha,J,K,L,M,N⟩:=xg hc (fun y hy=>h y (cS _ hy))
  obtain ⟨ds,C,G,H,AA,P⟩:=h x sm
  obtain ⟨dm,az,D,B,O,E,F⟩:=xI fun y hy=>hc y (H y hy)
  have e4':ds.length≤9223372036854775807:=AA
  refine ⟨dm::ms,((x.a,x.c),az)::ha,?_,by simp [K],by simp [L],fun X hX=>?_,fun k m a hm A=>?_⟩
  ·obtain ⟨a,n,c⟩:=x
   simp only at C
   subst C
   simp only [List.map_cons,List.zipWith_cons_cons,J,cz,B]
  ·rcases List.mem_append.1 hX with hX|hX
   ·unfold hU at hX
    rcases List.mem_cons.1 hX with rfl|hX
    ·simp only
     rw [B,← D]; exact G
    ·exact E X hX
   ·exact M X hX
  ·cases k with
   |zero=>
    simp only [List.getElem?_cons_zero,Option.some.injEq] at hm A
    subst hm A
    exact ⟨om,by simp only; omega,F⟩
   |succ k=>exact N k m a (by simpa using hm) (by simpa using A)
theorem Hy {w:World} {s:bq} {R1:World→ao→Prop} {R2:World→dv→Prop} {R3:World→bE→Prop} {R4:World→cG→Prop} {R5:World→Int→Prop} {R6:World→aM→Prop} {R7:World→br→Prop} {R8:World→aN→Prop}
 (h1:iE ao.cells 9 R1 w s.ah.aJ.kS) (hs: ∀ x,R1 w x→0≤x.iZ∧x.iZ≤255) (h2:iE dv.cells 2 R2 w s.ah.ai) (hc: ∀ x,R2 w x→iE cG.cells 3 R4 w x.bu) (h3:iE bE.cells 4 R3 w s.ah.ag)
 (h4:iE iC 1 R5 w s.aI) (h5:iE iC 1 R5 w s.bD) (h6:iE (fun s=>[vS s.a s.n s.c]) 1 R6 w s.aq) (h7: ∀ x,R6 w x→iE br.cells 7 R7 w x) (h8: ∀ x,R7 w x→iE aN.cells 2 R8 w x.cx.aj):
 ∃ (r:cf) (az:List RA) (ha:List cQ) (kA:OA) (kC:Nat) (cA:OA) (cC:Nat) (bA:OA) (bC:Nat) (slA:OA) (slC:Nat) (drA:OA) (drC:Nat) (heA:OA) (heC:Nat),
  s=bq.mk (bK.mk (aZ.mk (aM.mk kA r.ah.aJ.length kC)) r.ah.dM (aM.mk cA r.ah.ai.length cC) (aM.mk bA r.ah.ag.length bC) r.ah.bH r.ah.cv r.ah.bL) (aM.mk slA r.aI.length slC) (aM.mk drA r.bD.length drC) r.ed (aM.mk heA r.aq.length heC)∧qJ r az ha∧
  ((rd kA r.ah.aJ.length 9 (r.ah.aJ.map ao.cells)).holds w∧(rd cA r.ah.ai.length 2 (List.zipWith au.cells r.ah.ai az)).holds w∧(e7 (aU au.gY r.ah.ai az)).holds w∧(rd bA r.ah.ag.length 4 (r.ah.ag.map bE.cells)).holds w∧
   (rd slA r.aI.length 1 (r.aI.map iC)).holds w∧(rd drA r.bD.length 1 (r.bD.map iC)).holds w∧(rd heA r.aq.length 1 (List.zipWith cz r.aq ha)).holds w∧(e7 (aU hU r.aq ha)).holds w):=by
 obtain ⟨ln,⟨sa,sn,sc⟩,⟨da,dn,dc⟩,tu,⟨ea,en,ec⟩⟩:=s
 obtain ⟨l,az,kA,kC,cA,cC,bA,bC,e,A,hh,_⟩:=HH (s:=ln) h1 hs h2 hc h3
 subst e
 obtain ⟨sl,F,N,T,O,AA⟩:=h4
 obtain ⟨dr,B,G,P,H,Q⟩:=h5
 obtain ⟨he,D,E,L,M,S⟩:=h6
 obtain ⟨ms,ha,AB,C,R,J,K⟩:=xg h8 (fun x hx=>h7 x (L x hx))
 simp only at F B D
 subst F B D
 have s4':sl.length≤9223372036854775807:=O
 have d4':dr.length≤9223372036854775807:=H
 have q4':he.length≤9223372036854775807:=M
 refine ⟨⟨l,sl,dr,tu,ms⟩,az,ha,kA,kC,cA,cC,bA,bC,sa,sc,da,dc,ea,ec,by simp only [C],⟨A,s4',d4',by simp only; omega,by simp only; omega,K⟩,hh.1,hh.2.1,hh.2.2.1,hh.2.2.2,N,G,?_,J⟩
 simp only at E ⊢
 rw [C,← AB]; exact E
end
section
open Go.ChangeShapes Go.WideShapes Go.ChangeAt Go.RowKit
theorem U_:Tryz.prog.cellsOf 32=11:=by kernel_rfl
theorem Rd:Tryz.prog.cellsOf 28=7:=by kernel_rfl
theorem Th:Tryz.prog.cellsOf 24=1:=by kernel_rfl
theorem Un:Tryz.prog.cellsOf 22=1:=by kernel_rfl
theorem Ow:Tryz.prog.cellsOf 122=9:=by kernel_rfl
theorem AQ:Tryz.prog.cellsOf 3=1:=by kernel_rfl
def zz (w:World) (n:Int):Prop:=qi n
theorem AR:sG Tryz.prog 3 Int iC zz:=PL od
theorem ED:Tryz.prog.cellsOf 38=2:=by kernel_rfl
structure D1 (w:World) (s:aa):Prop where
 Lo:zz w s.Lo
 Hi:zz w s.Hi
theorem UY:fL Tryz.prog 38=some [(3,0),(3,1)]:=by kernel_rfl
theorem HV:sG Tryz.prog 38 aa aa.cells D1:=fun {H} enc w base sp A fuel cs x h=>by
 obtain ⟨hl,hp⟩:=js UY h
 obtain ⟨M,O,F⟩:=hp 0 3 0 rfl
 obtain ⟨K,B,AA⟩:=AR _ _ _ _ _ _ _ _ F
 obtain ⟨N,P,G⟩:=hp 1 3 1 rfl
 obtain ⟨L,C,J⟩:=AR _ _ _ _ _ _ _ _ G
 refine ⟨⟨K,L⟩,?_,⟨AA,J⟩⟩
 have E:=gU (hl.trans ED) (by rw [AQ]) C
 have D:=dq B (m:=1) (by rw [AQ]) E
 exact D
theorem Vr:Tryz.prog.cellsOf 5=1:=by kernel_rfl
def Vj (w:World) (n:Int):Prop:=0≤n∧n≤255
theorem Vl:sG Tryz.prog 5 Int K2 Vj:=Sb QJ
structure KY (w:World) (s:ao):Prop where
 Id:zz w s.Id
 km:D1 w s.km
 lx:D1 w s.lx
 eL:D1 w s.eL
 iZ:Vj w s.iZ
 zH:zz w s.zH
theorem QT:fL Tryz.prog 122=some [(3,0),(38,1),(38,3),(38,5),(5,7),(3,8)]:=by kernel_rfl
theorem Rr:sG Tryz.prog 122 ao ao.cells KY:=fun {H} enc w base sp A fuel cs x h=>by
 obtain ⟨hl,hp⟩:=js QT h
 obtain ⟨g,o,O⟩:=hp 0 3 0 rfl
 obtain ⟨a,B,AA⟩:=AR _ _ _ _ _ _ _ _ O
 obtain ⟨i,p,P⟩:=hp 1 38 1 rfl
 obtain ⟨b,C,V⟩:=HV _ _ _ _ _ _ _ _ P
 obtain ⟨j,q,Q⟩:=hp 2 38 3 rfl
 obtain ⟨c,D,W⟩:=HV _ _ _ _ _ _ _ _ Q
 obtain ⟨k,r,R⟩:=hp 3 38 5 rfl
 obtain ⟨d,E,X⟩:=HV _ _ _ _ _ _ _ _ R
 obtain ⟨l,s,S⟩:=hp 4 5 7 rfl
 obtain ⟨e,F,Y⟩:=Vl _ _ _ _ _ _ _ _ S
 obtain ⟨n,t,T⟩:=hp 5 3 8 rfl
 obtain ⟨f,G,Z⟩:=AR _ _ _ _ _ _ _ _ T
 refine ⟨⟨a,b,c,d,e,f⟩,?_,⟨AA,V,W,X,Y,Z⟩⟩
 have N:=gU (hl.trans Ow) (by rw [AQ]) G
 have M:=dq F (m:=8) (by rw [Vr]) N
 have L:=dq E (m:=7) (by rw [ED]) M
 have K:=dq D (m:=5) (by rw [ED]) L
 have J:=dq C (m:=3) (by rw [ED]) K
 have AB:=dq B (m:=1) (by rw [AQ]) J
 exact AB
def Ro (w:World) (s:aM):Prop:= ∃ l:List ao,s.n=l.length∧(rd s.a l.length 9 (l.map ao.cells)).holds w∧(∀ x∈l,KY w x)∧l.length≤maxLen∧s.n≤s.c
theorem Uc:sG Tryz.prog 22 aM (fun s=>[vS s.a s.n s.c]) Ro:=mm Qv Ow Rr
structure Td (w:World) (s:aZ):Prop where
 kS:Ro w s.kS
theorem TV:fL Tryz.prog 24=some [(22,0)]:=by kernel_rfl
theorem U0:sG Tryz.prog 24 aZ aZ.cells Td:=fun {H} enc w base sp A fuel cs x h=>by
 obtain ⟨hl,hp⟩:=js TV h
 obtain ⟨G,AA,D⟩:=hp 0 22 0 rfl
 obtain ⟨F,B,E⟩:=Uc _ _ _ _ _ _ _ _ D
 refine ⟨⟨F⟩,?_,⟨E⟩⟩
 have C:=gU (hl.trans Th) (by rw [Un]) B
 exact C
theorem TW:Tryz.prog.cellsOf 25=1:=by kernel_rfl
theorem O3:Tryz.prog.cellsOf 127=2:=by kernel_rfl
theorem RI:Tryz.prog.cellsOf 125=1:=by kernel_rfl
theorem OY:Tryz.prog.cellsOf 124=3:=by kernel_rfl
structure Ip (w:World) (s:cG):Prop where
 At:zz w s.At
 eC:D1 w s.eC
theorem Tm:fL Tryz.prog 124=some [(3,0),(38,1)]:=by kernel_rfl
theorem Sc:sG Tryz.prog 124 cG cG.cells Ip:=fun {H} enc w base sp A fuel cs x h=>by
 obtain ⟨hl,hp⟩:=js Tm h
 obtain ⟨M,O,F⟩:=hp 0 3 0 rfl
 obtain ⟨K,B,AA⟩:=AR _ _ _ _ _ _ _ _ F
 obtain ⟨N,P,G⟩:=hp 1 38 1 rfl
 obtain ⟨L,C,J⟩:=HV _ _ _ _ _ _ _ _ G
 refine ⟨⟨K,L⟩,?_,⟨AA,J⟩⟩
 have E:=gU (hl.trans OY) (by rw [ED]) C
 have D:=dq B (m:=1) (by rw [AQ]) E
 exact D
def On (w:World) (s:aM):Prop:= ∃ l:List cG,s.n=l.length∧(rd s.a l.length 3 (l.map cG.cells)).holds w∧(∀ x∈l,Ip w x)∧l.length≤maxLen∧s.n≤s.c
theorem Sh:sG Tryz.prog 125 aM (fun s=>[vS s.a s.n s.c]) On:=mm OZ OY Sc
structure Ix (w:World) (s:dv):Prop where
 dj:zz w s.dj
 bu:On w s.bu
theorem Tn:fL Tryz.prog 127=some [(3,0),(125,1)]:=by kernel_rfl
theorem Tl:sG Tryz.prog 127 dv dv.cells Ix:=fun {H} enc w base sp A fuel cs x h=>by
 obtain ⟨hl,hp⟩:=js Tn h
 obtain ⟨M,O,F⟩:=hp 0 3 0 rfl
 obtain ⟨K,B,AA⟩:=AR _ _ _ _ _ _ _ _ F
 obtain ⟨N,P,G⟩:=hp 1 125 1 rfl
 obtain ⟨L,C,J⟩:=Sh _ _ _ _ _ _ _ _ G
 refine ⟨⟨K,L⟩,?_,⟨AA,J⟩⟩
 have E:=gU (hl.trans O3) (by rw [RI]) C
 have D:=dq B (m:=1) (by rw [AQ]) E
 exact D
def S7 (w:World) (s:aM):Prop:= ∃ l:List dv,s.n=l.length∧(rd s.a l.length 2 (l.map dv.cells)).holds w∧(∀ x∈l,Ix w x)∧l.length≤maxLen∧s.n≤s.c
theorem Va:sG Tryz.prog 25 aM (fun s=>[vS s.a s.n s.c]) S7:=mm SM O3 Tl
theorem UW:Tryz.prog.cellsOf 26=1:=by kernel_rfl
theorem Oz:Tryz.prog.cellsOf 129=4:=by kernel_rfl
theorem Oq:Tryz.prog.cellsOf 119=3:=by kernel_rfl
structure O2 (w:World) (s:cJ):Prop where
 a_:zz w s.a_
 mA:D1 w s.mA
theorem RV:fL Tryz.prog 119=some [(3,0),(38,1)]:=by kernel_rfl
theorem S9:sG Tryz.prog 119 cJ cJ.cells O2:=fun {H} enc w base sp A fuel cs x h=>by
 obtain ⟨hl,hp⟩:=js RV h
 obtain ⟨M,O,F⟩:=hp 0 3 0 rfl
 obtain ⟨K,B,AA⟩:=AR _ _ _ _ _ _ _ _ F
 obtain ⟨N,P,G⟩:=hp 1 38 1 rfl
 obtain ⟨L,C,J⟩:=HV _ _ _ _ _ _ _ _ G
 refine ⟨⟨K,L⟩,?_,⟨AA,J⟩⟩
 have E:=gU (hl.trans Oq) (by rw [ED]) C
 have D:=dq B (m:=1) (by rw [AQ]) E
 exact D
structure Jk (w:World) (s:bE):Prop where
 mF:O2 w s.mF
 jM:zz w s.jM
theorem Tf:fL Tryz.prog 129=some [(119,0),(3,3)]:=by kernel_rfl
theorem SK:sG Tryz.prog 129 bE bE.cells Jk:=fun {H} enc w base sp A fuel cs x h=>by
 obtain ⟨hl,hp⟩:=js Tf h
 obtain ⟨M,O,F⟩:=hp 0 119 0 rfl
 obtain ⟨K,B,AA⟩:=S9 _ _ _ _ _ _ _ _ F
 obtain ⟨N,P,G⟩:=hp 1 3 3 rfl
 obtain ⟨L,C,J⟩:=AR _ _ _ _ _ _ _ _ G
 refine ⟨⟨K,L⟩,?_,⟨AA,J⟩⟩
 have E:=gU (hl.trans Oz) (by rw [AQ]) C
 have D:=dq B (m:=3) (by rw [Oq]) E
 exact D
def Rv (w:World) (s:aM):Prop:= ∃ l:List bE,s.n=l.length∧(rd s.a l.length 4 (l.map bE.cells)).holds w∧(∀ x∈l,Jk w x)∧l.length≤maxLen∧s.n≤s.c
theorem TA:sG Tryz.prog 26 aM (fun s=>[vS s.a s.n s.c]) Rv:=mm PJ Oz SK
structure Se (w:World) (s:bK):Prop where
 aJ:Td w s.aJ
 dM:zz w s.dM
 ai:S7 w s.ai
 ag:Rv w s.ag
 bH:zz w s.bH
 cv:zz w s.cv
 bL:zz w s.bL
theorem UO:fL Tryz.prog 28=some [(24,0),(3,1),(25,2),(26,3),(3,4),(3,5),(3,6)]:=by kernel_rfl
theorem Um:sG Tryz.prog 28 bK bK.cells Se:=fun {H} enc w base sp A fuel cs x h=>by
 obtain ⟨hl,hp⟩:=js UO h
 obtain ⟨n,u,Q⟩:=hp 0 24 0 rfl
 obtain ⟨e,B,X⟩:=U0 _ _ _ _ _ _ _ _ Q
 obtain ⟨o,v,R⟩:=hp 1 3 1 rfl
 obtain ⟨f,C,Y⟩:=AR _ _ _ _ _ _ _ _ R
 obtain ⟨p,y,S⟩:=hp 2 25 2 rfl
 obtain ⟨g,D,Z⟩:=Va _ _ _ _ _ _ _ _ S
 obtain ⟨q,z,T⟩:=hp 3 26 3 rfl
 obtain ⟨i,E,a⟩:=TA _ _ _ _ _ _ _ _ T
 obtain ⟨r,y4,AA⟩:=hp 4 3 4 rfl
 obtain ⟨j,F,b⟩:=AR _ _ _ _ _ _ _ _ AA
 obtain ⟨s,y5,V⟩:=hp 5 3 5 rfl
 obtain ⟨k,G,c⟩:=AR _ _ _ _ _ _ _ _ V
 obtain ⟨t,y6,W⟩:=hp 6 3 6 rfl
 obtain ⟨l,AB,d⟩:=AR _ _ _ _ _ _ _ _ W
 refine ⟨⟨e,f,g,i,j,k,l⟩,?_,⟨X,Y,Z,a,b,c,d⟩⟩
 have P:=gU (hl.trans Rd) (by rw [AQ]) AB
 have O:=dq G (m:=6) (by rw [AQ]) P
 have N:=dq F (m:=5) (by rw [AQ]) O
 have M:=dq E (m:=4) (by rw [UW]) N
 have L:=dq D (m:=3) (by rw [TW]) M
 have K:=dq C (m:=2) (by rw [AQ]) L
 have J:=dq B (m:=1) (by rw [Th]) K
 exact J
theorem Ta:Tryz.prog.cellsOf 29=1:=by kernel_rfl
def P8 (w:World) (s:aM):Prop:= ∃ l:List Int,s.n=l.length∧(rd s.a l.length 1 (l.map iC)).holds w∧(∀ x∈l,zz w x)∧l.length≤maxLen∧s.n≤s.c
theorem Sv:sG Tryz.prog 29 aM (fun s=>[vS s.a s.n s.c]) P8:=mm Q7 AQ AR
theorem Up:Tryz.prog.cellsOf 30=1:=by kernel_rfl
theorem U6:Tryz.prog.cellsOf 47=1:=by kernel_rfl
theorem Rg:Tryz.prog.cellsOf 46=7:=by kernel_rfl
theorem Ve:Tryz.prog.cellsOf 4=1:=by kernel_rfl
def T_ (w:World) (n:Bool):Prop:=True
theorem Vh:sG Tryz.prog 4 Bool (fun b=>[vB b]) T_:=Mf Uq
theorem RY:Tryz.prog.cellsOf 44=3:=by kernel_rfl
theorem Us:Tryz.prog.cellsOf 42=1:=by kernel_rfl
theorem Oy:Tryz.prog.cellsOf 131=2:=by kernel_rfl
structure Lw (w:World) (s:aN):Prop where
 gj:zz w s.gj
 Read:zz w s.Read
theorem Sw:fL Tryz.prog 131=some [(3,0),(3,1)]:=by kernel_rfl
theorem RX:sG Tryz.prog 131 aN aN.cells Lw:=fun {H} enc w base sp A fuel cs x h=>by
 obtain ⟨hl,hp⟩:=js Sw h
 obtain ⟨M,O,F⟩:=hp 0 3 0 rfl
 obtain ⟨K,B,AA⟩:=AR _ _ _ _ _ _ _ _ F
 obtain ⟨N,P,G⟩:=hp 1 3 1 rfl
 obtain ⟨L,C,J⟩:=AR _ _ _ _ _ _ _ _ G
 refine ⟨⟨K,L⟩,?_,⟨AA,J⟩⟩
 have E:=gU (hl.trans Oy) (by rw [AQ]) C
 have D:=dq B (m:=1) (by rw [AQ]) E
 exact D
def Q8 (w:World) (s:aM):Prop:= ∃ l:List aN,s.n=l.length∧(rd s.a l.length 2 (l.map aN.cells)).holds w∧(∀ x∈l,Lw w x)∧l.length≤maxLen∧s.n≤s.c
theorem UG:sG Tryz.prog 42 aM (fun s=>[vS s.a s.n s.c]) Q8:=mm R_ Oy RX
structure RM (w:World) (s:eK):Prop where
 Start:zz w s.Start
 gh:zz w s.gh
 aj:Q8 w s.aj
theorem UH:fL Tryz.prog 44=some [(3,0),(3,1),(42,2)]:=by kernel_rfl
theorem Ud:sG Tryz.prog 44 eK eK.cells RM:=fun {H} enc w base sp A fuel cs x h=>by
 obtain ⟨hl,hp⟩:=js UH h
 obtain ⟨R,AA,AB⟩:=hp 0 3 0 rfl
 obtain ⟨O,B,L⟩:=AR _ _ _ _ _ _ _ _ AB
 obtain ⟨S,V,J⟩:=hp 1 3 1 rfl
 obtain ⟨P,C,M⟩:=AR _ _ _ _ _ _ _ _ J
 obtain ⟨T,W,K⟩:=hp 2 42 2 rfl
 obtain ⟨Q,D,N⟩:=UG _ _ _ _ _ _ _ _ K
 refine ⟨⟨O,P,Q⟩,?_,⟨L,M,N⟩⟩
 have G:=gU (hl.trans RY) (by rw [Us]) D
 have F:=dq C (m:=2) (by rw [AQ]) G
 have E:=dq B (m:=1) (by rw [AQ]) F
 exact E
structure Pd (w:World) (s:br):Prop where
 Out:T_ w s.Out
 eO:T_ w s.eO
 Time:D1 w s.Time
 cx:RM w s.cx
theorem TC:fL Tryz.prog 46=some [(4,0),(4,1),(38,2),(44,4)]:=by kernel_rfl
theorem TI:sG Tryz.prog 46 br br.cells Pd:=fun {H} enc w base sp A fuel cs x h=>by
 obtain ⟨hl,hp⟩:=js TC h
 obtain ⟨W,a,K⟩:=hp 0 4 0 rfl
 obtain ⟨S,B,O⟩:=Vh _ _ _ _ _ _ _ _ K
 obtain ⟨X,b,L⟩:=hp 1 4 1 rfl
 obtain ⟨T,C,P⟩:=Vh _ _ _ _ _ _ _ _ L
 obtain ⟨Y,c,M⟩:=hp 2 38 2 rfl
 obtain ⟨AA,D,Q⟩:=HV _ _ _ _ _ _ _ _ M
 obtain ⟨Z,d,N⟩:=hp 3 44 4 rfl
 obtain ⟨V,E,R⟩:=Ud _ _ _ _ _ _ _ _ N
 refine ⟨⟨S,T,AA,V⟩,?_,⟨O,P,Q,R⟩⟩
 have J:=gU (hl.trans Rg) (by rw [RY]) E
 have AB:=dq D (m:=4) (by rw [ED]) J
 have G:=dq C (m:=2) (by rw [Ve]) AB
 have F:=dq B (m:=1) (by rw [Ve]) G
 exact F
def PQ (w:World) (s:aM):Prop:= ∃ l:List br,s.n=l.length∧(rd s.a l.length 7 (l.map br.cells)).holds w∧(∀ x∈l,Pd w x)∧l.length≤maxLen∧s.n≤s.c
theorem US:sG Tryz.prog 47 aM (fun s=>[vS s.a s.n s.c]) PQ:=mm Sa Rg TI
def S3 (w:World) (s:aM):Prop:= ∃ l:List aM,s.n=l.length∧(rd s.a l.length 1 (l.map (fun s=>[vS s.a s.n s.c]))).holds w∧(∀ x∈l,PQ w x)∧l.length≤maxLen∧s.n≤s.c
theorem Uj:sG Tryz.prog 30 aM (fun s=>[vS s.a s.n s.c]) S3:=mm Rh U6 US
structure UQ (w:World) (s:bq):Prop where
 ah:Se w s.ah
 aI:P8 w s.aI
 bD:P8 w s.bD
 ed:zz w s.ed
 aq:S3 w s.aq
theorem SU:fL Tryz.prog 32=some [(28,0),(29,7),(29,8),(3,9),(30,10)]:=by kernel_rfl
theorem U5:sG Tryz.prog 32 bq bq.cells UQ:=fun {H} enc w base sp A fuel cs x h=>by
 obtain ⟨hl,hp⟩:=js SU h
 obtain ⟨b,g,M⟩:=hp 0 28 0 rfl
 obtain ⟨W,B,R⟩:=Um _ _ _ _ _ _ _ _ M
 obtain ⟨c,i,N⟩:=hp 1 29 7 rfl
 obtain ⟨X,C,S⟩:=Sv _ _ _ _ _ _ _ _ N
 obtain ⟨d,j,O⟩:=hp 2 29 8 rfl
 obtain ⟨Y,D,T⟩:=Sv _ _ _ _ _ _ _ _ O
 obtain ⟨e,k,P⟩:=hp 3 3 9 rfl
 obtain ⟨Z,E,AA⟩:=AR _ _ _ _ _ _ _ _ P
 obtain ⟨f,l,Q⟩:=hp 4 30 10 rfl
 obtain ⟨a,F,V⟩:=Uj _ _ _ _ _ _ _ _ Q
 refine ⟨⟨W,X,Y,Z,a⟩,?_,⟨R,S,T,AA,V⟩⟩
 have L:=gU (hl.trans U_) (by rw [Up]) F
 have K:=dq E (m:=10) (by rw [AQ]) L
 have J:=dq D (m:=9) (by rw [Ta]) K
 have AB:=dq C (m:=8) (by rw [Ta]) J
 have G:=dq B (m:=7) (by rw [Rd]) AB
 exact G
theorem vu:ownKnob Tryz.prog.godebug=none:=by kernel_rfl
theorem uf:laidOutB Tryz.prog=true:=by kernel_rfl
theorem rL (os:Os) (started:os.Started) (H:Type) (enc:TypeId×Value→H):
 ReturnsInHanded {} Tryz.checked os 4 .any (fun w args=>(Rows.raceReachedSpec.pre enc Tryz.prog Tryz.f4 [] false w args∧laidMetH Tryz.prog [("kreisel/race.table",Rows.laid_kreisel_race_table)] w)∧sizedMet enc Tryz.prog Tryz.f4 (OpenSpec.ofChange Rows.raceReachedSpec) false w args) (Rows.raceReachedSpec.post enc Tryz.prog Tryz.f4 false true false false):=by
 refine returnsInHanded_of_change_and (C:=Tryz.checked) (X:=(fun w _=>laidMetH Tryz.prog [("kreisel/race.table",Rows.laid_kreisel_race_table)] w)) (fun _ _ _ hh h=>h.of_heap hh) vu started kr Tryz.func4
  (ChangeSpec.witness_shaped (enc:=enc) (C:=Tryz.checked) (os:=os) (X:=(fun w _=>laidMetH Tryz.prog [("kreisel/race.table",Rows.laid_kreisel_race_table)] w)) false (World.doorLaid Tryz.prog 400 os) #[.agg #[(vS none 0 0),(vI 0),(vS none 0 0),(vS none 0 0),(vI 0),(vI 0),(vI 0),(vS none 0 0),(vS none 0 0),(vI 0),(vS none 0 0)],Value.int .u8 0] 8 rfl (World.shaped_of_RefB kr kr) kr kr kr (En os _)) ?_
 intro W base args ds gs before E hW _ _ hL _
 have D: ∀ (j:Nat) t v,Tryz.f4.params[j]? =some t→args[j]? =some v→Value.okWide Tryz.prog W .any base t v:=E
 have hW':=hW
 obtain ⟨p,q,K,hV,rfl,Y,Z⟩:=hW
 have hA:DataW.TrodAll enc Tryz.prog W 0 (fun _=>true) true Tryz.f4.params.toList args.toList ds p:=K
 have F:=hA
 rw [Tryz.params4] at hA D
 obtain ⟨Q,d,g,S,l,n,L,rfl,rfl,AA,a⟩:=trodAll_cons hA
 obtain ⟨R,f,i,T,m,o,rfl,rfl,rfl,V,b⟩:=trodAll_cons a
 obtain ⟨rfl,rfl,rfl⟩:=trodAll_nil b
 obtain rfl:args= #[Q,R]:=by cases args; simp_all
 obtain ⟨rfl,rfl⟩:=trodVars_none hV
 obtain ⟨s,rfl,R0⟩:=Ed SU U5 (D 0 32 Q rfl rfl) AA
 obtain ⟨c,rfl,R1⟩:=MB (k:= .u8) QJ (D 1 5 R rfl rfl) V
 simp only [List.append_nil] at hW' F
 have J:=yl hL
 obtain ⟨r,az,ha,kA,kC,cA,cC,bA,bC,O,P,drA,drC,M,N,rfl,G,B⟩:=Hy (R1:=KY) (R2:=Ix) (R3:=Jk) (R4:=Ip) (R5:=zz) (R6:=PQ) (R7:=Pd) (R8:=Lw) R0.ah.aJ.kS (fun x hx=>hx.iZ) R0.ah.ai (fun x hx=>hx.bu) R0.ah.ag R0.aI R0.bD R0.aq (fun x hx=>hx) (fun x hx=>hx.cx.aj)
 have AB:=(yj r kA kC az cA cC bA bC O P drA drC ha M N c G R1).run W (by intro A hA; simp only [eA,List.not_mem_nil,or_false] at hA; rcases hA with rfl|rfl|rfl|rfl|rfl|rfl|rfl|rfl|rfl; exact J; exact B.1; exact B.2.1; exact B.2.2.1; exact B.2.2.2.1; exact B.2.2.2.2.1; exact B.2.2.2.2.2.1; exact B.2.2.2.2.2.2.1; exact B.2.2.2.2.2.2.2)
 refine (AB).mono fun e W' ⟨he,hk⟩=>?_
 subst he
 exact ⟨_,U,Jd uf hW' F U U kr hk.below kr Uq⟩
theorem th:Rows.RaceReachedSaid:=
 OpenClaim.holds_of_wide 4 Tryz.f4 rfl rfl rfl rfl rfl rfl rfl ⟨rfl,rfl,rfl,rfl,rfl⟩ rfl rfl rfl rfl rfl kr Tryz.func4 sv
  (of_decide_eq_true kr) (by unfold Func.isWrapper; first|(rw [if_pos (by decide+kernel)]; kernel_rfl)|(rw [if_neg (by decide+kernel)]; exact ⟨rfl,rfl⟩))
  (fun os started H enc _=>rL os started H enc)
/-- the statement -/
theorem raceReached_said:Rows.RaceReachedCardSaid:=
 Claim7.holds_tied_plain_at .later [] [.funcsDeep] true (true,"d707d603fef6756814c027381744b2c541b0acfb8d070f8830a75e59a0686e6d") true
  th (fun _ h=>by cases h) kr (fun _ h=>by cases h) raceReached_row_tie rfl ⟨rfl,rfl⟩ kr rfl
  (fun f fn hf B=>by
   obtain rfl:f=4:=Option.some.inj ((show Tryz.prog.funcNamed "kreisel/kreisellaw06.RaceReached"=some 4 by kernel_rfl).symm.trans hf) |>.symm
   obtain rfl:fn=Tryz.f4:=(Option.some.inj (Tryz.func4.symm.trans B)).symm
   exact ⟨kr,fun j t ht=>by
    rw [Tryz.params4] at ht
    have hm:t∈([32,5]:List Nat):=by simpa using Array.mem_of_getElem? ht
    have A:(([32,5]:List Nat).all fun u=> !Tryz.prog.wantsStandIn u)=true:=by kernel_rfl
    exact (show Tryz.prog.wantsStandIn t=false by simpa using List.all_eq_true.1 A t hm)⟩)
  kr
#print axioms raceReached_said
end
end Go.Proofs.YtdllkkdchkhimaaGreatDoor
