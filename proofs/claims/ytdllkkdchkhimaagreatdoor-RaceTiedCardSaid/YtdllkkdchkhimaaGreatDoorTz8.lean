/-
 The statement raceTied_said, part 8 of 8: B9, WLe, Ends5, Can, False, Sim, Told, Clear, Ways, WayM, R1, Y1, Y2, Y3, Y5, Rr3, Rr4, Rr5, Rra, Ry1, Ry2, LineOpen, RaceOpen, Tied0.
 Conditions: none.
-/
import Derived.Test.YtdllkkdchkhimaaGreatDoorTz1
import Derived.Test.YtdllkkdchkhimaaGreatDoorTz2
import Derived.Test.YtdllkkdchkhimaaGreatDoorTz3
import Derived.Test.YtdllkkdchkhimaaGreatDoorTz4
import Derived.Test.YtdllkkdchkhimaaGreatDoorTz5
import Derived.Test.YtdllkkdchkhimaaGreatDoorTz6
import Derived.Test.YtdllkkdchkhimaaGreatDoorTz7
import Derived.Test.YtdllkkdchkhimaaGreatDoorCards
import Derived.Test.YtdllkkdchkhimaaGreatDoorTie
import Derived.SevenTiedAt
import Derived.LaidMore
import Derived.Stop.Joined
import Derived.Test.YtdllkkdchkhimaaGreatDoorRows
import Derived.Test.YtdllkkdchkhimaaGreatDoorProg
import Derived.KernelRfl
namespace Go.Proofs.YtdllkkdchkhimaaGreatDoor
set_option maxRecDepth 100000
set_option maxHeartbeats 4000000
set_option linter.unusedVariables false
section
open Go.RowKit
theorem CC (l:bf) (kA:OA) (kC:Nat) (az:List RA) (cA:OA) (cC:Nat) (bA:OA) (bC:Nat) (hin:eB l az):
 eg Tryz.prog 72 [(vA (bJ.cells (lh l kA kC cA cC bA bC)))] [(rd kA l.aI.length 9 (l.aI.map an.cells)),(rd cA l.ai.length 2 (List.zipWith au.cells l.ai az)),(e9 (aS au.gW l.ai az)),(rd bA l.ae.length 4 (l.ae.map bG.cells))] (vI (dx l)):=by
 have N:=hin.sf
 have M:=hin.sh
 have K:=hin.oq
 have L:=hin.se
 refine bI kr Tryz.func72 U U fun P Q hQ hN=>?_
 try dsimp only
 refine WS fun _ C=>fR U fun O=>bo 1 U<|RK C<|al fun _ D=>WS fun _ E=>bo 1 U<|rS (LP (aZ.cells (aZ.mk (aN.mk kA l.aI.length kC))) 0 U cd U U U)<|rS (CL (vD l.aI kA kC asm) (bp [1]) U)<|rP 1 [] I ?_
 refine RK E<|cO U (fun A=>?_) (fun A=>?_)
 ·rw [Bool.not_eq_true'] at A
  refine WS fun _ F=>rP 1 [] I ?_
  refine RK F<|aq<|Q1 hQ U U U ?_
  exact cI (zj (by simpa using A)).symm
 rw [Bool.not_eq_false'] at A
 refine WK D<|al fun _ G=>WS fun _ H=>fD 1 [] (mc 0 U I) U<|rS (CL (Mr l kA kC az cA cC bA bC hin asm) (bp [1,2,3,4]) U)<|rP 1 [] I ?_
 refine RK H<|cO U (bh fun B=>?_) (bg fun B=>?_)
 ·refine WS fun _ AA=>rP 1 [] I ?_
  refine RK AA<|aq<|Q1 hQ U U U ?_
  exact cI (ql A B).symm
 refine WK G<|WS fun _ J=>rP 1 [] I ?_
 refine RK J<|aq<|Q1 hQ U U U ?_
 exact cI (xJ A B).symm
theorem Nf (l:bf) (kA:OA) (kC:Nat) (az:List RA) (cA:OA) (cC:Nat) (bA:OA) (bC:Nat) (s:aO) (hin:eB l az) (hok:kS l) (hs:(0≤s.gh∧s.gh≤(l.ae.length:Int)-1)∧0≤s.Read∧s.Read≤86400000):
 eg Tryz.prog 169 [(vA (bJ.cells (lh l kA kC cA cC bA bC))),(vA (aO.cells s))] [(rd kA l.aI.length 9 (l.aI.map an.cells)),(rd cA l.ai.length 2 (List.zipWith au.cells l.ai az)),(e9 (aS au.gW l.ai az)),(rd bA l.ae.length 4 (l.ae.map bG.cells))] (vT [(vA (aa.cells (cK l s))),(vB (decide ((cK l s).Lo≤(cK l s).Hi)))]):=by
 have AE:=hin.sf
 have AD:=hin.sh
 have AB:=hin.oq
 have AC:=hin.se
 refine bI kr Tryz.func169 U U fun w0 Q hQ hN=>?_
 try dsimp only
 refine WS fun _ i=>fR U fun b2=>fR U fun b3=>AL U dg fun b4=>rP 1 [] I ?_
 refine RK i<|al fun _ j=>dL cy [11,12] [] [] [0,1,2,3,4,5,6] [] U U U U U<|eS U (FA 2 U fB U)<|eS U (L1 (vS cA l.ai.length cC) 2 U cd U U)<|eS U (FA 3 U fB U)<|eS U (L1 (vS bA l.ae.length bC) 2 U cd U U)<|eS U (FA 0 U fB U)<|eS U (L1 (vI s.gh) 1 U cd U U) ?_
 obtain ⟨y,hy⟩:=aM l.ae ((s.gh).toNat) om
 have w:=bL bG.cells hy
 refine eS U (IA ((s.gh).toNat) U (aD 6 U) vh dc om om)<|eS U (nH ((((s.gh).toNat)*4)+3) U (aD 6 U) (Nat.mul_pos om dc) fB U)<|eS U (fY ((s.gh).toNat) 3 (vI y.jF) U cd (aD 6 U) w U dc U) ?_
 have AF:=(hok.vi _ (aU hy)).2
 obtain ⟨x,hx⟩:=aM l.ai ((y.jF).toNat) om
 obtain ⟨xa,J⟩:=aM az ((y.jF).toNat) om
 have u:(List.zipWith au.cells l.ai az)[(y.jF).toNat]? =some (au.cells x xa):=dT hx J
 refine eS U (IA ((y.jF).toNat) U (aD 4 U) Ak dc om om)<|eS U (ot ((y.jF).toNat) 0 (du.cells (du.mk x.dh (aN.mk xa.1 x.bw.length xa.2))) U cd (aD 4 U) u U dc U U)<|e7 U<|cf U fun T6 m=>AL U H_ fun b7=>aG (m _ _ (aL [1,2,3,4,5,6,7]) ?_)
 refine cf U fun T8 o=>fQ U OZ U<|aG (o _ _ (aL [1,2,3,4,5,6,7]) ?_)
 refine fK U<|KK j<|WS fun _ k=>rP 2 [] I ?_
 refine RK k<|al fun _ K=>ay ?_
 have A:(0≤(0:Int)∧(0:Int)≤(fj (f_ x s.Read) 86400001))∧((fj (f_ x s.Read) 86400001)≤(86400001:Int)∧(86400001:Int)≤86400001):=by (have Z:=g_ (p:=f_ x s.Read) (n:=86400001); omega)
 refine bS (ι:={z:Int×Int // (0≤z.1∧z.1≤(fj (f_ x s.Read) 86400001))∧((fj (f_ x s.Read) 86400001)≤z.2∧z.2≤86400001)}) [2,3,4,6] [0,1,2,3,4,5,6,7] U U (fun z=>[(7,(vI z.1.1)),(8,(vI z.1.2))]) (fun z=>[]) (fun _=>rfl) (fun _=>rfl) (fun z=>(z.1.2-z.1.1).toNat) ⟨((0:Int),(86400001:Int)),A⟩ (aV U) (aL [0,1,2,3,4,5,6,7]) ?_
 clear A
 rintro ⟨⟨a,b⟩,⟨H,AG⟩⟩ J11 F
 try dsimp only at H AG
 try dsimp only
 have B:=hok.clock _ (aU hx)
 have Z:=g_ (p:=f_ x s.Read) (n:=86400001)
 have Y:=g_ (p:=fZ x s.Read) (n:=86400001)
 refine al fun _ L=>WS fun _ M=>rP 3 [] I ?_
 refine RK M<|cO U (aP fun c=>?_) (aR fun c=>?_)
 ·refine WK L<|ay<|WS fun _ N=>bo 3 U<|rS (BI U (si om om om))<|bo 1 U<|RK N<|al fun _ O=>dq cy 9 kr<|dP 3 [] (mc 0 U I) ?_
  refine dS (CL (Bc x xa.1 xa.2 ((a+b)/2) asm om) (aw (show iU _ (rd xa.1 x.bw.length 3 (x.bw.map cG.cells)).holds from (dy 6 U (b_ hx J (by simp [au.gW]))))<|aK) U)<|dS (SX (kK (v:=(vI ((hP x ((a+b)/2)).Hi))) U U fB zQ U) U U) ?_
  have t:=qk B (show 0≤(a+b)/2∧(a+b)/2≤90000000 by omega)
  refine dP 4 [] (mc 2 U I) ?_
  refine cL<|RK O<|cO U (aP fun g=>?_) (aR fun g=>?_)
  ·refine ao<|rP 2 [] I ?_
   refine aG<|aH ?_
   refine aW (F ⟨(a,((a+b)/2)),(by dsimp only; have hm:=kJ (r:=s.Read) B (x:=(a+b)/2) om om; rcases Int.lt_or_le ((a+b)/2) (fj (f_ x s.Read) 86400001) with q|q; (have C:=hm.1 q; simp only [f_,decide_eq_false_iff_not] at C; omega); (have C:=hm.2.1 q; simp only [f_,decide_eq_true_eq] at C; omega))⟩ _ _ _ rfl (by simp only []; omega) (aV rfl) (aL [0,1,2,3,4,5,6,7]))
  refine ao<|rP 3 [] I ?_
  refine aG<|aH ?_
  refine aW (F ⟨((((a+b)/2)+1),b),(by dsimp only; have hm:=kJ (r:=s.Read) B (x:=(a+b)/2) om om; rcases Int.lt_or_le ((a+b)/2) (fj (f_ x s.Read) 86400001) with q|q; (have C:=hm.1 q; simp only [f_,decide_eq_false_iff_not] at C; omega); (have C:=hm.2.1 q; simp only [f_,decide_eq_true_eq] at C; omega))⟩ _ _ _ rfl (by simp only []; omega) (aV rfl) (aL [0,1,2,3,4,5,6,7]))
 refine bE<|ag<|ag<|aA<|KK K<|WS fun _ P=>bo 2 U<|RK P<|WS fun _ R=>rP 2 [] I ?_
 refine RK R<|al fun _ S=>ay ?_
 have A:(-1≤((-1):Int)∧((-1):Int)≤(fj (fZ x s.Read) 86400001)-1)∧((fj (fZ x s.Read) 86400001)-1≤(86400000:Int)∧(86400000:Int)≤86400000):=by (have Y:=g_ (p:=fZ x s.Read) (n:=86400001); omega)
 refine bS (ι:={z:Int×Int // (-1≤z.1∧z.1≤(fj (fZ x s.Read) 86400001)-1)∧((fj (fZ x s.Read) 86400001)-1≤z.2∧z.2≤86400000)}) [2,3,4,6,10] [0,1,2,3,4,5,6,7] U U (fun z=>[(7,(vI z.1.1)),(8,(vI z.1.2))]) (fun z=>[]) (fun _=>rfl) (fun _=>rfl) (fun z=>(z.1.2-z.1.1).toNat) ⟨(((-1):Int),(86400000:Int)),A⟩ (aV U) (aL [0,1,2,3,4,5,6,7]) ?_
 clear A
 rintro ⟨⟨d,e⟩,⟨D,E⟩⟩ J20 G
 try dsimp only at D E
 try dsimp only
 have B:=hok.clock _ (aU hx)
 have Z:=g_ (p:=f_ x s.Read) (n:=86400001)
 have Y:=g_ (p:=fZ x s.Read) (n:=86400001)
 refine al fun _ T=>WS fun _ AA=>rP 3 [] I ?_
 refine RK AA<|bV U (aR fun f=>?_) (aP fun f=>?_)
 ·refine bE<|ag<|ag<|aA<|KK S<|WS fun _ X=>bo 2 U<|rS (SX (bj (xs:=[(0,.tmp 63),(1,.tmp 64)]) (cs:=(aa.cells (aa.mk a d))) U U (bk gj U)) U U)<|bo 3 U<|tw U cu U<|rP 1 [] I ?_
  refine RK X<|aq<|lg hQ [0] (mc 1 U I) U ?_
  have e0:cK l s=⟨a,d⟩:=by (unfold cK qa; rw [xg hy hx,show a=(fj (f_ x s.Read) 86400001) by omega,show d=(fj (fZ x s.Read) 86400001)-1 by omega])
  rw [e0]
 refine WK T<|ay<|WS fun _ V=>bo 4 U<|rS (BI U (si om om om))<|bo 1 U<|RK V<|al fun _ W=>dq cy 9 kr<|dP 3 [] (mc 0 U I) ?_
 refine dS (CL (Bc x xa.1 xa.2 (((d+e)+1)/2) asm om) (aw (show iU _ (rd xa.1 x.bw.length 3 (x.bw.map cG.cells)).holds from (dy 6 U (b_ hx J (by simp [au.gW]))))<|aK) U)<|dS (SX (kK (v:=(vI ((hP x (((d+e)+1)/2)).Lo))) U U fB zE U) U U) ?_
 have t:=qk B (show 0≤(d+e+1)/2∧(d+e+1)/2≤90000000 by omega)
 refine dP 4 [] (mc 2 U I) ?_
 refine cL<|RK W<|cO U (aP fun h=>?_) (aR fun h=>?_)
 ·refine ao<|rP 2 [] I ?_
  refine aG<|aH ?_
  refine aW (G ⟨((((d+e)+1)/2),e),(by dsimp only; have hm:=kJ (r:=s.Read) B (x:=(d+e+1)/2) om om; rcases Int.lt_or_le ((d+e+1)/2) (fj (fZ x s.Read) 86400001) with q|q; (have C:=hm.2.2.1 q; simp only [fZ,decide_eq_false_iff_not] at C; omega); (have C:=hm.2.2.2 q; simp only [fZ,decide_eq_true_eq] at C; omega))⟩ _ _ _ rfl (by simp only []; omega) (aV rfl) (aL [0,1,2,3,4,5,6,7]))
 refine ao<|rP 3 [] I ?_
 refine aG<|aH ?_
 refine aW (G ⟨(d,((((d+e)+1)/2)-1)),(by dsimp only; have hm:=kJ (r:=s.Read) B (x:=(d+e+1)/2) om om; rcases Int.lt_or_le ((d+e+1)/2) (fj (fZ x s.Read) 86400001) with q|q; (have C:=hm.2.2.1 q; simp only [fZ,decide_eq_false_iff_not] at C; omega); (have C:=hm.2.2.2 q; simp only [fZ,decide_eq_true_eq] at C; omega))⟩ _ _ _ rfl (by simp only []; omega) (aV rfl) (aL [0,1,2,3,4,5,6,7]))
end
section
structure D2 (w w':bR):Prop where
 start:w'.Start=w.Start
 now:w.gf≤w'.gf
 n:w'.n=w.n
 least: ∀ b,bU w' b≤bU w b
 times:w'.uL=w.uL
 PU:w.bM≤w'.bM
 Sx:w.cv≤w'.cv
 sigs:w'.P7=w.P7
variable {w w':bR}
theorem D2.opt (h:D2 w w') {b:Nat} {o:Int×aa} (ho:o∈ic w b): ∃ o'∈ic w' b,o'.1=o.1∧o'.2.Lo≤o.2.Lo∧o.2.Hi≤o'.2.Hi:=by
 unfold ic at ho
 rcases List.mem_cons.1 ho with rfl|ho
 ·exact ⟨(-1,⟨w'.Start,w'.gf⟩),cj ..,U,by simp only [h.start]; omega,h.now⟩
 ·refine ⟨o,cT _ ?_,U,Int.le_refl _,Int.le_refl _⟩
  unfold tq at ho ⊢; rw [h.times]; exact ho
theorem D2.may (h:D2 w w') {t:aC} (ht:kh w t=true):kh w' t=true:=by
 unfold kh at ht ⊢
 have:=of_decide_eq_true ht
 have A:=h.PU
 have B:=h.Sx
 have C:=h.sigs
 exact dw om
theorem D2.fwd (h:D2 w w'): ∀ (b:Nat) (p:aC×Int),p∈fwd w b→ ∃ p'∈Go.Proofs.YtdllkkdchkhimaaGreatDoor.fwd w' b,p'.1=p.1∧p'.2≤p.2:=by
 intro b
 induction b with
 |zero=>
  intro p hp
  simp only [Go.Proofs.YtdllkkdchkhimaaGreatDoor.fwd,bW] at hp ⊢
  subst hp
  exact ⟨_,U,U,by simp only [h.start]; omega⟩
 |succ b ih=>
  intro q hq
  obtain ⟨p,hp,o,ho,e⟩:=fM.1 hq
  obtain ⟨p',hp',A,D⟩:=ih p hp
  obtain ⟨o',ho',B,E,F⟩:=h.opt ho
  have hl:=h.least b
  have hn:=h.now
  unfold kF at e
  split at e
  ·rename_i C
   simp only [Option.some.injEq] at e
   subst e
   refine ⟨(dk p'.1 (fh o'.1),max (p'.2+bU w' b) o'.2.Lo),fM.2 ⟨p',hp',o',ho',by unfold kF; rw [if_pos om]⟩,by simp only [A,B],by simp only; omega⟩
  ·cases e
theorem D2.bwd (h:D2 w w'): ∀ (k:Nat) (p:aC×Int),p∈bwd w k→ ∃ p'∈Go.Proofs.YtdllkkdchkhimaaGreatDoor.bwd w' k,p'.1=p.1∧p.2≤p'.2:=by
 intro k
 induction k with
 |zero=>
  intro p hp
  simp only [Go.Proofs.YtdllkkdchkhimaaGreatDoor.bwd,bW] at hp ⊢
  subst hp
  exact ⟨_,U,U,h.now⟩
 |succ k ih=>
  intro q hq
  simp only [Go.Proofs.YtdllkkdchkhimaaGreatDoor.bwd,er,List.mem_flatMap,List.mem_filterMap] at hq ⊢
  rcases hq with rfl|⟨p,hp,o,ho,e⟩
  ·exact ⟨_,.inl U,U,h.now⟩
  ·obtain ⟨p',hp',A,D⟩:=ih p hp
   obtain ⟨o',ho',B,E,F⟩:=h.opt ho
   have hl:=h.least (w.n-(k+1))
   rw [h.n]
   unfold nJ at e
   split at e
   ·rename_i C
    simp only [Option.some.injEq] at e
    subst e
    exact ⟨(dk p'.1 (fh o'.1),min p'.2 o'.2.Hi-bU w' (w.n-(k+1))),.inr ⟨p',hp',o',ho',by unfold nJ; rw [if_pos om]⟩,by simp only [A,B],by simp only; omega⟩
   ·cases e
theorem D2.back (h:D2 w w') {b:Nat} {p:aC×Int} (hp:p∈back w b): ∃ p'∈Go.Proofs.YtdllkkdchkhimaaGreatDoor.back w' b,p'.1=p.1∧p.2≤p'.2:=by
 unfold Go.Proofs.YtdllkkdchkhimaaGreatDoor.back at hp ⊢
 rw [h.n]
 exact h.bwd _ p hp
theorem D2.pass (h:D2 w w') {b:Nat} {q:Int×aa} (hq:q∈l3 w b): ∃ q'∈l3 w' b,q'.1=q.1∧q'.2.Lo≤q.2.Lo∧q.2.Hi≤q'.2.Hi:=by
 obtain ⟨o,ho,p,hp,u,hu,e⟩:=g6.1 hq
 obtain ⟨D,E,rfl⟩:=ji.1 e
 obtain ⟨o',ho',A,F,G⟩:=h.opt ho
 obtain ⟨p',hp',B,H⟩:=h.fwd _ p hp
 obtain ⟨u',hu',C,AA⟩:=h.back hu
 have hl:=h.least b
 simp only [jm] at D
 refine ⟨(o'.1,jm w' b p' u' o'),g6.2 ⟨o',ho',p',hp',u',hu',ji.2 ⟨?_,?_,U⟩⟩,A,?_,?_⟩
 ·simp only [jm]; omega
 ·have:=h.may E
  unfold wI at this ⊢
  rw [A,B,C]; exact this
 ·simp only [jm]; omega
 ·simp only [jm]; omega
theorem oN {k:Int}:k∈ju w↔ ∃ i:Nat,k=(i:Int)∧i≤w.n∧jh w (fwd w i)=true:=by
 unfold ju j8
 simp only [sL,List.mem_filter,List.mem_range]
 constructor
 ·rintro ⟨i,⟨B,A⟩,rfl⟩; exact ⟨i,rfl,om,A⟩
 ·rintro ⟨i,rfl,B,A⟩; exact ⟨i,⟨om,A⟩,rfl⟩
theorem D2.Hw (h:D2 w w') {k:Int} (hk:k∈ju w):k∈ju w':=by
 obtain ⟨i,rfl,C,A⟩:=oN.1 hk
 refine oN.2 ⟨i,U,by rw [h.n]; exact C,?_⟩
 unfold jh at A ⊢
 obtain ⟨p,hp,D⟩:=List.any_eq_true.1 A
 obtain ⟨p',hp',B,_⟩:=h.fwd _ p hp
 exact List.any_eq_true.2 ⟨p',hp',by rw [B]; exact h.may D⟩
/-- two rides, of two lines, of which one allows more -/
structure Th (l:bf) (r:cE) (l':bf) (r':cE):Prop where
 line:dx l=0
 line':dx l'=0
 xY:ff l r
 ride':ff l' r'
 w:D2 (cr l r) (cr l' r')
 OF:l'.ae.length=l.ae.length
variable {l l':bf} {r r':cE}
theorem Th.ok (h:Th l r l' r') (he:eC l r 0=0):eC l' r' 0=0:=by
 refine lM h.line' h.ride' U fun e=>?_
 obtain ⟨k,hk⟩:=List.exists_mem_of_ne_nil _ (jM he).2.2.2
 have:=h.w.Hw hk
 rw [e] at this; cases this
theorem Th.z5 (h:Th l r l' r') {k:Int} (hk:k∈kX l r):k∈kX l' r':=by
 by_cases he:eC l r 0=0
 ·rw [lx he] at hk
  rw [lx (h.ok he)]
  exact h.w.Hw hk
 ·rw [uk he] at hk; cases hk
theorem G3 {b:Nat} (hb:b<l.ae.length):eC l r (jz l b)=eC l r 0:=by rw [wO om]
theorem zq {b:Nat}:bU (cr l r) b=if b<l.ae.length then ed l b else 0:=by
 unfold bU cr cQ
 split
 ·rename_i h
  simp [h]
 ·rename_i h
  simp [h]
theorem Gn {sg:List aO} {i:Nat} (h:i=0):mA sg i=⟨-1,0⟩:=by subst h; rfl
theorem qY {sg:List aO} {i:Nat} {y:aO} (h:0<i) (hy:sg[i-1]? =some y):mA sg i=y:=by unfold mA; rw [if_neg om,hy]; rfl
def Ql (l:bf):Prop:= ¬ my l∧dx l=0
noncomputable instance (l:bf):Decidable (Ql l):=Classical.propDecidable _
end
section
/-- where a sled may be after k beams more -/
def fP (w:bR):Nat→Nat→aC×Int→List (aC×Int)
 |0,_,p=>[p]
 |k+1,b,p=>(ic w b).flatMap fun o=>match kF w b p o with
  |some q=>fP w k (b+1) q
  |none=>[]
variable {w:bR}
theorem g5 {k b:Nat} {p q:aC×Int}:q∈fP w (k+1) b p↔ ∃ o∈ic w b,∃ p',kF w b p o=some p'∧q∈fP w k (b+1) p':=by
 simp only [fP,List.mem_flatMap]
 constructor
 ·rintro ⟨o,ho,h⟩
  cases e:kF w b p o with
  |none=>rw [e] at h; cases h
  |some p'=>rw [e] at h; exact ⟨o,ho,p',e,h⟩
 ·rintro ⟨o,ho,p',e,h⟩
  exact ⟨o,ho,by rw [e]; exact h⟩
theorem qS: ∀ (k b:Nat) (q:aC×Int),q∈fwd w (b+k)↔ ∃ p∈fwd w b,q∈fP w k b p:=by
 intro k
 induction k with
 |zero=>
  intro b q
  simp only [Nat.add_zero,fP,bW]
  exact ⟨fun h=>⟨q,h,rfl⟩,fun ⟨p,hp,e⟩=>e▸hp⟩
 |succ k ih=>
  intro b q
  rw [show b+(k+1)=(b+1)+k by omega,ih]
  constructor
  ·rintro ⟨p',hp',h⟩
   obtain ⟨p,hp,o,ho,e⟩:=fM.1 hp'
   exact ⟨p,hp,g5.2 ⟨o,ho,p',e,h⟩⟩
  ·rintro ⟨p,hp,h⟩
   obtain ⟨o,ho,p',e,h'⟩:=g5.1 h
   exact ⟨p',fM.2 ⟨p,hp,o,ho,e⟩,h'⟩
theorem gF {b:Nat} {p q:aC×Int} {o:Int×aa}:kF w b p o=some q↔max (p.2+bU w b) o.2.Lo≤min o.2.Hi w.gf∧q=(dk p.1 (fh o.1),max (p.2+bU w b) o.2.Lo):=by
 unfold kF
 split
 ·rename_i h
  constructor
  ·intro e; cases e; exact ⟨h,rfl⟩
  ·rintro ⟨_,rfl⟩; rfl
 ·rename_i h
  constructor
  ·intro e; cases e
  ·rintro ⟨h',_⟩; exact absurd h' h
theorem ua {b:Nat} {p q:aC×Int} {o:Int×aa}:nJ w b p o=some q↔o.2.Lo≤min p.2 o.2.Hi∧q=(dk p.1 (fh o.1),min p.2 o.2.Hi-bU w b):=by
 unfold nJ
 split
 ·rename_i h
  constructor
  ·intro e; cases e; exact ⟨h,rfl⟩
  ·rintro ⟨_,rfl⟩; rfl
 ·rename_i h
  constructor
  ·intro e; cases e
  ·rintro ⟨h',_⟩; exact absurd h' h
theorem HI {b:Nat} (hb:b≤w.n):((⟨0,0⟩:aC),w.gf)∈back w b:=by
 rcases Nat.lt_or_ge b w.n with h|h
 ·exact (oS h).2 (.inl U)
 ·rw [uq h]; simp
theorem mO (t:aC):dk t ⟨0,0⟩=t:=by cases t; simp [dk]
theorem yM (a o u:aC):dk (dk a o) u=dk a (dk u o):=by simp only [dk,aC.mk.injEq]; omega
theorem EL (hl: ∀ b,0≤bU w b): ∀ (k:Nat) (u:aC×Int),u∈bwd w k→u.2≤w.gf:=by
 intro k
 induction k with
 |zero=>intro u hu; simp only [bwd,bW] at hu; subst hu; exact Int.le_refl _
 |succ k ih=>
  intro u hu
  simp only [bwd,er,List.mem_flatMap,List.mem_filterMap] at hu
  rcases hu with rfl|⟨p,hp,o,ho,e⟩
  ·exact Int.le_refl _
  ·obtain ⟨_,rfl⟩:=ua.1 e
   have:=ih p hp
   have:=hl (w.n-(k+1))
   simp only; omega
/-- what follows a passing is told by the way back -/
theorem Ny: ∀ (k b:Nat) (p q:aC×Int),b+k≤w.n→p.2≤w.gf→q∈fP w k b p→ ∃ u∈back w b,p.2≤u.2∧q.1=dk p.1 u.1:=by
 intro k
 induction k with
 |zero=>
  intro b p q hb hp hq
  simp only [fP,bW] at hq
  subst hq
  exact ⟨_,HI om,hp,(mO _).symm⟩
 |succ k ih=>
  intro b p q hb hp hq
  obtain ⟨o,ho,p',e,h⟩:=g5.1 hq
  obtain ⟨C,rfl⟩:=gF.1 e
  obtain ⟨u',hu',B,A⟩:=ih (b+1) _ q om (by simp only; omega) h
  simp only at B A
  refine ⟨(dk u'.1 (fh o.1),min u'.2 o.2.Hi-bU w b),(oS om).2 (.inr ⟨u',hu',o,ho,ua.2 ⟨om,U⟩⟩),by simp only; omega,?_⟩
  rw [A,yM]
theorem IV (hl: ∀ b,0≤bU w b): ∀ (d b:Nat) (p u:aC×Int),w.n=b+d→p.2≤u.2→u∈back w b→ ∃ k,b+k≤w.n∧ ∃ q∈fP w k b p,q.1=dk p.1 u.1:=by
 intro d
 induction d with
 |zero=>
  intro b p u hd hp hu
  rw [uq om] at hu
  simp only [bW] at hu
  subst hu
  exact ⟨0,om,p,by simp [fP],(mO _).symm⟩
 |succ d ih=>
  intro b p u hd hp hu
  rcases (oS om).1 hu with rfl|⟨u',hu',o,ho,e⟩
  ·exact ⟨0,om,p,by simp [fP],(mO _).symm⟩
  ·obtain ⟨B,rfl⟩:=ua.1 e
   have hn:u'.2≤w.gf:=EL hl _ _ hu'
   simp only at hp
   obtain ⟨k,hk,q,hq,A⟩:=ih (b+1) (dk p.1 (fh o.1),max (p.2+bU w b) o.2.Lo) u' om (by simp only; omega) hu'
   refine ⟨k+1,om,q,g5.2 ⟨o,ho,_,gF.2 ⟨om,U⟩,hq⟩,?_⟩
   rw [A]; simp only; rw [yM]
end
section
section
variable {l:bf} {r:cE} {one at_:Int} {d:Nat} {f g m:Int} {rec:Int→Int→Int→Bool} {i:Int}
end
theorem qn {l:bf} {r:cE} {d:Nat} (hd:d<l.ae.length) {o:Int×aa}:o∈ic (cr l r) d↔o=(-1,⟨r.Start,r.gf⟩)∨ ∃ k,k<r.ak.length∧ ∃ s,r.ak[k]? =some s∧(s.gh=(d:Int)∧(cK l s).Lo≤(cK l s).Hi)∧o=((k:Int),cK l s):=by
 unfold ic tq
 show o∈(-1,(⟨r.Start,r.gf⟩:aa))::((dZ l r.ak r.ak.length)[d]?).getD []↔_
 rw [ox hd,Option.getD_some,er,rK]
theorem pf {l:bf} {r:cE} {d:Nat} (hd:d<l.ae.length):bU (cr l r) d=ed l d:=by rw [zq,if_pos hd]
theorem t_ {l:bf} {n d:Nat} {y:Int} (h:(cQ l n)[d]? =some y):y=ed l d:=by
 unfold cQ at h
 rw [fy] at h
 have hd:d<n:=by
  rcases Nat.lt_or_ge d n with q|q
  ·exact q
  ·rw [List.getElem?_eq_none (by simpa using q)] at h; cases h
 rw [List.getElem?_range hd] at h
 exact (Option.some.inj h).symm
end
section
def Ph (w:bR) (b:Nat) (i:Int):Prop:= ∃ b',b'<b∧ ∃ q∈l3 w b',q.1=i
noncomputable instance (w:bR) (b:Nat) (i:Int):Decidable (Ph w b i):=Classical.propDecidable _
def vC (w:bR) (b:Nat):Bool:=(l3 w b).any fun q=>decide (0≤q.1)
def Al (w:bR) (k:Nat):List Int:=((List.range k).filter fun b=> !vC w b).map fun (b:Nat)=>(b:Int)
noncomputable def vK (l:bf) (r:cE):List Int:=if eC l r 0=0 then Al (cr l r) (v9 (kX l r)).toNat else []
theorem xo {l:bf} {r:cE} (h:eC l r 0=0):vK l r=Al (cr l r) (v9 (kX l r)).toNat:=if_pos h
theorem xA {l:bf} {r:cE} (h: ¬ eC l r 0=0):vK l r=[]:=if_neg h
theorem RW {l:bf} {r:cE} (h:eC l r 0=0):0≤v9 (kX l r)∧v9 (kX l r)≤(l.ae.length:Int):=by
 have A:=(F3 (tF h)).1
 rw [lx h] at A ⊢
 obtain ⟨i,e,hi,_⟩:=oN.1 A
 have hn:(cr l r).n=l.ae.length:=ek
 omega
end
section
/-- a truth goes on from here -/
def rO (w:bR) (b:Nat) (p:aC×Int):Prop:= ∃ k,b+k≤w.n∧ ∃ q∈fP w k b p,kh w q.1=true
/-- a truth may have come here, or earlier -/
def CS (w:bR) (b:Nat) (p:aC×Int):Prop:= ∃ v,(p.1,v)∈fwd w b∧v≤p.2
def Lv (n:Int) (p:aC×Int):aC×Int:=(p.1,p.2+n)
section
variable {w:bR}
theorem Hd: ∀ (k j b:Nat) (p q z:aC×Int),q∈fP w k b p→z∈fP w j (b+k) q→z∈fP w (k+j) b p:=by
 intro k
 induction k with
 |zero=>
  intro j b p q z A B
  simp only [fP,bW] at A
  subst A
  rw [Nat.zero_add]; exact B
 |succ k ih=>
  intro j b p q z A B
  obtain ⟨o,ho,p',e,h⟩:=g5.1 A
  rw [show k+1+j=(k+j)+1 by omega]
  exact g5.2 ⟨o,ho,p',e,ih j (b+1) p' q z h (by rw [show b+1+k=b+(k+1) by omega]; exact B)⟩
theorem Ca: ∀ (k b:Nat) (t:aC) (x y:Int) (q:aC×Int),y≤x→q∈fP w k b (t,x)→ ∃ q'∈fP w k b (t,y),q'.1=q.1∧q'.2≤q.2:=by
 intro k
 induction k with
 |zero=>
  intro b t x y q A hq
  simp only [fP,bW] at hq ⊢
  subst hq
  exact ⟨_,U,U,A⟩
 |succ k ih=>
  intro b t x y q A hq
  obtain ⟨o,ho,p',e,h⟩:=g5.1 hq
  obtain ⟨B,rfl⟩:=gF.1 e
  simp only at B h
  obtain ⟨q',hq',C,D⟩:=ih (b+1) _ _ (max (y+bU w b) o.2.Lo) q om h
  exact ⟨q',g5.2 ⟨o,ho,_,gF.2 ⟨by simp only; omega,U⟩,hq'⟩,C,D⟩
theorem xB {b:Nat} {t:aC} {x y:Int} (h:rO w b (t,x)) (hy:y≤x):rO w b (t,y):=by
 obtain ⟨k,hk,q,hq,hm⟩:=h
 obtain ⟨q',hq',e,_⟩:=Ca k b t x y q hy hq
 exact ⟨k,hk,q',hq',by rw [e]; exact hm⟩
theorem tG {k b:Nat} {p q:aC×Int} (h:q∈fP w k b p) (hv:rO w (b+k) q):rO w b p:=by
 obtain ⟨j,hj,z,hz,hm⟩:=hv
 exact ⟨k+j,om,z,Hd k j b p q z h hz,hm⟩
theorem Gu {b:Nat} {p q:aC×Int} {o:Int×aa} (h:CS w b p) (ho:o∈ic w b) (e:kF w b p o=some q):CS w (b+1) q:=by
 obtain ⟨v,hv,A⟩:=h
 obtain ⟨B,rfl⟩:=gF.1 e
 exact ⟨max (v+bU w b) o.2.Lo,fM.2 ⟨_,hv,o,ho,gF.2 ⟨by simp only; omega,U⟩⟩,by simp only; omega⟩
theorem AR {b:Nat} {p:aC×Int} (h:p∈fwd w b):CS w b p:=⟨p.2,h,Int.le_refl _⟩
theorem yz (hl: ∀ b,0≤bU w b): ∀ (b:Nat) (p:aC×Int),p∈fwd w b→w.Start≤p.2:=by
 intro b
 induction b with
 |zero=>intro p hp; simp only [fwd,bW] at hp; subst hp; exact Int.le_refl _
 |succ b ih=>
  intro q hq
  obtain ⟨p,hp,o,ho,e⟩:=fM.1 hq
  obtain ⟨_,rfl⟩:=gF.1 e
  have:=ih p hp
  have:=hl b
  simp only; omega
/-- a beam is passed at a time, by a signal -/
def wT (w:bR) (b:Nat) (s t:Int):Prop:= ∃ p∈fwd w b,∃ o∈ic w b,o.1=s∧(max (p.2+bU w b) o.2.Lo≤t∧t≤min o.2.Hi w.gf)∧rO w (b+1) (dk p.1 (fh o.1),t)
theorem zA (hl: ∀ b,0≤bU w b) {b:Nat} (hb:b<w.n) {s t:Int}:(∃ q∈l3 w b,q.1=s∧q.2.Lo≤t∧t≤q.2.Hi)↔wT w b s t:=by
 constructor
 ·rintro ⟨q,hq,hs,C,D⟩
  obtain ⟨o,ho,p,hp,u,hu,e⟩:=g6.1 hq
  obtain ⟨B,A,rfl⟩:=ji.1 e
  simp only [jm] at C D B
  have hn:u.2≤w.gf:=EL hl _ _ hu
  obtain ⟨k,hk,q,hq',E⟩:=IV hl (w.n-(b+1)) (b+1) (dk p.1 (fh o.1),t) u om (by simp only; omega) hu
  refine ⟨p,hp,o,ho,hs,⟨om,om⟩,k,hk,q,hq',?_⟩
  rw [E]
  unfold wI at A
  rw [show dk (dk p.1 (fh o.1)) u.1=dk (dk p.1 u.1) (fh o.1) by simp only [dk,aC.mk.injEq]; omega]
  exact A
 ·rintro ⟨p,hp,o,ho,hs,⟨C,D⟩,k,hk,q,hq,hm⟩
  obtain ⟨u,hu,B,A⟩:=Ny k (b+1) _ q hk (by simp only; omega) hq
  simp only at B A
  refine ⟨(o.1,jm w b p u o),g6.2 ⟨o,ho,p,hp,u,hu,ji.2 ⟨by simp only [jm]; omega,?_,U⟩⟩,hs,by simp only [jm]; omega,by simp only [jm]; omega⟩
  unfold wI
  rw [A] at hm
  rw [show dk (dk p.1 u.1) (fh o.1)=dk (dk p.1 (fh o.1)) u.1 by simp only [dk,aC.mk.injEq]; omega]
  exact hm
end
structure x9 (w w':bR) (n:Int) (f:Int→Int):Prop where
 start:w'.Start=w.Start+n
 now:w'.gf=w.gf+n
 wn:w'.n=w.n
 low: ∀ b,0≤bU w b
 least: ∀ b,bU w' b=bU w b
 may: ∀ t,kh w t=true→kh w' t=true
 TO: ∀ s,0≤f s↔0≤s
 opt: ∀ (b:Nat) (p:aC×Int) (o:Int×aa),b<w.n→w.Start≤p.2→CS w b p→o∈ic w b→max (p.2+bU w b) o.2.Lo≤min o.2.Hi w.gf→rO w (b+1) (dk p.1 (fh o.1),max (p.2+bU w b) o.2.Lo)→
  ∃ o'∈ic w' b,o'.1=f o.1∧ ∀ t,w.Start≤t→t≤w.gf→((o.2.Lo≤t∧t≤o.2.Hi)↔(o'.2.Lo≤t+n∧t+n≤o'.2.Hi))
section
variable {w w':bR} {n:Int} {f g:Int→Int}
theorem x9.one (h:x9 w w' n f) (s:Int):fh (f s)=fh s:=by
 unfold fh
 have:=h.TO s
 by_cases q:s<0
 ·rw [if_pos q,if_pos om]
 ·rw [if_neg q,if_neg om]
theorem x9.step (h:x9 w w' n f) {b:Nat} {p q:aC×Int} {o:Int×aa} (hb:b<w.n) (hs:w.Start≤p.2) (hl:CS w b p) (ho:o∈ic w b) (e:kF w b p o=some q) (hv:rO w (b+1) q):
 ∃ o'∈ic w' b,kF w' b (Lv n p) o'=some (Lv n q):=by
 obtain ⟨E,rfl⟩:=gF.1 e
 obtain ⟨o',ho',D,A⟩:=h.opt b p o hb hs hl ho E hv
 have F:=h.low b
 have B:=A (max (p.2+bU w b) o.2.Lo) om om
 have C:=A (max (p.2+n+bU w b) o'.2.Lo-n) om
 refine ⟨o',ho',gF.2 ?_⟩
 simp only [Lv,h.least,h.now]
 rw [D,h.one]
 have G:=B.1 om
 have H:=(C om).2 om
 refine ⟨om,?_⟩
 simp only [Prod.mk.injEq,true_and]
 omega
theorem x9.reach (h:x9 w w' n f): ∀ (k b:Nat) (p q:aC×Int),b+k≤w.n→w.Start≤p.2→CS w b p→q∈fP w k b p→rO w (b+k) q→Lv n q∈fP w' k b (Lv n p):=by
 intro k
 induction k with
 |zero=>
  intro b p q _ _ _ hq _
  simp only [fP,bW] at hq ⊢
  rw [hq]
 |succ k ih=>
  intro b p q hb hs hl hq hv
  obtain ⟨o,ho,p',e,hq'⟩:=g5.1 hq
  have hv':rO w (b+1) p':=tG hq' (by rw [show b+1+k=b+(k+1) by omega]; exact hv)
  obtain ⟨o',ho',e'⟩:=h.step om hs hl ho e hv'
  have A:=gF.1 e
  have B:=h.low b
  exact g5.2 ⟨o',ho',_,e',ih (b+1) p' q om (by rw [A.2]; simp only; omega) (Gu hl ho e) hq' (by rw [show b+1+k=b+(k+1) by omega]; exact hv)⟩
theorem x9.PR (h:x9 w w' n f) {b:Nat} {p:aC×Int} (hs:w.Start≤p.2) (hl:CS w b p) (hv:rO w b p):rO w' b (Lv n p):=by
 obtain ⟨k,hk,q,hq,hm⟩:=hv
 exact ⟨k,by rw [h.wn]; exact hk,_,h.reach k b p q hk hs hl hq ⟨0,om,q,by simp [fP],hm⟩,h.may _ hm⟩
theorem x9.fwd (h:x9 w w' n f) {b:Nat} {q:aC×Int} (hb:b≤w.n) (hq:q∈fwd w b) (hv:rO w b q):Lv n q∈Go.Proofs.YtdllkkdchkhimaaGreatDoor.fwd w' b:=by
 obtain ⟨p,hp,hr⟩:=(qS b 0 q).1 (by rw [Nat.zero_add]; exact hq)
 have hr':=h.reach b 0 p q om (yz h.low 0 p hp) (AR hp) hr (by rw [Nat.zero_add]; exact hv)
 have:Lv n p∈Go.Proofs.YtdllkkdchkhimaaGreatDoor.fwd w' 0:=by
  simp only [Go.Proofs.YtdllkkdchkhimaaGreatDoor.fwd,bW] at hp ⊢
  subst hp
  rw [h.start]; rfl
 have A:=(qS b 0 (Lv n q)).2 ⟨_,this,hr'⟩
 rwa [Nat.zero_add] at A
theorem x9.any (h:x9 w w' n f) {b:Nat} (hb:b≤w.n) (hm:jh w (Go.Proofs.YtdllkkdchkhimaaGreatDoor.fwd w b)=true):jh w' (Go.Proofs.YtdllkkdchkhimaaGreatDoor.fwd w' b)=true:=by
 unfold jh at hm ⊢
 obtain ⟨p,hp,A⟩:=List.any_eq_true.1 hm
 exact List.any_eq_true.2 ⟨_,h.fwd hb hp ⟨0,om,p,by simp [fP],A⟩,h.may _ A⟩
theorem x9.pass (h:x9 w w' n f) {b:Nat} (hb:b<w.n) {s t:Int} (hp:wT w b s t):wT w' b (f s) (t+n):=by
 obtain ⟨p,hp,o,ho,rfl,⟨D,G⟩,hv⟩:=hp
 have hs:=yz h.low b p hp
 have hl:=h.low b
 have A:rO w (b+1) (dk p.1 (fh o.1),max (p.2+bU w b) o.2.Lo):=xB hv D
 have e:kF w b p o=some (dk p.1 (fh o.1),max (p.2+bU w b) o.2.Lo):=gF.2 ⟨om,rfl⟩
 have B:rO w b p:=tG (k:=1) (g5.2 ⟨o,ho,_,e,by simp [fP]⟩) A
 obtain ⟨o',ho',C,E⟩:=h.opt b p o hb hs (AR hp) ho om A
 have c:=(E t om om).1 om
 refine ⟨Lv n p,h.fwd om hp B,o',ho',C,?_,?_⟩
 ·simp only [Lv,h.least,h.now]; omega
 ·have F:=h.PR (b:=b+1) (p:=(dk p.1 (fh o.1),t)) (by simp only; omega) ⟨_,fM.2 ⟨p,hp,o,ho,e⟩,D⟩ hv
  rw [C,h.one]; exact F
theorem HS (h:x9 w w' n f) (h':x9 w' w (-n) g):ju w'=ju w:=by
 unfold ju
 rw [h.wn]
 unfold j8
 congr 1
 refine List.filter_congr fun b hb=>?_
 have hb:=List.mem_range.1 hb
 rw [Bool.eq_iff_iff]
 exact ⟨h'.any (by rw [h.wn]; omega),h.any om⟩
theorem BE (h:x9 w w' n f) (hl': ∀ b,0≤bU w' b) {b:Nat} (hb:b<w.n) {s:Int} (hq: ∃ q∈l3 w b,q.1=s): ∃ q∈l3 w' b,q.1=f s:=by
 obtain ⟨q,hq,e⟩:=hq
 have A:q.2.Lo≤q.2.Hi:=mL hq
 obtain ⟨q',hq',e',_⟩:=(zA hl' (by rw [h.wn]; exact hb)).2 (h.pass hb ((zA h.low hb).1 ⟨q,hq,e,Int.le_refl _,A⟩))
 exact ⟨q',hq',e'⟩
theorem Hg (h:x9 w w' n f) (h':x9 w' w (-n) g) {b:Nat} (hb:b<w.n):vC w' b=vC w b:=by
 rw [Bool.eq_iff_iff]
 unfold vC
 simp only [List.any_eq_true,decide_eq_true_eq]
 constructor
 ·rintro ⟨q,hq,A⟩
  obtain ⟨q',hq',e⟩:=BE h' h.low (by rw [h.wn]; exact hb) ⟨q,hq,rfl⟩
  exact ⟨q',hq',by rw [e]; exact (h'.TO _).2 A⟩
 ·rintro ⟨q,hq,A⟩
  obtain ⟨q',hq',e⟩:=BE h h'.low hb ⟨q,hq,rfl⟩
  exact ⟨q',hq',by rw [e]; exact (h.TO _).2 A⟩
end
section
variable {l l':bf} {r r':cE} {n:Int} {f g:Int→Int}
structure vf (l:bf) (r:cE) (l':bf) (r':cE) (n:Int) (f g:Int→Int):Prop where
 line:dx l=0
 line':dx l'=0
 xY:ff l r
 ride':ff l' r'
 OF:l'.ae.length=l.ae.length
 to:x9 (cr l r) (cr l' r') n f
 U1:x9 (cr l' r') (cr l r) (-n) g
theorem vf.Hw (h:vf l r l' r' n f g):ju (cr l' r')=ju (cr l r):=HS h.to h.U1
theorem vf.e (h:vf l r l' r' n f g) {me:Int}:eC l' r' me=eC l r me:=by
 by_cases hm:me=0
 ·by_cases q:ju (cr l r)=[]
  ·rw [pt h.line h.xY hm q,pt h.line' h.ride' hm (h.Hw.trans q)]
  ·rw [lM h.line h.xY hm q,lM h.line' h.ride' hm (by rw [h.Hw]; exact q)]
 ·rw [qc h.line h.xY hm,qc h.line' h.ride' hm]
theorem vf.z5 (h:vf l r l' r' n f g):kX l' r'=kX l r:=by
 by_cases q:eC l r 0=0
 ·rw [lx q,lx (h.e.trans q),h.Hw]
 ·rw [uk q,uk (by rw [h.e]; exact q)]
theorem vf.vi (h:vf l r l' r' n f g) {b:Int}:jz l' b=jz l b:=by unfold jz; rw [h.OF]
theorem vf.bn (h:vf l r l' r' n f g):(cr l r).n=l.ae.length:=ek
theorem vf.eP (h:vf l r l' r' n f g):vK l' r'=vK l r:=by
 by_cases q:eC l r 0=0
 ·rw [xo q,xo (h.e.trans q),h.z5]
  have hb:=RW q
  unfold Al
  congr 1
  refine List.filter_congr fun b A=>?_
  have A:=List.mem_range.1 A
  rw [Hg h.to h.U1 (by rw [h.bn]; omega)]
 ·rw [xA q,xA (by rw [h.e]; exact q)]
end
end
section
theorem Oe (a b:Int) (ha:0≤a) (hb:0<b):0≤a % b∧a % b<b:=⟨Int.emod_nonneg _ (Int.ne_of_gt hb),Int.emod_lt_of_pos _ hb⟩
theorem mR {l:bf} (ht:cV l.aI=true) (h:kS l) {i:Nat} (hi:i<l.ae.length):1≤ed l i∧ed l i≤500000000:=by
 have A:=h.Qx i hi
 have B:=Fs ht h.vi i
 have hf:=h.head.1
 unfold ed oZ
 refine ⟨(Int.le_ediv_iff_mul_le om).2 om,?_⟩
 have:(1000*lQ l i+l.dJ-1)/l.dJ≤1000*lQ l i+l.dJ-1:=Int.ediv_le_self _ om
 omega
end
section
def cY (good:List Int):aC:=good.foldl (fun t g=>dk t (fh g)) ⟨0,0⟩
theorem jR {l:List Int} {g:Int}:cY (l++[g])=dk (cY l) (fh g):=by unfold cY; rw [List.foldl_append]; rfl
def tg (r:cE) (times:List Int) (b:Nat):Int:=if b=0 then r.Start else (times[b-1]?).getD 0
theorem o2 {r:cE} {times:List Int} {b:Nat} {t:Int} (h:times[b]? =some t):tg r times (b+1)=t:=by unfold tg; rw [if_neg om,Nat.add_sub_cancel,h]; rfl
structure il (l:bf) (r:cE) (times good:List Int):Prop where
 xY:ff l r
 len:good.length=times.length
 le:times.length≤l.ae.length
 step: ∀ (b:Nat) t,times[b]? =some t→tg r times b+ed l b≤t∧t≤r.gf
 sig: ∀ (b:Nat) t g,times[b]? =some t→good[b]? =some g→g= -1∨ ∃ (k:Nat) (s:aO),g=(k:Int)∧r.ak[k]? =some s∧s.gh=(b:Int)∧(cK l s).Lo≤t∧t≤(cK l s).Hi
 Kh:(cY good).eP≤l.bM
 Sf:(r.ak.length:Int)-(cY good).right≤l.cv
section
variable {l:bf} {r:cE} {times good:List Int}
theorem il.low (h:il l r times good) (hl:dx l=0): ∀ b,0≤bU (cr l r) b:=fun b=>by
 obtain ⟨ht,A⟩:=gE hl
 exact ((ov ht A h.xY).bU b).1
theorem il.least (h:il l r times good) {b:Nat} (hb:b<times.length):bU (cr l r) b=ed l b:=by
 have:=h.le
 rw [zq,if_pos om]
theorem il.from_ (h:il l r times good) (hl:dx l=0): ∀ b:Nat,b≤times.length→r.Start≤tg r times b∧tg r times b≤r.gf:=by
 intro b
 induction b with
 |zero=>intro _; have:=h.xY.time; unfold tg; rw [if_pos rfl]; omega
 |succ b ih=>
  intro hb
  have ht:times[b]? =some (times[b]'om):=e8 _
  have B:=ih om
  have C:=h.step b _ ht
  have A:=h.low hl b
  rw [h.least om] at A
  rw [o2 ht]
  omega
/-- what comes next, in the truth -/
theorem il.opt (h:il l r times good) (hl:dx l=0) {b:Nat} {t g:Int} (ht:times[b]? =some t) (hg:good[b]? =some g): ∃ o∈ic (cr l r) b,o.1=g∧o.2.Lo≤t∧t≤o.2.Hi:=by
 have hb:=(List.getElem?_eq_some_iff.1 ht).1
 have E:=h.le
 have F:=h.step b t ht
 have G:=h.from_ hl b om
 have B:=h.low hl b
 rw [h.least hb] at B
 rcases h.sig b t g ht hg with rfl|⟨k,s,rfl,hs,A,C,D⟩
 ·exact ⟨(-1,⟨r.Start,r.gf⟩),(qn om).2 (.inl U),U,by simp only; omega,by simp only; omega⟩
 ·exact ⟨((k:Int),cK l s),(qn om).2 (.inr ⟨k,(List.getElem?_eq_some_iff.1 hs).1,s,hs,⟨A,om⟩,U⟩),U,C,D⟩
theorem lF {α:Type} {l:List α} {b:Nat} {x:α} (h:l[b]? =some x):l.take (b+1)=l.take b++[x]:=by rw [List.take_add_one,h]; rfl
theorem il.live (h:il l r times good) (hl:dx l=0): ∀ b:Nat,b≤times.length→CS (cr l r) b (cY (good.take b),tg r times b):=by
 intro b
 induction b with
 |zero=>intro _; exact ⟨r.Start,by simp [fwd,cY]; rfl,by unfold tg; rw [if_pos rfl]; exact Int.le_refl _⟩
 |succ b ih=>
  intro hb
  have B:=h.len
  have ht:times[b]? =some (times[b]'om):=e8 _
  have hg:good[b]? =some (good[b]'om):=e8 _
  obtain ⟨v,hv,A⟩:=ih om
  obtain ⟨o,ho,e,C,D⟩:=h.opt hl ht hg
  have E:=h.step b _ ht
  have F:=h.least (b:=b) om
  simp only at A hv
  rw [o2 ht,lF hg,jR,← e]
  refine ⟨max (v+bU (cr l r) b) o.2.Lo,fM.2 ⟨_,hv,o,ho,gF.2 ⟨?_,U⟩⟩,?_⟩
  ·have G:(cr l r).gf=r.gf:=rfl
   simp only; omega
  ·simp only; omega
theorem il.PR (h:il l r times good) (hl:dx l=0): ∀ (d b:Nat),b+d=times.length→rO (cr l r) b (cY (good.take b),tg r times b):=by
 intro d
 induction d with
 |zero=>
  intro b hb
  have hn:(cr l r).n=l.ae.length:=ek
  have C:=h.len
  have D:=h.le
  refine ⟨0,om,_,by simp [fP]; rfl,?_⟩
  rw [List.take_of_length_le om]
  unfold kh
  have A:=h.Kh
  have B:=h.Sf
  exact dw ⟨A,B⟩
 |succ d ih=>
  intro b hb
  have C:=h.len
  have ht:times[b]? =some (times[b]'om):=e8 _
  have hg:good[b]? =some (good[b]'om):=e8 _
  obtain ⟨o,ho,e,D,A⟩:=h.opt hl ht hg
  have B:=h.step b _ ht
  have E:=h.least (b:=b) om
  have F:(cr l r).gf=r.gf:=rfl
  have hv:=ih (b+1) om
  rw [o2 ht,lF hg,jR,← e] at hv
  exact tG (k:=1) (g5.2 ⟨o,ho,_,gF.2 ⟨by first|omega|(simp only; omega),U⟩,by simp [fP]; rfl⟩) (xB hv (by first|omega|(simp only; omega)))
theorem il.pass (h:il l r times good) (hl:dx l=0) {b:Nat} {t g:Int} (ht:times[b]? =some t) (hg:good[b]? =some g):wT (cr l r) b g t:=by
 have hb:=(List.getElem?_eq_some_iff.1 ht).1
 obtain ⟨v,hv,A⟩:=h.live hl b om
 obtain ⟨o,ho,e,B,C⟩:=h.opt hl ht hg
 have D:=h.step b _ ht
 have E:=h.least (b:=b) hb
 have F:(cr l r).gf=r.gf:=rfl
 have hw:=h.PR hl (times.length-(b+1)) (b+1) om
 rw [o2 ht,lF hg,jR,← e] at hw
 simp only at A
 exact ⟨_,hv,o,ho,e,⟨by simp only; omega,om⟩,hw⟩
theorem il.num (h:il l r times good) (hl:dx l=0):(times.length:Int)∈ju (cr l r):=by
 obtain ⟨v,hv,_⟩:=h.live hl times.length (Nat.le_refl _)
 have hn:(cr l r).n=l.ae.length:=ek
 have B:=h.le
 refine oN.2 ⟨times.length,U,om,?_⟩
 unfold jh
 refine List.any_eq_true.2 ⟨_,hv,?_⟩
 have A:=h.len
 rw [List.take_of_length_le om]
 unfold kh
 exact dw ⟨h.Kh,h.Sf⟩
theorem il.e (h:il l r times good) (hl:dx l=0):eC l r 0=0:=lM hl h.xY rfl fun e=>by have:=h.num hl; rw [e] at this; cases this
theorem il.z5 (h:il l r times good) (hl:dx l=0):(times.length:Int)∈kX l r:=by rw [lx (h.e hl)]; exact h.num hl
theorem il.clear (h:il l r times good) (hl:dx l=0):(EF l r=2→l.bH<(times.length:Int))∧(EF l r=0→(times.length:Int)≤l.bH):=by
 have hm:=h.z5 hl
 have A:=(F3 (tF (h.e hl))).2 _ hm
 have B:=(N_ (tF (h.e hl))).2 _ hm
 unfold EF
 rw [if_pos (h.e hl)]
 constructor
 ·intro q
  split at q
  ·omega
  ·split at q<;>omega
 ·intro q
  split at q
  ·omega
  ·split at q<;>omega
end
end
section
def gv (hi:Int→Int) (least:Nat→Int) (now:Int):Nat→List Int→List Int×Int
 |_,[]=>([],now)
 |b,x::xs=>((if 0≤x then min (gv hi least now (b+1) xs).2 (hi x) else (gv hi least now (b+1) xs).2)::(gv hi least now (b+1) xs).1,(if 0≤x then min (gv hi least now (b+1) xs).2 (hi x) else (gv hi least now (b+1) xs).2)-least b)
def fW (t:Int):List Int→Int
 |[]=>t
 |x::xs=>fW x xs
def jT (w:bR):Nat→Int→List Int→List Int→Prop
 |_,_,[],[]=>True
 |b,t,x::rs,y::fs=>(∃ o∈ic w b,o.1=x∧max (t+bU w b) o.2.Lo≤min o.2.Hi w.gf∧y=max (t+bU w b) o.2.Lo)∧jT w (b+1) y rs fs
 |_,_,_,_=>False
section
variable {w:bR} {hi:Int→Int} {least:Nat→Int} {now:Int}
theorem qH: ∀ (b:Nat) (rs:List Int),(gv hi least now b rs).1.length=rs.length
 |_,[]=>rfl
 |b,x::xs=>by simp only [gv,List.length_cons]; rw [qH]
theorem mQ: ∀ (t:Int) (fs:List Int) (y:Int),fW t (fs++[y])=y
 |_,[],_=>rfl
 |t,x::fs,y=>mQ x fs y
theorem AQ: ∀ (t:Int) (fs:List Int) (y:Int),fs[fs.length-1]? =some y→fW t fs=y
 |t,[],y,h=>by simp at h
 |t,[x],y,h=>by simpa [fW] using h
 |t,x::x2::fs,y,h=>by
  show fW x (x2::fs)=y
  exact AQ x (x2::fs) y (by simpa using h)
theorem sk: ∀ (b:Nat) (rs:List Int) (x:Int) (ss:List Int),(gv hi least now b (rs++x::ss)).1[rs.length]? =some (if 0≤x then min (gv hi least now (b+rs.length+1) ss).2 (hi x) else (gv hi least now (b+rs.length+1) ss).2)
 |b,[],x,ss=>by simp [gv]
 |b,z::rs,x,ss=>by
  have:=sk (b+1) rs x ss
  simp only [List.cons_append,gv,List.length_cons,List.getElem?_cons_succ]
  rw [this,show b+1+rs.length+1=b+(rs.length+1)+1 by omega]
theorem jZ: ∀ (b:Nat) (t:Int) (rs fs:List Int),jT w b t rs fs→fs.length=rs.length
 |_,_,[],[],_=>rfl
 |b,t,x::rs,y::fs,h=>by simp [jZ _ _ rs fs h.2]
 |_,_,[],_::_,h=>h.elim
 |_,_,_::_,[],h=>h.elim
theorem qB: ∀ (b:Nat) (t:Int) (rs fs ss gs:List Int),fs.length=rs.length→(jT w b t (rs++ss) (fs++gs)↔jT w b t rs fs∧jT w (b+rs.length) (fW t fs) ss gs)
 |b,t,[],[],ss,gs,_=>by simp [jT,fW]
 |b,t,x::rs,y::fs,ss,gs,h=>by
  have ih:=qB (b+1) y rs fs ss gs (by simpa using h)
  simp only [List.cons_append,jT,List.length_cons,fW]
  rw [ih,show b+1+rs.length=b+(rs.length+1) by omega,and_assoc]
 |_,_,[],_::_,_,_,h=>by simp at h
 |_,_,_::_,[],_,_,h=>by simp at h
theorem DU (b:List Int): ∀ t:aC,b.foldl (fun t g=>dk t (fh g)) t=dk t (cY b):=by
 induction b with
 |nil=>intro t; exact (mO t).symm
 |cons x b ih=>
  intro t
  show b.foldl (fun t g=>dk t (fh g)) (dk t (fh x))=dk t (b.foldl (fun t g=>dk t (fh g)) (dk ⟨0,0⟩ (fh x)))
  rw [ih,ih]; simp only [dk,aC.mk.injEq]; omega
theorem qK (a b:List Int):cY (a++b)=dk (cY a) (cY b):=by
 show (a++b).foldl _ _=_
 rw [List.foldl_append,DU]; rfl
theorem qG:cY []=(⟨0,0⟩:aC):=rfl
theorem pn (l:List Int):dk (⟨0,0⟩:aC) (cY l)=cY l:=by simp [dk]
theorem rD (x:Int) (l:List Int):cY (x::l)=dk (fh x) (cY l):=by
 rw [show x::l=[x]++l from rfl,qK,show cY [x]=fh x from (jR (l:=[])).trans (by rw [qG]; simp [dk])]
theorem sZ: ∀ l:List Int,0≤(cY l).right∧0≤(cY l).eP∧(cY l).right+(cY l).eP=(l.length:Int)
 |[]=>by rw [qG]; simp
 |x::l=>by
  rw [rD]
  have:=ub x
  have:=sZ l
  simp only [dk,List.length_cons]
  omega
/-- chains are what the watch goes through -/
theorem jS: ∀ (k b:Nat) (p q:aC×Int),q∈fP w k b p↔ ∃ rs fs,rs.length=k∧jT w b p.2 rs fs∧q=(dk p.1 (cY rs),fW p.2 fs):=by
 intro k
 induction k with
 |zero=>
  intro b p q
  simp only [fP,bW]
  constructor
  ·rintro rfl; exact ⟨[],[],rfl,trivial,by rw [qG,mO]; rfl⟩
  ·rintro ⟨rs,fs,A,B,rfl⟩
   have A:=jv A
   subst A
   have:=jv (jZ _ _ _ _ B)
   subst this
   rw [qG,mO]; rfl
 |succ k ih=>
  intro b p q
  rw [g5]
  constructor
  ·rintro ⟨o,ho,p',e,h⟩
   obtain ⟨A,rfl⟩:=gF.1 e
   obtain ⟨rs,fs,B,C,rfl⟩:=(ih _ _ _).1 h
   refine ⟨o.1::rs,max (p.2+bU w b) o.2.Lo::fs,by simp [B],⟨⟨o,ho,U,A,U⟩,C⟩,?_⟩
   rw [rD]
   simp only [fW,dk,Prod.mk.injEq,aC.mk.injEq,and_true]; omega
  ·rintro ⟨rs,fs,A,B,rfl⟩
   cases rs with
   |nil=>simp at A
   |cons x rs=>
    cases fs with
    |nil=>exact B.elim
    |cons y fs=>
     obtain ⟨⟨o,ho,rfl,C,rfl⟩,D⟩:=B
     refine ⟨o,ho,_,gF.2 ⟨C,U⟩,(ih _ _ _).2 ⟨rs,fs,by simpa using A,D,?_⟩⟩
     rw [rD]
     simp only [fW,dk,Prod.mk.injEq,aC.mk.injEq,and_true]; omega
/-- what the reference's rows of last times know -/
structure Lj (w:bR) (hi:Int→Int) (least:Nat→Int) (now:Int):Prop where
 low: ∀ b,0≤bU w b
 least: ∀ b,b<w.n→least b=bU w b
 now:now=w.gf
 hi: ∀ b o,b<w.n→o∈ic w b→0≤o.1→o.2.Hi=hi o.1
 none_: ∀ b o,b<w.n→o∈ic w b→ ¬ 0≤o.1→o.2.Hi=w.gf
theorem wZ (h:Lj w hi least now): ∀ (b:Nat) (rs:List Int),b+rs.length≤w.n→(gv hi least now b rs).2≤w.gf
 |_,[],_=>by simp only [gv]; exact Int.le_of_eq h.now
 |b,x::xs,hb=>by
  simp only [List.length_cons] at hb
  have B:=wZ h (b+1) xs om
  have A:=h.low b
  rw [← h.least b om] at A
  simp only [gv]
  split<;>omega
theorem qC (h:Lj w hi least now): ∀ (b:Nat) (t:Int) (rs fs:List Int),b+rs.length≤w.n→t≤w.gf→jT w b t rs fs→t≤(gv hi least now b rs).2
 |_,t,[],[],_,ht,_=>by simp only [gv]; rw [h.now]; exact ht
 |b,t,x::rs,y::fs,hb,ht,hc=>by
  simp only [List.length_cons] at hb
  obtain ⟨⟨o,ho,rfl,D,rfl⟩,A⟩:=hc
  have B:=qC h (b+1) _ rs fs om om A
  have C:=h.least b om
  simp only [gv]
  split
  ·rename_i q
   have:=h.hi b o om ho q
   omega
  ·omega
 |_,_,[],_::_,_,_,hc=>hc.elim
 |_,_,_::_,[],_,_,hc=>hc.elim
theorem xU (h:Lj w hi least now): ∀ (b:Nat) (t t':Int) (rs fs:List Int),b+rs.length≤w.n→t≤t'→t'≤(gv hi least now b rs).2→jT w b t rs fs→ ∃ gs,jT w b t' rs gs
 |_,t,_,[],[],_,_,_,_=>⟨[],trivial⟩
 |b,t,t',x::rs,y::fs,hb,ht,he,hc=>by
  simp only [List.length_cons] at hb
  obtain ⟨⟨o,ho,rfl,E,rfl⟩,A⟩:=hc
  have C:=qC h (b+1) _ rs fs om om A
  have D:=h.least b om
  have F:=wZ h (b+1) rs om
  simp only [gv] at he
  have B:max (t'+bU w b) o.2.Lo≤min o.2.Hi w.gf∧max (t'+bU w b) o.2.Lo≤(gv hi least now (b+1) rs).2:=by
   split at he
   ·rename_i q
    have:=h.hi b o om ho q
    omega
   ·rename_i q
    have:=h.none_ b o om ho q
    omega
  obtain ⟨gs,hg⟩:=xU h (b+1) _ (max (t'+bU w b) o.2.Lo) rs fs om om B.2 A
  exact ⟨_::gs,⟨o,ho,U,B.1,U⟩,hg⟩
 |_,_,_,[],_::_,_,_,_,hc=>hc.elim
 |_,_,_,_::_,[],_,_,_,hc=>hc.elim
theorem AI (b:Nat) (t t':Int) (rs fs:List Int) (ht:t'≤t) (hc:jT w b t rs fs): ∃ gs,jT w b t' rs gs:=by
 have A:(dk ⟨0,0⟩ (cY rs),fW t fs)∈fP w rs.length b (⟨0,0⟩,t):=(jS _ _ _ _).2 ⟨rs,fs,rfl,hc,rfl⟩
 clear A
 induction rs generalizing b t t' fs with
 |nil=>exact ⟨[],trivial⟩
 |cons x rs ih=>
  cases fs with
  |nil=>exact hc.elim
  |cons y fs=>
   obtain ⟨⟨o,ho,rfl,C,rfl⟩,B⟩:=hc
   obtain ⟨gs,hg⟩:=ih (b+1) _ (max (t'+bU w b) o.2.Lo) fs om B
   exact ⟨_::gs,⟨o,ho,U,om,U⟩,hg⟩
/-- a way, as it is asked for -/
structure Ot (w:bR) (hi:Int→Int) (least:Nat→Int) (now:Int) (y:de):Prop where
 chain:jT w 0 w.Start y.gl y.iy
 len:y.gl.length≤w.n
 last:y.lB=(gv hi least now 0 y.gl).1
 may:kh w (cY y.gl)=true
theorem BY {k:Nat}:jh w (fwd w k)=true↔ ∃ rs fs,rs.length=k∧jT w 0 w.Start rs fs∧kh w (cY rs)=true:=by
 unfold jh
 rw [List.any_eq_true]
 have e:=fun q=>(qS (w:=w) k 0 q)
 rw [Nat.zero_add] at e
 constructor
 ·rintro ⟨q,hq,hm⟩
  obtain ⟨p,hp,h⟩:=(e q).1 hq
  simp only [fwd,bW] at hp
  subst hp
  obtain ⟨rs,fs,A,B,rfl⟩:=(jS _ _ _ _).1 h
  refine ⟨rs,fs,A,B,?_⟩
  rwa [pn] at hm
 ·rintro ⟨rs,fs,A,B,C⟩
  refine ⟨_,(e _).2 ⟨((⟨0,0⟩:aC),w.Start),List.mem_singleton.2 U,(jS _ _ _ _).2 ⟨rs,fs,A,B,U⟩⟩,?_⟩
  simp only [pn]; exact C
theorem IJ (h:Lj w hi least now) (hs:w.Start≤w.gf) {b:Nat} (hb:b<w.n) {s t:Int}:wT w b s t↔ ∃ y,Ot w hi least now y∧ ∃ f e,y.gl[b]? =some s∧y.iy[b]? =some f∧y.lB[b]? =some e∧f≤t∧t≤e:=by
 have ef:=fun q=>(qS (w:=w) b 0 q)
 rw [Nat.zero_add] at ef
 constructor
 ·rintro ⟨p,hp,o,ho,rfl,⟨C,L⟩,k,hk,q,hq,hm⟩
  obtain ⟨Y,AB,hp⟩:=(ef p).1 hp
  simp only [fwd,bW] at AB
  subst AB
  obtain ⟨rs,fs,K,D,rfl⟩:=(jS _ _ _ _).1 hp
  obtain ⟨ss,gs,AA,E,rfl⟩:=(jS _ _ _ _).1 hq
  simp only at C L D E hm
  obtain ⟨gs',J⟩:=AI (b+1) t (max (fW w.Start fs+bU w b) o.2.Lo) ss gs C E
  have H:=jZ _ _ _ _ D
  have T:=jZ _ _ _ _ J
  have hc:jT w 0 w.Start (rs++o.1::ss) (fs++max (fW w.Start fs+bU w b) o.2.Lo::gs'):=(qB _ _ _ _ _ _ H).2 ⟨D,by rw [Nat.zero_add,K]; exact ⟨⟨o,ho,rfl,om,rfl⟩,J⟩⟩
  have he:=qC h (b+1) t ss gs om om E
  have A:=sk (hi:=hi) (least:=least) (now:=now) 0 rs o.1 ss
  rw [Nat.zero_add,K] at A
  refine ⟨⟨rs++o.1::ss,fs++max (fW w.Start fs+bU w b) o.2.Lo::gs',(gv hi least now 0 (rs++o.1::ss)).1⟩,⟨hc,by simp; omega,U,?_⟩,max (fW w.Start fs+bU w b) o.2.Lo,_,?_,?_,A,C,?_⟩
  ·show kh w (cY (rs++o.1::ss))=true
   rw [show rs++o.1::ss=(rs++[o.1])++ss by simp,qK,jR]
   rwa [pn] at hm
  ·show (rs++o.1::ss)[b]? =some o.1
   rw [List.getElem?_append_right om,K,Nat.sub_self]; rfl
  ·show (fs++_::gs')[b]? =_
   rw [List.getElem?_append_right om,H,K,Nat.sub_self]; rfl
  ·split
   ·rename_i q
    have:=h.hi b o hb ho q
    omega
   ·exact he
 ·rintro ⟨y,hy,f,e,C,L,P,Q,V⟩
  obtain ⟨R,F,La⟩:=y
  obtain ⟨hc,hn,A,hm⟩:=hy
  simp only at C L P hc hn A hm
  have N:=(List.getElem?_eq_some_iff.1 C).1
  have S:=jZ _ _ _ _ hc
  have eR:R=R.take b++s::R.drop (b+1):=by rw [← (List.getElem?_eq_some_iff.1 C).2]; exact (List.take_append_drop b R).symm.trans (by rw [List.drop_eq_getElem_cons N])
  have M:b<F.length:=by omega
  have eF:F=F.take b++f::F.drop (b+1):=by rw [← (List.getElem?_eq_some_iff.1 L).2]; exact (List.take_append_drop b F).symm.trans (by rw [List.drop_eq_getElem_cons M])
  rw [eR,eF,qB _ _ _ _ _ _ (by simp only [List.length_take]; omega)] at hc
  have O:(R.take b).length=b:=by rw [List.length_take]; omega
  rw [O,Nat.zero_add] at hc
  obtain ⟨D,⟨o,ho,rfl,W,rfl⟩,E⟩:=hc
  have B:=sk (hi:=hi) (least:=least) (now:=now) 0 (R.take b) o.1 (R.drop (b+1))
  rw [← eR,O,Nat.zero_add,← A,P] at B
  have B:=Option.some.inj B
  have G:t≤(gv hi least now (b+1) (R.drop (b+1))).2∧t≤min o.2.Hi w.gf:=by
   have X:=wZ h (b+1) (R.drop (b+1)) (by rw [List.length_drop]; omega)
   split at B
   ·rename_i q
    have:=h.hi b o hb ho q
    omega
   ·rename_i q
    have:=h.none_ b o hb ho q
    omega
  obtain ⟨gs,J⟩:=xU h (b+1) _ t (R.drop (b+1)) (F.drop (b+1)) (by rw [List.length_drop]; omega) Q G.1 E
  refine ⟨(dk ⟨0,0⟩ (cY (R.take b)),fW w.Start (F.take b)),(ef _).2 ⟨((⟨0,0⟩:aC),w.Start),List.mem_singleton.2 U,(jS _ _ _ _).2 ⟨_,_,O,D,U⟩⟩,o,ho,U,⟨Q,G.2⟩,(R.drop (b+1)).length,by rw [List.length_drop]; omega,_,(jS _ _ _ _).2 ⟨_,gs,U,J,U⟩,?_⟩
  show kh w (dk (dk (dk ⟨0,0⟩ (cY (R.take b))) (fh o.1)) (cY (R.drop (b+1))))=true
  rw [pn,← jR,← qK,show R.take b++[o.1]++R.drop (b+1)=R from by rw [List.append_assoc]; exact eR.symm]
  exact hm
end
noncomputable def L5 (l:bf) (r:cE) (x:Int):Int:=match r.ak[x.toNat]? with
 |some s=>(cK l s).Hi
 |none=>0
theorem DB {l:bf} {r:cE} {x:Int} {s:aO} (h:r.ak[x.toNat]? =some s):L5 l r x=(cK l s).Hi:=by unfold L5; rw [h]
noncomputable def jc (l:bf) (r:cE) (rs:List Int):List Int:=(gv (L5 l r) (ed l) r.gf 0 rs).1
noncomputable def ow (l:bf) (r:cE) (n:Nat) (t i:Int):Option Int:=
 if i<0 then (if t≤r.gf then some t else none) else match r.ak[i.toNat]? with
  |some s=>if (s.gh=(n:Int)∧(cK l s).Lo≤(cK l s).Hi)∧max t (cK l s).Lo≤min r.gf (cK l s).Hi then some (max t (cK l s).Lo) else none
  |none=>none
noncomputable def gN (l:bf) (r:cE) (rs fs:List Int):List de:=if (r.ak.length:Int)-(cY rs).right≤l.cv then [⟨rs,fs,jc l r rs⟩] else []
noncomputable def g4 (l:bf) (r:cE):Nat→List Int→List Int→List de
 |0,rs,fs=>if l.bM<(cY rs).eP then [] else gN l r rs fs
 |k+1,rs,fs=>if l.bM<(cY rs).eP then [] else gN l r rs fs++(List.range (r.ak.length+1)).flatMap fun (j:Nat)=>match ow l r rs.length (fW r.Start fs+ed l rs.length) ((j:Int)-1) with
  |some t=>g4 l r k (rs++[(j:Int)-1]) (fs++[t])
  |none=>[]
noncomputable def Dr (l:bf) (r:cE) (k:Nat) (rs fs:List Int) (j:Nat):List de:=gN l r rs fs++(List.range j).flatMap fun (j:Nat)=>match ow l r rs.length (fW r.Start fs+ed l rs.length) ((j:Int)-1) with
 |some t=>g4 l r k (rs++[(j:Int)-1]) (fs++[t])
 |none=>[]
noncomputable def hE (l:bf) (r:cE) (k:Nat) (rs fs:List Int) (j:Nat):List de:=(List.range j).flatMap fun (j:Nat)=>match ow l r rs.length (fW r.Start fs+ed l rs.length) ((j:Int)-1) with
 |some t=>g4 l r k (rs++[(j:Int)-1]) (fs++[t])
 |none=>[]
section
variable {l:bf} {r:cE} {k j:Nat} {rs fs:List Int} {t:Int}
theorem qU:Dr l r k rs fs j=gN l r rs fs++hE l r k rs fs j:=rfl
theorem mS (h:ow l r rs.length (fW r.Start fs+ed l rs.length) ((j:Int)-1)=some t):hE l r k rs fs (j+1)=hE l r k rs fs j++g4 l r k (rs++[(j:Int)-1]) (fs++[t]):=by
 unfold hE; rw [List.range_succ,List.flatMap_append]; simp [h]
theorem qw (h:ow l r rs.length (fW r.Start fs+ed l rs.length) ((j:Int)-1)=none):hE l r k rs fs (j+1)=hE l r k rs fs j:=by
 unfold hE; rw [List.range_succ,List.flatMap_append]; simp [h]
theorem nq (h:l.bM<(cY rs).eP):g4 l r k rs fs=[]:=by cases k<;>exact if_pos h
theorem nE (h: ¬ l.bM<(cY rs).eP):g4 l r 0 rs fs=gN l r rs fs:=if_neg h
theorem mT (h: ¬ l.bM<(cY rs).eP):g4 l r (k+1) rs fs=Dr l r k rs fs (r.ak.length+1):=if_neg h
theorem AM {n:Nat} (hn:n<l.ae.length) (hl:0≤ed l n) (ht:r.Start≤t) {i y:Int} (hi: -1≤i):ow l r n (t+ed l n) i=some y↔ ∃ o∈ic (cr l r) n,o.1=i∧max (t+bU (cr l r) n) o.2.Lo≤min o.2.Hi (cr l r).gf∧y=max (t+bU (cr l r) n) o.2.Lo:=by
 rw [pf hn]
 have hw:(cr l r).gf=r.gf:=rfl
 unfold ow
 constructor
 ·intro h
  split at h
  ·rename_i B
   split at h
   ·cases h
    exact ⟨(-1,⟨r.Start,r.gf⟩),(qn hn).2 (.inl U),by simp only; omega,by simp only; omega,by simp only; omega⟩
   ·cases h
  ·rename_i B
   split at h
   ·rename_i s hs
    split at h
    ·rename_i q
     cases h
     exact ⟨((i.toNat:Nat),cK l s),(qn hn).2 (.inr ⟨i.toNat,(List.getElem?_eq_some_iff.1 hs).1,s,hs,q.1,U⟩),by simp only; omega,by simp only; omega,U⟩
    ·cases h
   ·cases h
 ·rintro ⟨o,ho,rfl,A,rfl⟩
  rcases (qn hn).1 ho with rfl|⟨k,hk,s,hs,q,rfl⟩
  ·simp only at A ⊢
   rw [if_pos om,if_pos om]
   congr 1; omega
  ·simp only at A ⊢
   rw [if_neg om,Int.toNat_natCast,hs]
   simp only
   rw [if_pos ⟨q,om⟩]
theorem KR (hl: ∀ n,n<l.ae.length→0≤ed l n): ∀ (k:Nat) (rs fs:List Int) (y:de),rs.length+k=l.ae.length→fs.length=rs.length→r.Start≤fW r.Start fs→
 (y∈g4 l r k rs fs↔ ∃ ss gs,jT (cr l r) rs.length (fW r.Start fs) ss gs∧ss.length≤k∧y=⟨rs++ss,fs++gs,jc l r (rs++ss)⟩∧kh (cr l r) (cY (rs++ss))=true):=by
 have D: ∀ (rs fs:List Int) (y:de),¬ l.bM<(cY rs).eP→(y∈gN l r rs fs↔y=⟨rs++[],fs++[],jc l r (rs++[])⟩∧kh (cr l r) (cY (rs++[]))=true):=by
  intro rs fs y hm
  unfold gN
  rw [List.append_nil,List.append_nil]
  have e:kh (cr l r) (cY rs)=true↔(r.ak.length:Int)-(cY rs).right≤l.cv:=by
   unfold kh
   rw [decide_eq_true_eq]
   exact ⟨fun q=>q.2,fun q=>⟨by have:(cr l r).bM=l.bM:=rfl; omega,q⟩⟩
  split
  ·rename_i q
   rw [bW]
   exact ⟨fun h=>⟨h,e.2 q⟩,fun h=>h.1⟩
  ·rename_i q
   exact ⟨fun h=>(by cases h),fun h=>absurd (e.1 h.2) q⟩
 have Kh: ∀ (rs ss:List Int),l.bM<(cY rs).eP→ ¬ kh (cr l r) (cY (rs++ss))=true:=by
  intro rs ss h q
  unfold kh at q
  have:=(of_decide_eq_true q).1
  rw [qK] at this
  have C:=sZ ss
  simp only [dk] at this
  have:(cr l r).bM=l.bM:=rfl
  omega
 intro k
 induction k with
 |zero=>
  intro rs fs y hn hf hs
  by_cases hm:l.bM<(cY rs).eP
  ·rw [nq hm]
   exact ⟨fun h=>(by cases h),fun ⟨ss,gs,_,_,_,q⟩=>absurd q (Kh rs ss hm)⟩
  ·rw [nE hm,D _ _ _ hm]
   constructor
   ·rintro ⟨B,C⟩; exact ⟨[],[],trivial,sm,B,C⟩
   ·rintro ⟨ss,gs,B,C,E,F⟩
    have e:=jv (Nat.le_zero.1 C)
    subst e
    have e:=jv (jZ _ _ _ _ B)
    subst e
    exact ⟨E,F⟩
 |succ k ih=>
  intro rs fs y hn hf hs
  by_cases hm:l.bM<(cY rs).eP
  ·rw [nq hm]
   exact ⟨fun h=>(by cases h),fun ⟨ss,gs,_,_,_,q⟩=>absurd q (Kh rs ss hm)⟩
  ·rw [mT hm]
   unfold Dr
   rw [kH,D _ _ _ hm,List.mem_flatMap]
   have A: ∀ (x y:Int),(rs++[x]).length+k=l.ae.length∧(fs++[y]).length=(rs++[x]).length:=fun x y=>by simp; omega
   constructor
   ·rintro (⟨B,C⟩|⟨j,hj,h⟩)
    ·exact ⟨[],[],trivial,sm,B,C⟩
    ·cases e:ow l r rs.length (fW r.Start fs+ed l rs.length) ((j:Int)-1) with
     |none=>rw [e] at h; cases h
     |some t=>
      rw [e] at h
      simp only at h
      obtain ⟨o,ho,B,C,E⟩:=(AM om (hl _ om) hs om).1 e
      have G:r.Start≤t:=by
       have:=hl rs.length om
       rw [pf om] at E
       omega
      obtain ⟨ss,gs,F,J,H,AA⟩:=(ih _ _ y (A _ t).1 (A _ t).2 (by rw [mQ]; exact G)).1 h
      rw [mQ,List.length_append] at F
      refine ⟨((j:Int)-1)::ss,t::gs,⟨⟨o,ho,B,C,E⟩,F⟩,by simp; omega,by simpa using H,by simpa using AA⟩
   ·rintro ⟨ss,gs,B,C,E,F⟩
    cases ss with
    |nil=>
     have e:=jv (jZ _ _ _ _ B)
     subst e
     exact .inl ⟨E,F⟩
    |cons x ss=>
     cases gs with
     |nil=>exact B.elim
     |cons t gs=>
      obtain ⟨⟨o,ho,rfl,J,H⟩,AA⟩:=B
      right
      have hx: -1≤o.1∧o.1<(r.ak.length:Int):=by
       rcases (qn om).1 ho with rfl|⟨k,hk,s,hs,q,rfl⟩
       ·simp only; omega
       ·simp only; omega
      have G:r.Start≤t:=by
       have:=hl rs.length om
       rw [pf om] at H
       omega
      have K:((o.1+1).toNat:Int)-1=o.1:=by omega
      refine ⟨(o.1+1).toNat,List.mem_range.2 om,?_⟩
      rw [K,(AM om (hl _ om) hs om).2 ⟨o,ho,rfl,J,H⟩]
      simp only
      refine (ih _ _ y (A _ t).1 (A _ t).2 (by rw [mQ]; exact G)).2 ⟨ss,gs,?_,?_,?_,?_⟩
      ·rw [mQ,List.length_append]; exact AA
      ·simp only [List.length_cons] at C; omega
      ·simpa using E
      ·simpa using F
end
theorem yc {l:bf} {r:cE} {rs fs:List Int} (h:(r.ak.length:Int)-(cY rs).right≤l.cv):gN l r rs fs=[⟨rs,fs,jc l r rs⟩]:=if_pos h
theorem xP {l:bf} {r:cE} {rs fs:List Int} (h: ¬ (r.ak.length:Int)-(cY rs).right≤l.cv):gN l r rs fs=[]:=if_neg h
noncomputable def eN (l:bf) (r:cE) (i:Nat):List aa:=(r.ak.take i).map (cK l)
noncomputable def fc (l:bf) (r:cE) (i:Nat):List Bool:=(r.ak.take i).map fun s=>decide ((cK l s).Lo≤(cK l s).Hi)
section
variable {l:bf} {r:cE} {i n:Nat} {s:aO} {rs:List Int}
theorem DO (h:r.ak[i]? =some s):eN l r (i+1)=eN l r i++[cK l s]:=by unfold eN; rw [List.take_add_one,h,List.map_append]; rfl
theorem Ea (h:r.ak[i]? =some s):fc l r (i+1)=fc l r i++[decide ((cK l s).Lo≤(cK l s).Hi)]:=by unfold fc; rw [List.take_add_one,h,List.map_append]; rfl
theorem qM (h:i≤r.ak.length):(eN l r i).length=i:=by unfold eN; rw [List.length_map,List.length_take]; omega
theorem tI (h:i≤r.ak.length):(fc l r i).length=i:=by unfold fc; rw [List.length_map,List.length_take]; omega
theorem Im {k:Nat} {z:aa} (hs:r.ak[k]? =some s) (hz:(eN l r r.ak.length)[k]? =some z):z=cK l s:=by
 unfold eN at hz
 rw [List.take_length,fy,hs] at hz
 exact (Option.some.inj hz).symm
theorem JL {k:Nat} {z:aa} (hz:(eN l r r.ak.length)[k]? =some z): ∃ s,r.ak[k]? =some s∧z=cK l s:=by
 unfold eN at hz
 rw [List.take_length,fy] at hz
 cases h:r.ak[k]? with
 |none=>rw [h] at hz; cases hz
 |some s=>rw [h] at hz; exact ⟨s,rfl,(Option.some.inj hz).symm⟩
theorem Ct {k:Nat} {z:Bool} (hs:r.ak[k]? =some s) (hz:(fc l r r.ak.length)[k]? =some z):z=true↔(cK l s).Lo≤(cK l s).Hi:=by
 unfold fc at hz
 rw [List.take_length,fy,hs] at hz
 rw [← Option.some.inj hz]
 exact decide_eq_true_iff
theorem xK (l:bf) (s:aO):(0≤(cK l s).Lo∧(cK l s).Lo≤86400001)∧ -1≤(cK l s).Hi∧(cK l s).Hi≤86400000:=by
 have A:=g_ (p:=f_ (pA l s) s.Read) (n:=86400001)
 have B:=g_ (p:=fZ (pA l s) s.Read) (n:=86400001)
 unfold cK qa
 simp only
 omega
/-- the last times from a beam on -/
noncomputable def jB (l:bf) (r:cE) (rs:List Int) (j:Nat):List Int×Int:=gv (L5 l r) (ed l) r.gf j (rs.drop j)
noncomputable def jw (l:bf) (r:cE) (rs:List Int) (j:Nat):List Int:=List.replicate j 0++(jB l r rs j).1
noncomputable def sX (l:bf) (r:cE) (rs:List Int) (j:Nat) (x:Int):Int:=if 0≤x then min (jB l r rs j).2 (L5 l r x) else (jB l r rs j).2
theorem tL:jB l r rs rs.length=([],r.gf):=by unfold jB; rw [List.drop_length]; rfl
theorem Hn:jw l r rs rs.length=List.replicate rs.length 0:=by unfold jw; rw [tL]; simp
theorem Dm:jw l r rs 0=jc l r rs:=by unfold jw jB jc; simp
theorem pb {j:Nat} {x:Int} (hj:0<j) (hx:rs[j-1]? =some x):jB l r rs (j-1)=(sX l r rs j x::(jB l r rs j).1,sX l r rs j x-ed l (j-1)):=by
 unfold jB sX
 have hb:=(List.getElem?_eq_some_iff.1 hx).1
 rw [List.drop_eq_getElem_cons hb,(List.getElem?_eq_some_iff.1 hx).2,show j-1+1=j by omega]
 simp only [gv]
 rw [show j-1+1=j by omega]
 rfl
theorem Gi {j:Nat} (h:j≤rs.length):(jw l r rs j).length=rs.length:=by unfold jw jB; rw [List.length_append,List.length_replicate,qH,List.length_drop]; omega
theorem yX {j:Nat} {x:Int} (hj:0<j) (hx:rs[j-1]? =some x):(jw l r rs j).set (j-1) (sX l r rs j x)=jw l r rs (j-1):=by
 unfold jw
 rw [pb hj hx]
 simp only
 obtain ⟨k,rfl⟩: ∃ k,j=k+1:=⟨j-1,om⟩
 rw [Nat.add_sub_cancel,List.replicate_succ',List.append_assoc,List.set_append_right _ _ sm,List.length_replicate,Nat.sub_self]
 rfl
theorem ER (hr:0≤r.gf∧r.gf≤86400000) (hl: ∀ b,b<rs.length→0≤ed l b∧ed l b≤500000000) (hrs: ∀ x∈rs,0≤x→x<(r.ak.length:Int)): ∀ (d j:Nat),j+d=rs.length→(-1-500000000*(d:Int))≤(jB l r rs j).2∧(jB l r rs j).2≤86400000
 |0,j,h=>by
  obtain rfl:j=rs.length:=by omega
  rw [tL]; simp only; omega
 |d+1,j,h=>by
  have ih:=ER hr hl hrs d (j+1) om
  have hx:rs[j+1-1]? =some (rs[j]'om):=by rw [Nat.add_sub_cancel]; exact e8 _
  have e:=pb (l:=l) (r:=r) (j:=j+1) om hx
  rw [Nat.add_sub_cancel] at e
  rw [e]
  simp only
  have A:=hl j om
  unfold sX
  split
  ·rename_i q
   have B:=hrs _ (List.getElem_mem (by omega:j<rs.length)) q
   obtain ⟨s,hs⟩: ∃ s,r.ak[(rs[j]'om).toNat]? =some s:=⟨r.ak[(rs[j]'om).toNat]'om,e8 _⟩
   rw [DB hs]
   have C:=xK l s
   omega
  ·omega
theorem JQ {t i:Int} (hi:i<0):(t≤r.gf→ow l r n t i=some t)∧(¬ t≤r.gf→ow l r n t i=none):=by
 unfold ow; rw [if_pos hi]; exact ⟨fun h=>if_pos h,fun h=>if_neg h⟩
theorem KA {t i:Int} (hi: ¬ i<0) (hs:r.ak[i.toNat]? =some s) (hb:s.gh=(n:Int)) (hw:(cK l s).Lo≤(cK l s).Hi):(max t (cK l s).Lo≤min r.gf (cK l s).Hi→ow l r n t i=some (max t (cK l s).Lo))∧(¬ max t (cK l s).Lo≤min r.gf (cK l s).Hi→ow l r n t i=none):=by
 unfold ow; rw [if_neg hi,hs]
 exact ⟨fun h=>if_pos ⟨⟨hb,hw⟩,h⟩,fun h=>if_neg fun q=>h q.2⟩
theorem xS {t i:Int} (hi: ¬ i<0) (hs:r.ak[i.toNat]? =some s) (hb: ¬ (s.gh=(n:Int)∧(cK l s).Lo≤(cK l s).Hi)):ow l r n t i=none:=by
 unfold ow; rw [if_neg hi,hs]
 exact if_neg fun q=>hb q.1
theorem tm {x:Int} (hx:rs[i]? =some x):(cY (rs.take (i+1))).right=(cY (rs.take i)).right+(if 0≤x then 1 else 0):=by
 rw [lF hx,jR]
 unfold fh
 simp only [dk]
 by_cases h:x<0
 ·rw [if_pos h,if_neg om]
 ·rw [if_neg h,if_pos om]
end
theorem vM {l:bf} {r:cE} {rs fs:List Int}:(gN l r rs fs).length≤1:=by unfold gN; split<;>simp
theorem wF {l:bf} {r:cE} (hr:r.ak.length≤10): ∀ (k:Nat) (rs fs:List Int),(g4 l r k rs fs).length≤12^(k+1)
 |0,rs,fs=>by
  unfold g4
  split
  ·simp
  ·have:=vM (l:=l) (r:=r) (rs:=rs) (fs:=fs); omega
 |k+1,rs,fs=>by
  unfold g4
  split
  ·simp
  ·rw [List.length_append]
   have B:=vM (l:=l) (r:=r) (rs:=rs) (fs:=fs)
   have A: ∀ j,(hE l r k rs fs j).length≤j*12^(k+1):=by
    intro j
    induction j with
    |zero=>simp [hE]
    |succ j ih=>
     cases e:ow l r rs.length (fW r.Start fs+ed l rs.length) ((j:Int)-1) with
     |none=>rw [qw e,Nat.succ_mul]; exact Nat.le_trans ih (Nat.le_add_right _ _)
     |some t=>rw [mS e,List.length_append,Nat.succ_mul]; exact Nat.add_le_add ih (wF hr k (rs++[(j:Int)-1]) (fs++[t]))
   have C:=A (r.ak.length+1)
   have D:(r.ak.length+1)*12^(k+1)≤11*12^(k+1):=Nat.mul_le_mul_right _ om
   have E:0<12^(k+1):=Nat.pow_pos dc
   have F:12^(k+1+1)=12*12^(k+1):=by rw [Nat.pow_succ,Nat.mul_comm]
   show (gN l r rs fs).length+(hE l r k rs fs (r.ak.length+1)).length≤_
   omega
theorem KQ {l:bf} {r:cE} (hr:r.ak.length≤10) {k j:Nat} {rs fs:List Int} (hk:k≤5) (hj:j≤11):(hE l r k rs fs j).length≤40000000:=by
 have A: ∀ j,(hE l r k rs fs j).length≤j*12^(k+1):=by
  intro j
  induction j with
  |zero=>simp [hE]
  |succ j ih=>
   cases e:ow l r rs.length (fW r.Start fs+ed l rs.length) ((j:Int)-1) with
   |none=>rw [qw e,Nat.succ_mul]; exact Nat.le_trans ih (Nat.le_add_right _ _)
   |some t=>rw [mS e,List.length_append,Nat.succ_mul]; exact Nat.add_le_add ih (wF hr k (rs++[(j:Int)-1]) (fs++[t]))
 have C:=A j
 have B:12^(k+1)≤12^6:=Nat.pow_le_pow_right dc om
 have D:j*12^(k+1)≤11*12^6:=Nat.mul_le_mul hj B
 omega
theorem uA {l:bf} {r:cE} (hr:r.ak.length≤10) {k:Nat} {rs fs:List Int} (hk:k≤6):(g4 l r k rs fs).length≤40000000:=by
 have A:=wF hr k rs fs (l:=l)
 have B:12^(k+1)≤12^7:=Nat.pow_le_pow_right dc om
 omega
noncomputable def pN (l:bf) (r:cE):List de:=g4 l r l.ae.length [] []
section
variable {l:bf} {r:cE}
theorem lR:(cr l r).n=l.ae.length:=ek
theorem OR (hle:dx l=0) (hr:ff l r):Lj (cr l r) (L5 l r) (ed l) r.gf:=by
 obtain ⟨ht,B⟩:=gE hle
 refine ⟨fun b=>((ov ht B hr).bU b).1,fun b hb=>(pf (by rw [lR] at hb; exact hb)).symm,U,fun b o hb ho A=>?_,fun b o hb ho A=>?_⟩
 ·rw [lR] at hb
  rcases (qn hb).1 ho with rfl|⟨k,hk,s,hs,q,rfl⟩
  ·simp only at A; omega
  ·exact (DB (by simpa using hs)).symm
 ·rw [lR] at hb
  rcases (qn hb).1 ho with rfl|⟨k,hk,s,hs,q,rfl⟩
  ·rfl
  ·simp only at A; omega
theorem o4 (hle:dx l=0) (hr:ff l r) {y:de}:y∈pN l r↔Ot (cr l r) (L5 l r) (ed l) r.gf y:=by
 obtain ⟨ht,D⟩:=gE hle
 have hl: ∀ n,n<l.ae.length→0≤ed l n:=fun n hn=>by have:=mR ht D (i:=n) hn; omega
 unfold pN
 rw [KR hl _ _ _ _ sm rfl (Int.le_refl _)]
 constructor
 ·rintro ⟨ss,gs,B,A,rfl,C⟩
  exact ⟨B,by rw [lR]; exact A,U,C⟩
 ·rintro ⟨B,A,E,C⟩
  rw [lR] at A
  exact ⟨y.gl,y.iy,B,A,by rw [List.nil_append,List.nil_append]; unfold jc; rw [← E],C⟩
theorem Le (hle:dx l=0) (hr:ff l r) {k:Nat} (hk:k≤l.ae.length):((pN l r).any fun y=>decide (y.gl.length=k))=jh (cr l r) (fwd (cr l r) k):=by
 rw [Bool.eq_iff_iff,BY,List.any_eq_true]
 constructor
 ·rintro ⟨y,hy,e⟩
  have h:=(o4 hle hr).1 hy
  exact ⟨y.gl,y.iy,of_decide_eq_true e,h.chain,h.may⟩
 ·rintro ⟨rs,fs,e,A,B⟩
  exact ⟨⟨rs,fs,(gv (L5 l r) (ed l) r.gf 0 rs).1⟩,(o4 hle hr).2 ⟨A,by rw [lR]; simp only; omega,U,B⟩,dw e⟩
theorem fJ (hle:dx l=0) (hr:ff l r):pN l r=[]↔ju (cr l r)=[]:=by
 constructor
 ·intro h
  apply List.eq_nil_iff_forall_not_mem.2
  intro x hx
  obtain ⟨k,rfl,hk,hm⟩:=oN.1 hx
  rw [lR] at hk
  rw [← Le hle hr hk,h] at hm
  cases hm
 ·intro h
  apply List.eq_nil_iff_forall_not_mem.2
  intro y hy
  have hw:=(o4 hle hr).1 hy
  have:(y.gl.length:Int)∈ju (cr l r):=oN.2 ⟨y.gl.length,rfl,hw.len,BY.2 ⟨_,_,rfl,hw.chain,hw.may⟩⟩
  rw [h] at this; cases this
/-- the times at a beam, by all ways -/
def iG (b:Nat) (ws:List de):List (Int×aa):=ws.filterMap fun y=>match y.gl[b]?,y.iy[b]?,y.lB[b]? with
 |some s,some f,some e=>some (s,⟨f,e⟩)
 |_,_,_=>none
theorem nD {b:Nat} {ws:List de} {q:Int×aa}:q∈iG b ws↔ ∃ y∈ws,y.gl[b]? =some q.1∧y.iy[b]? =some q.2.Lo∧y.lB[b]? =some q.2.Hi:=by
 unfold iG
 rw [List.mem_filterMap]
 constructor
 ·rintro ⟨y,hy,h⟩
  cases e1:y.gl[b]? with
  |none=>rw [e1] at h; cases h
  |some s=>
   cases e2:y.iy[b]? with
   |none=>rw [e1,e2] at h; cases h
   |some f=>
    cases e3:y.lB[b]? with
    |none=>rw [e1,e2,e3] at h; cases h
    |some e=>
     rw [e1,e2,e3] at h; cases h
     exact ⟨y,hy,e1,e2,e3⟩
 ·rintro ⟨y,hy,A,B,C⟩
  exact ⟨y,hy,by rw [A,B,C]⟩
theorem xG {b:Nat} {ws:List de} {y:de} (h:y.gl.length≤b):iG b (ws++[y])=iG b ws:=by
 unfold iG; rw [List.filterMap_append]; simp [List.getElem?_eq_none h]
theorem pJ {b:Nat} {ws:List de} {y:de} {s f e:Int} (h1:y.gl[b]? =some s) (h2:y.iy[b]? =some f) (h3:y.lB[b]? =some e):iG b (ws++[y])=iG b ws++[(s,⟨f,e⟩)]:=by
 unfold iG; rw [List.filterMap_append]; simp [h1,h2,h3]
theorem JE (hle:dx l=0) (hr:ff l r) {y:de} (hy:y∈pN l r):y.iy.length=y.gl.length∧y.lB.length=y.gl.length∧y.gl.length≤l.ae.length:=by
 have h:=(o4 hle hr).1 hy
 exact ⟨jZ _ _ _ _ h.chain,by rw [h.last,qH],by have:=h.len; rwa [lR] at this⟩
theorem td (hle:dx l=0) (hr:ff l r) {b:Nat} (hb:b<l.ae.length) {s t:Int}:(∃ q∈l3 (cr l r) b,q.1=s∧q.2.Lo≤t∧t≤q.2.Hi)↔ ∃ q∈iG b (pN l r),q.1=s∧q.2.Lo≤t∧t≤q.2.Hi:=by
 have hh:=OR hle hr
 rw [zA hh.low (by rw [lR]; exact hb),IJ hh hr.time.2.1 (by rw [lR]; exact hb)]
 constructor
 ·rintro ⟨y,hy,f,e,A,B,C,D,E⟩
  exact ⟨(s,⟨f,e⟩),nD.2 ⟨y,(o4 hle hr).2 hy,A,B,C⟩,U,D,E⟩
 ·rintro ⟨q,hq,rfl,D,E⟩
  obtain ⟨y,hy,A,B,C⟩:=nD.1 hq
  exact ⟨y,(o4 hle hr).1 hy,_,_,A,B,C,D,E⟩
/-- a way's span is none that is empty -/
theorem xQ (hle:dx l=0) (hr:ff l r) {b:Nat} {q:Int×aa} (hq:q∈iG b (pN l r)):q.2.Lo≤q.2.Hi:=by
 have hh:=OR hle hr
 obtain ⟨y,hy,C,D,H⟩:=nD.1 hq
 obtain ⟨hc,hn,B,hm⟩:=(o4 hle hr).1 hy
 obtain ⟨R,F,La⟩:=y
 simp only at C D H hc hn B
 have G:=(List.getElem?_eq_some_iff.1 C).1
 have E:=(List.getElem?_eq_some_iff.1 D).1
 have L:=jZ _ _ _ _ hc
 have eR:R=R.take b++q.1::R.drop (b+1):=by rw [← (List.getElem?_eq_some_iff.1 C).2]; exact (List.take_append_drop b R).symm.trans (by rw [List.drop_eq_getElem_cons G])
 have eF:F=F.take b++q.2.Lo::F.drop (b+1):=by rw [← (List.getElem?_eq_some_iff.1 D).2]; exact (List.take_append_drop b F).symm.trans (by rw [List.drop_eq_getElem_cons E])
 rw [eR,eF,qB _ _ _ _ _ _ (by simp only [List.length_take]; omega)] at hc
 have AA:(R.take b).length=b:=by rw [List.length_take]; omega
 rw [AA,Nat.zero_add] at hc
 obtain ⟨M,⟨o,ho,K,N,O⟩,J⟩:=hc
 have A:=sk (hi:=L5 l r) (least:=ed l) (now:=r.gf) 0 (R.take b) q.1 (R.drop (b+1))
 rw [← eR,AA,Nat.zero_add,← B,H] at A
 have A:=Option.some.inj A
 have he:=qC hh (b+1) q.2.Lo (R.drop (b+1)) (F.drop (b+1)) (by rw [List.length_drop]; omega) om J
 rw [← K] at A
 split at A
 ·rename_i z
  have:=hh.hi b o om ho z
  omega
 ·omega
theorem Bz {a b:List (Int×aa)} {h k:aa} (ha:j3 a h) (hb:j3 b k) (hab: ∀ x∈b,(∃ y∈a,y.2.Lo≤x.2.Lo)∧ ∃ y∈a,x.2.Hi≤y.2.Hi) (hba: ∀ x∈a,(∃ y∈b,y.2.Lo≤x.2.Lo)∧ ∃ y∈b,x.2.Hi≤y.2.Hi):h=k:=by
 rcases ha with ⟨rfl,rfl⟩|ha
 ·rcases hb with ⟨rfl,rfl⟩|hb
  ·rfl
  ·obtain ⟨x,hx,_⟩:=hb.lo
   obtain ⟨⟨y,hy,_⟩,_⟩:=hab x hx
   cases hy
 ·rcases hb with ⟨rfl,rfl⟩|hb
  ·obtain ⟨x,hx,_⟩:=ha.lo
   obtain ⟨⟨y,hy,_⟩,_⟩:=hba x hx
   cases hy
  ·obtain ⟨M,E,AA⟩:=ha.lo
   obtain ⟨N,F,V⟩:=ha.hi
   obtain ⟨O,G,W⟩:=hb.lo
   obtain ⟨P,H,X⟩:=hb.hi
   obtain ⟨⟨AB,A,Y⟩,_⟩:=hba M E
   obtain ⟨_,J,B,Z⟩:=hba N F
   obtain ⟨⟨K,C,c⟩,_⟩:=hab O G
   obtain ⟨_,L,D,d⟩:=hab P H
   have Q:=hb.all AB A
   have R:=hb.all J B
   have S:=ha.all K C
   have T:=ha.all L D
   apply aa.ext
   ·omega
   ·omega
theorem I3 (hle:dx l=0) (hr:ff l r) {b:Nat} (hb:b<l.ae.length) {h:aa} (hh:j3 (iG b (pN l r)) h):h=mh l r b:=by
 have hk:=uz (l:=l3 (cr l r) b) (fun q hq=>mL hq)
 refine Bz hh hk (fun x hx=>?_) (fun x hx=>?_)
 ·have hle':=mL hx
  obtain ⟨y,hy,_,A,C⟩:=(td hle hr hb (s:=x.1) (t:=x.2.Lo)).1 ⟨x,hx,rfl,Int.le_refl _,hle'⟩
  obtain ⟨z,hz,_,D,B⟩:=(td hle hr hb (s:=x.1) (t:=x.2.Hi)).1 ⟨x,hx,rfl,hle',Int.le_refl _⟩
  exact ⟨⟨y,hy,A⟩,z,hz,B⟩
 ·have hle':=xQ hle hr hx
  obtain ⟨y,hy,_,A,C⟩:=(td hle hr hb (s:=x.1) (t:=x.2.Lo)).2 ⟨x,hx,rfl,Int.le_refl _,hle'⟩
  obtain ⟨z,hz,_,D,B⟩:=(td hle hr hb (s:=x.1) (t:=x.2.Hi)).2 ⟨x,hx,rfl,hle',Int.le_refl _⟩
  exact ⟨⟨y,hy,A⟩,z,hz,B⟩
end
def pg (ws:List de) (b:Nat):Int:=if uD (iG b ws)=mg then 6 else 0
def o0 (ws:List de) (b:Nat):aa:=if uD (iG b ws)=mg then ⟨0,0⟩ else uD (iG b ws)
theorem Mo {l:List (Int×aa)} {h:aa} (hh:j3 l h) (hl: ∀ q∈l,q.2.Lo≤q.2.Hi):uD l=h:=
 Bz (uz hl) hh (fun x hx=>⟨⟨x,hx,Int.le_refl _⟩,x,hx,Int.le_refl _⟩) (fun x hx=>⟨⟨x,hx,Int.le_refl _⟩,x,hx,Int.le_refl _⟩)
theorem D3 {ws:List de} {b:Nat} (h:iG b ws=[]):pg ws b=6∧o0 ws b=⟨0,0⟩:=by
 unfold pg o0; rw [h]; exact ⟨if_pos rfl,if_pos rfl⟩
theorem Da {ws:List de} {b:Nat} {o:aa} (hl: ∀ q∈iG b ws,q.2.Lo≤q.2.Hi) (h:oh (iG b ws) o):pg ws b=0∧o0 ws b=o:=by
 have e:=Mo (.inr h) hl
 unfold pg o0; rw [e]; exact ⟨if_neg h.ne,if_neg h.ne⟩
/-- what was found until now -/
def mV (b:Nat) (ws:List de) (fd:Bool) (o:aa):Prop:=(fd=false∧iG b ws=[])∨(fd=true∧oh (iG b ws) o)
theorem F6 {b:Nat} {o:aa}:mV b [] false o:= .inl ⟨rfl,rfl⟩
theorem BM {q:Int×aa} (hq:q.2.Lo≤q.2.Hi):oh [q] q.2:=⟨hq,⟨q,sm,rfl⟩,⟨q,sm,rfl⟩,fun x hx=>by simp at hx; subst hx; exact ⟨Int.le_refl _,Int.le_refl _⟩⟩
theorem zC {l:List (Int×aa)} {h:aa} {q:Int×aa} (hh:oh l h) (hq:q.2.Lo≤q.2.Hi):oh (l++[q]) ⟨min q.2.Lo h.Lo,max q.2.Hi h.Hi⟩:=by
 have:=ur (.inr hh) hq
 unfold lY at this
 rw [if_neg hh.ne] at this
 rcases this with ⟨e,_⟩|this
 ·simp at e
 ·exact this
theorem Ed {b:Nat} {ws:List de} {fd:Bool} {o:aa} {y:de} (h:mV b ws fd o) (hy:y.gl.length≤b):mV b (ws++[y]) fd o:=by
 unfold mV; rw [xG hy]; exact h
theorem Cd {b:Nat} {ws:List de} {fd:Bool} {o:aa} {y:de} {s f e:Int} (h:mV b ws fd o) (hf:fd=false) (h1:y.gl[b]? =some s) (h2:y.iy[b]? =some f) (h3:y.lB[b]? =some e) (hle:f≤e):mV b (ws++[y]) true ⟨f,e⟩:=by
 rcases h with ⟨_,q⟩|⟨q,_⟩
 ·right
  rw [pJ h1 h2 h3,q]
  exact ⟨U,BM hle⟩
 ·rw [q] at hf; cases hf
theorem Dz {b:Nat} {ws:List de} {fd:Bool} {o:aa} {y:de} {s f e:Int} (h:mV b ws fd o) (hf:fd=true) (h1:y.gl[b]? =some s) (h2:y.iy[b]? =some f) (h3:y.lB[b]? =some e) (hle:f≤e):mV b (ws++[y]) true ⟨min f o.Lo,max e o.Hi⟩:=by
 rcases h with ⟨q,_⟩|⟨_,q⟩
 ·rw [q] at hf; cases hf
 ·right
  rw [pJ h1 h2 h3]
  exact ⟨U,zC q hle⟩
theorem yT {b:Nat} {ws:List de} {fd:Bool} {o:aa} (h:mV b ws fd o) (hl: ∀ q∈iG b ws,q.2.Lo≤q.2.Hi):(fd=false→pg ws b=6∧o0 ws b=⟨0,0⟩)∧(fd=true→pg ws b=0∧o0 ws b=o):=by
 rcases h with ⟨q,h⟩|⟨q,h⟩
 ·exact ⟨fun _=>D3 h,fun e=>(by rw [q] at e; cases e)⟩
 ·exact ⟨fun e=>(by rw [q] at e; cases e),fun _=>Da hl h⟩
section
variable {l:bf} {r:cE}
theorem IT (he:eC l r 0=0) {b:Nat} (hb:b<l.ae.length):pg (pN l r) b=eO l r b∧o0 (pN l r) b=eY l r b:=by
 obtain ⟨A,hr,_,_⟩:=jM he
 have h:=I3 A hr hb (uz fun q hq=>xQ A hr hq)
 have ho:eC l r (jz l b)=0:=by rw [G3 hb]; exact he
 unfold pg o0
 rw [h]
 by_cases e:mh l r b=mg
 ·rw [if_pos e,if_pos e,(qq ho e).1,(qq ho e).2]; exact ⟨rfl,rfl⟩
 ·rw [if_neg e,if_neg e,(nU ho e).1,(nU ho e).2]; exact ⟨rfl,rfl⟩
theorem Qp (hle:dx l=0) (hr:ff l r) {y:de} (hy:y∈pN l r) {b:Nat} {f e:Int} (hb:b<y.gl.length) (h2:y.iy[b]? =some f) (h3:y.lB[b]? =some e):f≤e:=
 xQ hle hr (q:=(y.gl[b],⟨f,e⟩)) (nD.2 ⟨y,hy,e8 _,h2,h3⟩)
theorem BC:eC l r (jz l l.bH)=eC l r 0:=by
 by_cases h:dx l=0
 ·obtain ⟨_,A⟩:=gE h
  have hh:=A.head
  unfold gi at hh
  rw [wO om]
 ·rw [n7 h,n7 h]
theorem uZ (h: ¬ eC l r 0=0):eO l r l.bH=eC l r 0:=by
 have:=(ni (b:=l.bH) (by rw [BC]; exact h)).1
 rw [this,BC]
/-- rows of times that are those of ways -/
structure Mw (ws:List de):Prop where
 lens: ∀ y∈ws,y.iy.length=y.gl.length∧y.lB.length=y.gl.length∧y.gl.length≤6
 le: ∀ y∈ws,∀ (b:Nat) f e,b<y.gl.length→y.iy[b]? =some f→y.lB[b]? =some e→f≤e
 num:ws.length≤40000000
theorem Mw.FI {ws:List de} (h:Mw ws) {b:Nat}: ∀ q∈iG b ws,q.2.Lo≤q.2.Hi:=fun q hq=>by
 obtain ⟨y,hy,A,B,C⟩:=nD.1 hq
 exact h.le y hy b _ _ (List.getElem?_eq_some_iff.1 A).1 B C
theorem Pa (hle:dx l=0) (hr:ff l r):Mw (pN l r):=by
 obtain ⟨ht,B⟩:=gE hle
 have hh:=B.head
 unfold gi at hh
 refine ⟨fun y hy=>?_,fun y hy b f e hb A C=>Qp hle hr hy hb A C,uA hr.len om⟩
 obtain ⟨D,A,C⟩:=JE hle hr hy
 exact ⟨D,A,om⟩
end
end
section
open Go.RowKit
theorem AU (l:List de) (az:List kq): ∀ v∈(List.zipWith de.cells l az).flatten,v.oneCell'=true:=by
 induction l generalizing az with
 |nil=>intro v hv; simp at hv
 |cons x l ih=>
  cases az with
  |nil=>intro v hv; simp at hv
  |cons a az=>
   intro v hv
   simp only [List.zipWith_cons_cons,List.flatten_cons,kH] at hv
   rcases hv with hv|hv
   ·simp only [de.cells,wY.cells,er,List.not_mem_nil,or_false] at hv
    rcases hv with rfl|rfl|rfl<;>rfl
   ·exact ih az v hv
theorem Mk: ∀ (m:de) (a:kq) (w:World),(∀ X∈de.owns m a,X.holds w)→ ∀ X∈de.gW m a,X.holds w:=fun m a w h X hX=>by
 simp only [de.gW,er,List.not_mem_nil,or_false] at hX
 have A:=mZ (h (own a.1.1 a.1.2 lq 1 (m.gl.map iC)) (by simp [de.owns]))
 have B:=mZ (h (own a.2.1.1 a.2.1.2 lq 1 (m.iy.map iC)) (by simp [de.owns]))
 have C:=mZ (h (own a.2.2.1 a.2.2.2 lq 1 (m.lB.map iC)) (by simp [de.owns]))
 rcases hX with rfl|rfl|rfl
 ·simpa using A
 ·simpa using B
 ·simpa using C
theorem pq: ∀ (l:List de) (az:List kq),(aS de.owns l az).all (·.wr)=true
 |[],_=>rfl
 |_::_,[]=>rfl
 |x::l,a::az=>by
  simp only [aS,List.all_append,cP]
  exact ⟨U,pq l az⟩
theorem Ji (l:List de) (az:List kq):(bq (aS de.owns l az)).wr=true:=pq l az
theorem LC {l m:List de} {az bz:List kq} (h:az.length=l.length):List.zipWith de.cells (l++m) (az++bz)=List.zipWith de.cells l az++List.zipWith de.cells m bz:=List.zipWith_append h.symm
theorem sN {l:List de} {az:List kq} (h:az.length=l.length):(List.zipWith de.cells l az).length=l.length:=by rw [List.length_zipWith]; omega
/-- what is read of a thing that is tied, and frozen -/
theorem pj {C L:List av} {a:OA} {c e sz n:Nat} {es:List (List Value)} (i:Nat) (hC:C[i]? =some (bq L).ro) (hm:own a c e sz es∈L) (hn:es.length=n):iU C (rd a n sz es).holds:=fun w hw=>by
 subst hn
 exact mZ ((show (bq L).holds w from (hw _ (aU hC):(bq L).ro.holds w)).1 _ hm)
section
variable {E:fg} {ops:Array Oper} {Q:c_} {rest:List Oper} {D:List Deferred} {L:List (Nat×Value)} {C C1:List av}
theorem St.Qn {S:BS} {w0 w:World} {X C:List av} {A:av} (h:St S w0 (bq (X++[A])::C) w):St S w0 (A::bq X::C) w:=by
 have B:=h.hO
 have D:St S w0 (X++(A::C)) w:=by simpa using B
 exact D.tied.perm (List.Perm.swap _ _ _)
theorem St.merge {S:BS} {w0 w:World} {X Y C:List av} (h:St S w0 (bq X::bq Y::C) w):St S w0 (bq (X++Y)::C) w:=by
 have A:St S w0 (bq Y::(X++C)) w:=(h.hO).perm (List.perm_middle (a:=bq Y) (l₁:=X) (l₂:=C))
 have B:St S w0 (Y++(X++C)) w:=A.hO
 have D:St S w0 ((X++Y)++C) w:=B.perm (by rw [← List.append_assoc]; exact List.perm_append_comm.append_right _)
 exact D.tied
end
section
variable {E:fg} {ops:Array Oper} {Q:c_} {rest:List Oper} {D:List Deferred} {L:List (Nat×Value)} {C:List av}
theorem z_ {A:av} {X X':List av} (e:X++[A]=X') (h:RJ E ops Q rest D L (bq X'::C)):RJ E ops Q rest D L (A::bq X::C):=fun a w hf hs=>h a w hf (hs.tie e)
theorem zo {X:List av} {A:av} (h:RJ E ops Q rest D L (A::bq X::C)):RJ E ops Q rest D L (bq (X++[A])::C):=fun a w hf hs=>h a w hf hs.Qn
theorem Jf {K:Act→World→Prop} {ms ns:List de} {az bz:List kq} (hl:az.length=ms.length) (h:KJ E K D L (bq (aS de.owns (ms++ns) (az++bz))::C)):KJ E K D L (bq (aS de.owns ms az)::bq (aS de.owns ns bz)::C):=fun a w hf hs=>h a w hf (by rw [jD hl.symm]; exact hs.merge)
end
/-- the head of the ways: the way that ends here, if it may -/
def vN (l:bf) (r:cE) (rs fs:List Int) (ra fa:RA) (hz:List kq) (LA:List av):Prop:=
 ((r.ak.length:Int)-(cY rs).right≤l.cv∧ ∃ la:RA,hz=[(ra,fa,la)]∧LA=[own la.1 la.2 lq 1 ((jc l r rs).map iC)])∨(¬ (r.ak.length:Int)-(cY rs).right≤l.cv∧hz=[]∧LA=[])
theorem vN.len {l:bf} {r:cE} {rs fs:List Int} {ra fa:RA} {hz:List kq} {LA:List av} (h:vN l r rs fs ra fa hz LA):hz.length=(gN l r rs fs).length:=by
 unfold gN
 rcases h with ⟨q,la,rfl,rfl⟩|⟨q,rfl,rfl⟩
 ·rw [if_pos q]; rfl
 ·rw [if_neg q]; rfl
theorem vN.wr {l:bf} {r:cE} {rs fs:List Int} {ra fa:RA} {hz:List kq} {LA:List av} (h:vN l r rs fs ra fa hz LA):LA.all (·.wr)=true:=by
 rcases h with ⟨q,la,rfl,rfl⟩|⟨q,rfl,rfl⟩<;>rfl
theorem HR {S:BS} {w0 w:World} {l:bf} {r:cE} {rs fs:List Int} {ra fa:RA} {hz az:List kq} {LA:List av} {R:List de} {A:av} (hh:vN l r rs fs ra fa hz LA)
 (h:St S w0 [bq [own ra.1 ra.2 lq 1 (rs.map iC),own fa.1 fa.2 lq 1 (fs.map iC)],A,bq LA,bq (aS de.owns R az)] w):St S w0 [bq (aS de.owns (gN l r rs fs++R) (hz++az)++[A])] w:=by
 rw [jD hh.len.symm]
 have D:St S w0 [own ra.1 ra.2 lq 1 (rs.map iC),own fa.1 fa.2 lq 1 (fs.map iC),A,bq LA,bq (aS de.owns R az)] w:=h.hO
 rcases hh with ⟨q,la,rfl,rfl⟩|⟨q,rfl,rfl⟩
 ·unfold gN
  rw [if_pos q]
  have B:=(St.kd [3,0,1,2,4] rfl rfl D).hO
  have E:=(St.kd [4,1,2,0,3] rfl rfl B).hO
  have C:St S w0 (((aS de.owns [(⟨rs,fs,jc l r rs⟩:de)] [(ra,fa,la)]++aS de.owns R az)++[A])++[]) w:=by
   rw [List.append_nil]
   refine E.perm ?_
   show (aS de.owns R az++(aS de.owns [(⟨rs,fs,jc l r rs⟩:de)] [(ra,fa,la)]++[A])).Perm _
   rw [← List.append_assoc]
   exact List.perm_append_comm.append_right _
  exact C.tied
 ·unfold gN
  rw [if_neg q]
  have B:=(St.kd [4,2] rfl rfl D).hO
  have C:St S w0 (((aS de.owns [] []++aS de.owns R az)++[A])++[]) w:=by
   rw [List.append_nil]; exact B
  exact C.tied
theorem Lp {E:fg} {K:Act→World→Prop} {D:List Deferred} {L:List (Nat×Value)} {l:bf} {r:cE} {rs fs:List Int} {ra fa:RA} {hz az z:List kq} {LA:List av} {R W:List de} {A A':av} (hh:vN l r rs fs ra fa hz LA) (hW:gN l r rs fs++R=W) (hz':hz++az=z) (hA:A=A')
 (h:KJ E K D L [bq (aS de.owns W z++[A'])]):KJ E K D L [bq [own ra.1 ra.2 lq 1 (rs.map iC),own fa.1 fa.2 lq 1 (fs.map iC)],A,bq LA,bq (aS de.owns R az)]:=fun a w hf hs=>h a w hf (by subst hW hz' hA; exact HR hh hs)
theorem Qm {E:fg} {K:Act→World→Prop} {D:List Deferred} {L:List (Nat×Value)} {X A:av} {W:List de} (h:KJ E K D L [bq (aS de.owns W []++[A])]):KJ E K D L [X,A]:=fun a w hf hs=>h a w hf (by
 have B:St E.S E.w0 [A] w:=St.kd [1] rfl rfl hs
 have C:St E.S E.w0 (([]++[A])++[]) w:=B
 have e:aS de.owns W []=[]:=by cases W<;>rfl
 rw [e]
 exact C.tied)
theorem GP {E:fg} {K:Act→World→Prop} {D:List Deferred} {L:List (Nat×Value)} {C:List av} (e sz:Nat) (k:KJ E K D L (own none 0 e sz []::C)):KJ E K D L C:=fun a w hf hs=>k a w hf (hs.q6 e sz)
end
section
open Go.RowKit
theorem M_ (l:bf) (kA:OA) (kC:Nat) (az:List RA) (cA:OA) (cC:Nat) (bA:OA) (bC:Nat) (r:cE) (sgA:OA) (sgC:Nat) (hin:eB l az) (hsl:r.ak.length≤1000000):
 eg Tryz.prog 163 [(vA (bJ.cells (lh l kA kC cA cC bA bC))),(vA (eG.cells (mo r sgA sgC)))] [(rd kA l.aI.length 9 (l.aI.map an.cells)),(rd cA l.ai.length 2 (List.zipWith au.cells l.ai az)),(e9 (aS au.gW l.ai az)),(rd bA l.ae.length 4 (l.ae.map bG.cells)),(rd sgA r.ak.length 2 (r.ak.map aO.cells))] (vB (decide (ff l r))):=by
 have AC:=hin.sf
 have AB:=hin.sh
 have w:=hin.oq
 have AA:=hin.se
 refine bI kr Tryz.func163 U U fun w0 Q hQ hN=>?_
 try dsimp only
 refine WS fun _ h=>fR U fun b2=>fR U fun b3=>bo 1 U<|RK h<|al fun _ j=>WS fun _ H=>fD 2 [] (mc 0 U I) U<|rS (CL (ir r.Start 0 86400000) (aK) U)<|rP 2 [] I ?_
 refine ct (t:=11) U (bh fun X=>?_) (bg fun X=>?_)
 ·refine bo 13 U<|RK H<|aQ U<|WS fun _ k=>rP 1 [] I ?_
  refine RK k<|aq<|Q1 hQ U U U ?_
  exact cB (cq fun q=>by have C:=q.time; have u:=q.len; omega).symm
 refine fD 4 [] (mc 0 U I) U<|rS (CL (ir r.gf r.Start 86400000) (aK) U)<|rP 3 [] I ?_
 refine ct (t:=19) U (bh fun Z=>?_) (bg fun Z=>?_)
 ·refine bo 5 U<|RK H<|aQ U<|WS fun _ m=>rP 1 [] I ?_
  refine RK m<|aq<|Q1 hQ U U U ?_
  exact cB (cq fun q=>by have C:=q.time; have u:=q.len; omega).symm
 refine rP 5 [] (mc 0 U I) ?_
 refine RK H<|cO U (aP fun a=>?_) (aR fun a=>?_)
 ·refine WS fun _ n=>rP 1 [] I ?_
  refine RK n<|aq<|Q1 hQ U U U ?_
  exact cB (cq fun q=>by have C:=q.time; have u:=q.len; omega).symm
 refine WK j<|al fun _ o=>WS fun _ J=>rP 1 [] I ?_
 refine RK J<|ay ?_
 have F:(0≤r.ak.length)∧(qz l r.ak 0):=by exact ⟨Nat.zero_le _,ye⟩
 refine bS (ι:={z:Nat // (z≤r.ak.length)∧(qz l r.ak z)}) [2,3] [0,1,2,3,4,5,6] U U (fun z=>[(5,(vI (z.1:Int)))]) (fun z=>[]) (fun _=>rfl) (fun _=>rfl) (fun z=>r.ak.length-z.1) ⟨0,F⟩ (aV U) (aL [0,1,2,3,4,5,6]) ?_
 clear F
 rintro ⟨i,⟨p,A⟩⟩ J11 D
 try dsimp only
 refine al fun _ K=>WS fun _ L=>rP 5 [] (mc 0 U I) ?_
 refine RK L<|bV U (aR fun Y=>?_) (aP fun Y=>?_)
 ·refine bE<|ag<|ag<|aA<|KK o<|WS fun _ T=>rP 1 [] I ?_
  refine RK T<|aq<|Q1 hQ U U U ?_
  exact cB (dw (Cn om om A om)).symm
 refine WK K<|al fun _ E=>ay<|WS fun _ M=>rP 3 [] (mc 0 U I) ?_
 obtain ⟨x,hx⟩:=aM r.ak i om
 have s:=bL aO.cells hx
 refine rS (IA i U (aD 6 U) zO dc om om)<|rS (ot i 0 (aO.cells x) U cd (aD 6 U) s U dc U U)<|AL U EK fun v=>fQ U wb U<|RK M<|al fun _ N=>WS fun _ G=>fD 6 [0,1] (mc 0 U (mc 2 U I)) U<|rS (CL (ir x.gh 0 ((l.ae.length:Int)-1)) (aK) U)<|rP 2 [] I ?_
 refine ct (t:=45) U (bh fun b=>?_) (bg fun b=>?_)
 ·refine bo 5 U<|RK G<|aQ U<|WS fun _ O=>rP 1 [] I ?_
  refine RK O<|aq<|Q1 hQ U U U ?_
  exact cB (cq fun q=>by have C:=q.sig i x hx; unfold j2 k7 at C; omega).symm
 refine fD 2 [] (mc 0 U I) U<|rS (CL (ir x.Read 0 86400000) (aK) U)<|rP 2 [] I ?_
 refine RK G<|cO U (bh fun c=>?_) (bg fun c=>?_)
 ·refine WS fun _ P=>rP 1 [] I ?_
  refine RK P<|aq<|Q1 hQ U U U ?_
  exact cB (cq fun q=>by have C:=q.sig i x hx; unfold j2 k7 at C; omega).symm
 refine WK N<|al fun _ B=>dq cy 38 kr<|dP 3 [] I ?_
 refine iw (t:=53) U (aR fun d=>?_) (aP fun d=>?_)
 ·refine km 35 U<|cL<|RK B<|aX U<|cp<|aH<|KK E<|ao<|rP 3 [] I ?_
  refine aG ?_
  have W:(vI (((i+1):Nat):Int))=(vI ((i:Int)+1)):=by exact cI om
  refine aW (D ⟨(i+1),⟨om,lK A hx (by unfold j2 k7; (rw [Gn om]; simp only; omega))⟩⟩ _ _ _ U os (dB.cons U<|dB.cons U<|bx U W<|dB.nil _) (aL [1,2,3,4,5,6,7]))
 refine dP 6 [0,1] (mc 0 U (mc 1 U I)) ?_
 obtain ⟨y,hy⟩:=aM r.ak (i-1) om
 have AE:=bL aO.cells hy
 refine dS (IA (i-1) U (aD 7 U) zO dc om om)<|dS (nH ((i-1)*2) U (aD 7 U) (Nat.mul_pos om dc) fB U)<|dS (fY (i-1) 0 (vI y.gh) U cd (aD 7 U) AE U dc U)<|dP 2 [] I ?_
 refine gJ (t:=64) U (aP fun e=>?_) (aR fun e=>?_)
 ·refine km 24 U<|cL<|RK B<|aQ U<|WS fun _ R=>rP 1 [] I ?_
  refine RK R<|aq<|Q1 hQ U U U ?_
  exact cB (cq fun q=>by have C:=q.sig i x hx; unfold j2 k7 at C; (rw [qY om hy] at C; omega)).symm
 refine mu 6 [0,1] (mc 0 U (mc 1 U I)) U<|dS (IA (i-1) U (aD 7 U) zO dc om om)<|dS (nH ((i-1)*2) U (aD 7 U) (Nat.mul_pos om dc) fB U)<|dS (fY (i-1) 0 (vI y.gh) U cd (aD 7 U) AE U dc U)<|dP 2 [] I ?_
 refine iw (t:=75) U (aR fun f=>?_) (aP fun f=>?_)
 ·refine km 13 U<|cL<|RK B<|aX U<|cp<|aH<|KK E<|ao<|rP 3 [] I ?_
  refine aG ?_
  have V:(vI (((i+1):Nat):Int))=(vI ((i:Int)+1)):=by exact cI om
  refine aW (D ⟨(i+1),⟨om,lK A hx (by unfold j2 k7; (rw [qY om hy]; omega))⟩⟩ _ _ _ U os (dB.cons U<|dB.cons U<|bx U V<|dB.nil _) (aL [1,2,3,4,5,6,7]))
 refine mu 6 [0,1] (mc 0 U (mc 1 U I)) U<|dS (IA (i-1) U (aD 7 U) zO dc om om)<|dS (nH (((i-1)*2)+1) U (aD 7 U) (Nat.mul_pos om dc) fB U)<|dS (fY (i-1) 1 (vI y.Read) U cd (aD 7 U) AE U dc U)<|dP 4 [] I ?_
 refine cL<|RK B<|cO U (aP fun g=>?_) (aR fun g=>?_)
 ·refine WS fun _ S=>rP 1 [] I ?_
  refine RK S<|aq<|Q1 hQ U U U ?_
  exact cB (cq fun q=>by have C:=q.sig i x hx; unfold j2 k7 at C; (rw [qY om hy] at C; omega)).symm
 refine cp<|aH<|KK E<|ao<|rP 3 [] I ?_
 refine aG ?_
 have AD:(vI (((i+1):Nat):Int))=(vI ((i:Int)+1)):=by exact cI om
 refine aW (D ⟨(i+1),⟨om,lK A hx (by unfold j2 k7; (rw [qY om hy]; omega))⟩⟩ _ _ _ U os (dB.cons U<|dB.cons U<|bx U AD<|dB.nil _) (aL [1,2,3,4,5,6,7]))
end
section
open Go.RowKit
theorem L8 (l:bf) (kA:OA) (kC:Nat) (az:List RA) (cA:OA) (cC:Nat) (bA:OA) (bC:Nat) (r:cE) (sgA:OA) (sgC:Nat) (hin:eB l az) (hle:dx l=0) (hr:ff l r):
 lE Tryz.prog 165 [(vA (bJ.cells (lh l kA kC cA cC bA bC))),(vA (eG.cells (mo r sgA sgC)))] [(rd kA l.aI.length 9 (l.aI.map an.cells)),(rd cA l.ai.length 2 (List.zipWith au.cells l.ai az)),(e9 (aS au.gW l.ai az)),(rd bA l.ae.length 4 (l.ae.map bG.cells)),(rd sgA r.ak.length 2 (r.ak.map aO.cells))] (fun (x:(OA)×Nat×(OA)×Nat×(OA)×Nat)=>(vA (ij.cells (ij.mk (aN.mk x.1 ((cQ l l.ae.length).length) x.2.1) (aN.mk x.2.2.1 ((eN l r r.ak.length).length) x.2.2.2.1) (aN.mk x.2.2.2.2.1 ((fc l r r.ak.length).length) x.2.2.2.2.2))))) (fun (x:(OA)×Nat×(OA)×Nat×(OA)×Nat)=>True) (fun (x:(OA)×Nat×(OA)×Nat×(OA)×Nat)=>[(own x.1 x.2.1 3 1 ((cQ l l.ae.length).map iC)),(own x.2.2.1 x.2.2.2.1 38 2 ((eN l r r.ak.length).map aa.cells)),(own x.2.2.2.2.1 x.2.2.2.2.2 4 1 ((fc l r r.ak.length).map pB))]):=by
 have AK:=hin.sf
 have AF:=hin.sh
 have AD:=hin.oq
 have AE:=hin.se
 obtain ⟨w,g⟩:=gE hle
 have t:=g.head
 unfold gi at t
 have AI:=hr.len
 have AJ:=hr.time
 refine dv kr Tryz.func165 U U fun w0 Q hQ hN=>?_
 try dsimp only
 refine WS fun _ n=>fR U fun b2=>fR U fun b3=>AL U OH fun b4=>RK n<|WS fun _ o=>AL U OH fun h=>RK o<|al fun _ p=>WS fun _ q=>rP 1 [] I ?_
 refine RK q<|ay<|fT 3 1 ?_
 have A:(0≤l.ae.length):=by exact Nat.zero_le _
 refine bS (ι:={z:Nat×(OA)×Nat // (z.1≤l.ae.length)}) [2,3,4,5] [2,3,4,5,6,7,8,9] U U (fun z=>[(6,(vI (z.1.1:Int)))]) (fun z=>[(own z.1.2.1 z.1.2.2 3 1 ((cQ l z.1.1).map iC)),(bY h 233 (ij.cells (ij.mk (aN.mk z.1.2.1 ((cQ l z.1.1).length) z.1.2.2) (aN.mk none 0 0) (aN.mk none 0 0))))]) (fun _=>rfl) (fun _=>rfl) (fun z=>l.ae.length-z.1.1) ⟨(0,none,0),A⟩ (aV U) (aL [2,3,4,5,6,7,8,9,0,1]) ?_
 clear A
 rintro ⟨⟨b,a,c⟩,F⟩ J9 m
 try dsimp only at F
 try dsimp only
 refine al fun _ K=>WS fun _ L=>rP 5 [] (mc 2 U I) ?_
 refine RK L<|cO U (aP fun j=>?_) (aR fun j=>?_)
 ·refine WK K<|al fun _ M=>ay<|dL cy [5,6,8] [1] [0] [0,1,2,3,4,5,6,7] [0,1,2,3,4,5,6,7,8,9] U U U U U<|eS U (FA 0 U fB U)<|fS U (L1 (vS a ((cQ l b).length) c) 9 U cd U U)<|eS U (LW 2 U cd U U)<|eS U (MV U) ?_
  have AH:=mR w g (i:=b) om
  refine eS U (CL (KH l kA kC az cA cC bA bC (b:Int) hin asm asm om) (bp [3,4,5,6]) U)<|eS U (FA 0 U fB U)<|e7 U<|iA U fun T14 W=>cZ (xs:=[.tmp 21]) (cs:=[(vI (ed l (b:Int).toNat))]) U cx i_ U U U U (by simp [Value.cells]) U U fun y=>aG (W _ _ (aL [1,2,3,4,5,6,7,8]) (aL [1,2,3,4,5,6,7,8,9,10]) ?_)
  refine cf U fun T16 X=>?_
  refine df (es2:=(List.map iC (cQ l (b+1)))) (m':=(cQ l (b+1)).length) 9 U U U pO U U sm (a_ (es:=List.map iC [(ed l (b:Int).toNat)]) 0 U U (by simp [bK]) U) (j9 _) (by simp only [ek]; omega) (by simp only [maxLen,ek]; omega) (by rw [uX]; simp) sm U fun H AN=>?_
  try dsimp only
  refine aG (X _ _ (aL [1,2,3,4,5,6,7,8]) ?_)
  refine cf U fun T19 Y=>UH (ij.cells (ij.mk (aN.mk H ((cQ l (b+1)).length) AN) (aN.mk none 0 0) (aN.mk none 0 0))) U zX U U<|aG (Y _ _ (aL [1,2,3,4,5,6,7,8]) ?_)
  refine fK U<|aH<|KK M<|ao<|rP 3 [] I ?_
  refine aG ?_
  have e:(vI (((b+1):Nat):Int))=(vI ((b:Int)+1)):=by exact cI om
  refine aW (m ⟨((b+1),H,AN),(by first|omega|(simp only []; omega))⟩ _ _ _ U os (cW 4<|bx U e<|dB.nil _) (aL [1,2,3,4,5,6,7,8,9,10]))
 refine bE<|ag<|ag<|aA<|KK p<|al fun _ N=>WS fun _ O=>?_
 rw [show cQ l b=(cQ l l.ae.length) from by rw [show b=l.ae.length by omega]]
 refine rP 1 [] I ?_
 refine RK O<|ay<|fT 38 2<|fT 4 1 ?_
 have A:(0≤r.ak.length):=by exact Nat.zero_le _
 refine bS (ι:={z:Nat×(OA)×Nat×(OA)×Nat // (z.1≤r.ak.length)}) [2,3,4,5] [2,3,4,5,6,7,8,9,10] U U (fun z=>[(7,(vI (z.1.1:Int)))]) (fun z=>[(own z.1.2.2.2.1 z.1.2.2.2.2 4 1 ((fc l r z.1.1).map pB)),(own z.1.2.1 z.1.2.2.1 38 2 ((eN l r z.1.1).map aa.cells)),(bY h 233 (ij.cells (ij.mk (aN.mk a ((cQ l l.ae.length).length) c) (aN.mk z.1.2.1 ((eN l r z.1.1).length) z.1.2.2.1) (aN.mk z.1.2.2.2.1 ((fc l r z.1.1).length) z.1.2.2.2.2))))]) (fun _=>rfl) (fun _=>rfl) (fun z=>r.ak.length-z.1.1) ⟨(0,none,0,none,0),A⟩ (aV U) (aL [2,3,4,5,6,7,8,9,10,0,1,11]) ?_
 clear A
 rintro ⟨⟨i,ta,tc,sa,sc⟩,G⟩ J23 J
 try dsimp only at G
 try dsimp only
 refine al fun _ P=>WS fun _ R=>rP 5 [] (mc 1 U I) ?_
 refine RK R<|bV U (aR fun k=>?_) (aP fun k=>?_)
 ·refine bE<|ag<|ag<|aA<|KK N<|WS fun _ V=>?_
  rw [show eN l r i=(eN l r r.ak.length) from by rw [show i=r.ak.length by omega]]
  rw [show fc l r i=(fc l r r.ak.length) from by rw [show i=r.ak.length by omega]]
  refine rP 1 [] (mc 11 U I) ?_
  refine fQ U QP U<|RK V<|aq<|LX hQ (a,c,ta,tc,sa,sc) [8,10,9] [0] (mc 0 U I) U U U U ?_
  trivial
 refine WK P<|al fun _ S=>ay<|al fun _ T=>dL cy [10,11] [] [] [0,1,2,3,4,5,6,7,8,9,10,11] [] U U U U U<|eS U (LW 2 U cd U U)<|eS U (FA 2 U fB U)<|eS U (L1 (vS sgA r.ak.length sgC) 1 U cd U U)<|eS U (MV U) ?_
 obtain ⟨s,hs⟩:=aM r.ak i om
 have v:=bL aO.cells hs
 refine eS U (IA i U (aD 7 U) zO dc om om)<|eS U (ot i 0 (aO.cells s) U cd (aD 7 U) v U dc U U) ?_
 have u:=(hr.sig i s hs).1
 refine eS U (CL (Nf l kA kC az cA cC bA bC s hin asm (by exact u)) (bp [3,4,5,6]) U)<|eS U (MV U)<|eS U (EX U)<|eS U (EX U)<|eS U (AG U)<|e7 U<|cf U fun T29 Z=>AL U dg fun AA=>aG (Z _ _ (aL [1,2,3,4,5,6,7,8,9,10,11,12]) ?_)
 refine cf U fun T31 d=>fQ U cu U<|aG (d _ _ (aL [1,2,3,4,5,6,7,8,9,10,11,12]) ?_)
 refine fK U<|KK T<|WS fun _ AM=>rP 3 [0,1] (mc 12 U (mc 0 U I)) ?_
 refine cZ (xs:=[.tmp 44]) (cs:=(aa.cells (cK l s))) U jG dg U U U U (by simp [Value.cells,aa.aT]) U U fun AB=>?_
 refine df (es2:=(List.map aa.cells (eN l r (i+1)))) (m':=(eN l r (i+1)).length) 12 U U U EE U U sm (a_ (es:=List.map aa.cells [(cK l s)]) 0 U U (by simp [aa.aT]) U) (gR _) (by rw [qM om]; omega) (by rw [qM om]; simp only [maxLen]; omega) (by rw [DO hs]; simp) sm U fun B C=>?_
 try dsimp only
 refine bo 1 U<|jg (vs:=[(vS B ((eN l r (i+1)).length) C)]) (cs':=(ij.cells (ij.mk (aN.mk a ((cQ l l.ae.length).length) c) (aN.mk B ((eN l r (i+1)).length) C) (aN.mk sa ((fc l r i).length) sc)))) (C':=[_,_,_,_,_,_,_,_,_,_,_,_,_,(bY h 233 (ij.cells (ij.mk (aN.mk a ((cQ l l.ae.length).length) c) (aN.mk B ((eN l r (i+1)).length) C) (aN.mk sa ((fc l r i).length) sc))))]) 13 U U U Ut U U U U U U U<|RK AM<|ao<|rP 3 [] (mc 13 U I) ?_
 refine cZ (xs:=[.tmp 50]) (cs:=[(vB (decide ((cK l s).Lo≤(cK l s).Hi)))]) U Oa U6 U U U U (by simp [Value.cells]) U U fun AC=>?_
 refine df (es2:=(List.map pB (fc l r (i+1)))) (m':=(fc l r (i+1)).length) 12 U U U Rz U U sm (a_ (es:=List.map pB [(decide ((cK l s).Lo≤(cK l s).Hi))]) 0 U U (by simp [An]) U) (F8 _) (by rw [tI om]; omega) (by rw [tI om]; simp only [maxLen]; omega) (by rw [Ea hs]; simp) sm U fun D E=>?_
 try dsimp only
 refine bo 1 U<|jg (vs:=[(vS D ((fc l r (i+1)).length) E)]) (cs':=(ij.cells (ij.mk (aN.mk a ((cQ l l.ae.length).length) c) (aN.mk B ((eN l r (i+1)).length) C) (aN.mk D ((fc l r (i+1)).length) E)))) (C':=[_,_,_,_,_,_,_,_,_,_,_,_,_,_,(bY h 233 (ij.cells (ij.mk (aN.mk a ((cQ l l.ae.length).length) c) (aN.mk B ((eN l r (i+1)).length) C) (aN.mk D ((fc l r (i+1)).length) E))))]) 14 U U U Sh U U U U U U U<|aG<|aH<|KK S<|ao<|bo 2 U<|rP 1 [] I ?_
 refine aG ?_
 have f:(vI (((i+1):Nat):Int))=(vI ((i:Int)+1)):=by exact cI om
 refine aW (J ⟨((i+1),B,C,D,E),(by first|omega|(simp only []; omega))⟩ _ _ _ U os (cW 4<|bx U f<|dB.nil _) (aL [3,4,5,6,7,8,9,10,11,12,13,14]))
theorem H2 (r:cE) (sgA:OA) (sgC:Nat) (l:bf) (wA:OA) (wC:Nat) (tA:OA) (tC:Nat) (bA:OA) (bC:Nat) (rs:List Int) (rsA:OA) (rsC:Nat) (hle:dx l=0) (hr:ff l r) (hn:rs.length≤l.ae.length) (hrs: ∀ x∈rs,0≤x→x<(r.ak.length:Int)):
 lE Tryz.prog 167 [(vA (eG.cells (mo r sgA sgC))),(vA (ij.cells (ij.mk (aN.mk wA ((cQ l l.ae.length).length) wC) (aN.mk tA ((eN l r r.ak.length).length) tC) (aN.mk bA ((fc l r r.ak.length).length) bC)))),(vS rsA rs.length rsC)] [(rd sgA r.ak.length 2 (r.ak.map aO.cells)),(rd wA ((cQ l l.ae.length).length) 1 ((cQ l l.ae.length).map iC)),(rd tA ((eN l r r.ak.length).length) 2 ((eN l r r.ak.length).map aa.cells)),(rd bA ((fc l r r.ak.length).length) 1 ((fc l r r.ak.length).map pB)),(rd rsA rs.length 1 (rs.map iC))] (fun (x:(OA)×Nat)=>(vS x.1 ((jc l r rs).length) x.2)) (fun (x:(OA)×Nat)=>True) (fun (x:(OA)×Nat)=>[(own x.1 x.2 3 1 ((jc l r rs).map iC))]):=by
 obtain ⟨J,D⟩:=gE hle
 have v:=D.head
 unfold gi at v
 have AH:=hr.len
 have AI:=hr.time
 have w:=ER (l:=l) (rs:=rs) ⟨om,om⟩ (fun b hb=>by have:=mR J D (i:=b) om; omega) hrs
 have AF:=ek (l:=l) (n:=l.ae.length)
 have AJ:=qM (l:=l) (Nat.le_refl r.ak.length)
 refine dv kr Tryz.func167 U U fun w0 Q hQ hN=>?_
 try dsimp only
 refine WS fun _ h=>fR U fun b2=>fR U fun b3=>bo 1 U<|RK h<|WS fun _ m=>rP 2 [] I ?_
 refine wj (n:=rs.length) (es:=(List.map iC (List.replicate rs.length 0))) U U U pO om om (by simp only [maxLen]; omega) (by rw [List.map_replicate]; rfl) U fun E=>?_
 try dsimp only
 refine bo 1 U<|RK m<|WS fun _ p=>fD 3 [] (mc 2 U I) U<|RK p<|al fun _ q=>WS fun _ t=>rP 4 [] I ?_
 refine RK t<|ay ?_
 rw [show (own (some ⟨E,0,none⟩) rs.length 3 1 (List.map iC (List.replicate rs.length 0)))=(own (some ⟨E,0,none⟩) rs.length 3 1 ((jw l r rs rs.length).map iC)) from by rw [Hn]]
 have B:(rs.length≤rs.length):=by exact Nat.le_refl _
 have u:(vI ((jB l r rs rs.length).2))=(vI r.gf):=by rw [tL]
 refine bS (ι:={z:Nat // (z≤rs.length)}) [2,3,4,7] [1,2,3,4,5,6,7] U U (fun z=>[(8,(vI ((jB l r rs z.1).2))),(9,(vI ((z.1:Int)-1)))]) (fun z=>[(own (some ⟨E,0,none⟩) rs.length 3 1 ((jw l r rs z.1).map iC))]) (fun _=>rfl) (fun _=>rfl) (fun z=>z.1) ⟨rs.length,B⟩ (bx U u<|aV U) (aL [1,2,3,4,5,6,7,0]) ?_
 clear B
 rintro ⟨j,AA⟩ J10 F
 try dsimp only
 have AG:=Gi (l:=l) (r:=r) (rs:=rs) (j:=j) om
 refine al fun _ L=>WS fun _ M=>rP 2 [] I ?_
 refine RK M<|bV U (aR fun g=>?_) (aP fun g=>?_)
 ·refine bE<|ag<|ag<|aA<|KK q<|WS fun _ R=>rP 1 [] I ?_
  rw [show (Value.slice (some ⟨E,0,none⟩) rs.length rs.length)=(Value.slice (some ⟨E,0,none⟩) ((jc l r rs).length) rs.length) from by rw [show (jc l r rs).length=rs.length from qH _ _]]
  rw [show jw l r rs j=jc l r rs from by rw [show j=0 by omega]; exact Dm]
  refine rP 1 [] I ?_
  refine RK R<|aq<|LX hQ ((some ⟨E,0,none⟩),rs.length) [7] [] I U U U U ?_
  trivial
 refine WK L<|al fun _ G=>ay<|al fun _ H=>WS fun _ N=>rP 2 [] I ?_
 have AD:=w (rs.length-j) j om
 obtain ⟨x,hx⟩:=aM rs (j-1) om
 have d:=bL iC hx
 refine rS (IA (j-1) U (aD 6 U) cx dc om om)<|rS (fY (j-1) 0 (vI x) U cd (aD 6 U) d U dc U)<|rP 1 [] I ?_
 refine RK N<|bV U (aR fun A=>?_) (aP fun A=>?_)
 ·refine WK H<|WS fun _ P=>rP 3 [] I ?_
  obtain ⟨AM,c⟩:=aM (jw l r rs j) (j-1) om
  have hx25m:=bL iC c
  refine rS (IA (j-1) U (aj (n:=rs.length) 7 U sq) cx dc om om) ?_
  have V:((jw l r rs j).set (j-1) ((jB l r rs j).2))=(jw l r rs (j-1)):=by (rw [← yX om hx]; congr 1; unfold sX; (rw [if_neg A]; done))
  refine eD (k:=(j-1)) (o:=0) (vs:=[(vI ((jB l r rs j).2))]) (es':=(List.map iC (jw l r rs (j-1)))) (C':=[_,_,_,_,_,_,_,(own (some ⟨E,0,none⟩) rs.length 3 1 (List.map iC (jw l r rs (j-1))))]) 7 U U U AE U U U U hx25m U dc (by exact (List.map_set (f:=iC) (l:=(jw l r rs j)) (i:=(j-1)) (a:=(jB l r rs j).2)).symm.trans (congrArg _ V)) U<|RK P<|ao<|rP 4 [] (mc 0 U I) ?_
  obtain ⟨y,hy⟩:=aM (cQ l l.ae.length) (j-1) om
  have K:=bL iC hy
  refine rS (IA (j-1) U (aD 3 U) cx dc om om)<|rS (fY (j-1) 0 (vI y) U cd (aD 3 U) K U dc U) ?_
  have C:=t_ hy
  have AO:=mR J D (i:=j-1) om
  rw [← C] at AO
  refine bo 2 U<|aG<|aH<|KK G<|ao<|rP 3 [] I ?_
  refine aG ?_
  have W:(vI ((jB l r rs (j-1)).2))=(vI (((jB l r rs j).2)-y)):=by exact cI (by rw [pb om hx]; simp only; unfold sX; rw [C]; (rw [if_neg A]; done))
  have X:(vI ((((j-1):Nat):Int)-1))=(vI (((j:Int)-1)-1)):=by exact cI om
  refine aW (F ⟨(j-1),(by first|omega|(simp only []; omega))⟩ _ _ _ U os (cW 4<|bx U W<|bx U X<|dB.nil _) (aL [0,1,2,3,4,5,6,7]))
 refine dq cy 12 kr<|dP 5 [] (mc 0 U I) ?_
 refine dS (IA (j-1) U (aD 6 U) cx dc om om)<|dS (fY (j-1) 0 (vI x) U cd (aD 6 U) d U dc U) ?_
 have AK:=hrs x (aU hx) A
 obtain ⟨z,hz⟩:=aM (eN l r r.ak.length) ((x).toNat) om
 have AC:=bL aa.cells hz
 refine dS (IA ((x).toNat) U (aD 4 U) jG dc om om)<|dS (nH ((((x).toNat)*2)+1) U (aD 4 U) (Nat.mul_pos om dc) fB U) ?_
 obtain ⟨s,hs,e⟩:=JL hz
 have AB:=xK l s
 rw [← e] at AB
 have Y:L5 l r x=z.Hi:=by rw [DB hs,e]
 refine dS (fY ((x).toNat) 1 (vI z.Hi) U cd (aD 4 U) AC U dc U)<|dS (MN U)<|km 1 U<|cL<|RK H<|WS fun _ O=>rP 3 [] I ?_
 obtain ⟨AL,Z⟩:=aM (jw l r rs j) (j-1) om
 have hx19m:=bL iC Z
 refine rS (IA (j-1) U (aj (n:=rs.length) 7 U sq) cx dc om om) ?_
 have S:((jw l r rs j).set (j-1) (min ((jB l r rs j).2) z.Hi))=(jw l r rs (j-1)):=by (rw [← yX om hx]; congr 1; unfold sX; (rw [if_pos A,Y]; done))
 refine eD (k:=(j-1)) (o:=0) (vs:=[(vI (min ((jB l r rs j).2) z.Hi))]) (es':=(List.map iC (jw l r rs (j-1)))) (C':=[_,_,_,_,_,_,_,(own (some ⟨E,0,none⟩) rs.length 3 1 (List.map iC (jw l r rs (j-1))))]) 7 U U U AE U U U U hx19m U dc (by exact (List.map_set (f:=iC) (l:=(jw l r rs j)) (i:=(j-1)) (a:=(min ((jB l r rs j).2) z.Hi))).symm.trans (congrArg _ S)) U<|RK O<|ao<|rP 4 [] (mc 0 U I) ?_
 obtain ⟨y,hy⟩:=aM (cQ l l.ae.length) (j-1) om
 have K:=bL iC hy
 refine rS (IA (j-1) U (aD 3 U) cx dc om om)<|rS (fY (j-1) 0 (vI y) U cd (aD 3 U) K U dc U) ?_
 have C:=t_ hy
 have AO:=mR J D (i:=j-1) om
 rw [← C] at AO
 refine bo 2 U<|aG<|aH<|KK G<|ao<|rP 3 [] I ?_
 refine aG ?_
 have T:(vI ((jB l r rs (j-1)).2))=(vI ((min ((jB l r rs j).2) z.Hi)-y)):=by exact cI (by rw [pb om hx]; simp only; unfold sX; rw [C]; (rw [if_pos A,Y]; done))
 have AN:(vI ((((j-1):Nat):Int)-1))=(vI (((j:Int)-1)-1)):=by exact cI om
 refine aW (F ⟨(j-1),(by first|omega|(simp only []; omega))⟩ _ _ _ U os (cW 4<|bx U T<|bx U AN<|dB.nil _) (aL [0,1,2,3,4,5,6,7]))
end
section
open Go.RowKit
theorem Gr (l:bf) (kA:OA) (kC:Nat) (az:List RA) (cA:OA) (cC:Nat) (bA:OA) (bC:Nat) (r:cE) (sgA:OA) (sgC:Nat) (vwA:OA) (vwC:Nat) (vtA:OA) (vtC:Nat) (vbA:OA) (vbC k:Nat) (rs:List Int) (rA:OA) (rC:Nat) (fs:List Int) (fA:OA) (fC:Nat) (hin:eB l az) (hle:dx l=0) (hr:ff l r) (hk:rs.length+k=l.ae.length) (hfl:fs.length=rs.length) (hst:r.Start≤fW r.Start fs∧fW r.Start fs≤r.gf) (hrs: ∀ x∈rs,-1≤x∧x<(r.ak.length:Int)) (hrec: ∀ (k2:Nat) (rs2:List Int) (rA2:OA) (rC2:Nat) (fs2:List Int) (fA2:OA) (fC2:Nat),(k2<k)→(rs2.length+k2=l.ae.length)→(fs2.length=rs2.length)→(r.Start≤fW r.Start fs2∧fW r.Start fs2≤r.gf)→(∀ x∈rs2,-1≤x∧x<(r.ak.length:Int))→CT Tryz.prog 164 [(vA (bJ.cells (lh l kA kC cA cC bA bC))),(vA (eG.cells (mo r sgA sgC))),(vA (ij.cells (ij.mk (aN.mk vwA ((cQ l l.ae.length).length) vwC) (aN.mk vtA ((eN l r r.ak.length).length) vtC) (aN.mk vbA ((fc l r r.ak.length).length) vbC)))),(vS rA2 rs2.length rC2),(vS fA2 fs2.length fC2)] [(rd kA l.aI.length 9 (l.aI.map an.cells)),(rd cA l.ai.length 2 (List.zipWith au.cells l.ai az)),(e9 (aS au.gW l.ai az)),(rd bA l.ae.length 4 (l.ae.map bG.cells)),(rd sgA r.ak.length 2 (r.ak.map aO.cells)),(rd vwA ((cQ l l.ae.length).length) 1 ((cQ l l.ae.length).map iC)),(rd vtA ((eN l r r.ak.length).length) 2 ((eN l r r.ak.length).map aa.cells)),(rd vbA ((fc l r r.ak.length).length) 1 ((fc l r r.ak.length).map pB))] (bq [own rA2 rC2 3 1 (rs2.map iC),own fA2 fC2 3 1 (fs2.map iC)]) (fun (x:(OA)×Nat×(List kq))=>(vS x.1 ((g4 l r k2 rs2 fs2).length) x.2.1)) (fun (x:(OA)×Nat×(List kq))=>x.2.2.length=(g4 l r k2 rs2 fs2).length) (fun (x:(OA)×Nat×(List kq))=>(bq (aS de.owns (g4 l r k2 rs2 fs2) x.2.2++[own x.1 x.2.1 236 3 (List.zipWith de.cells (g4 l r k2 rs2 fs2) x.2.2)])))):
 CT Tryz.prog 164 [(vA (bJ.cells (lh l kA kC cA cC bA bC))),(vA (eG.cells (mo r sgA sgC))),(vA (ij.cells (ij.mk (aN.mk vwA ((cQ l l.ae.length).length) vwC) (aN.mk vtA ((eN l r r.ak.length).length) vtC) (aN.mk vbA ((fc l r r.ak.length).length) vbC)))),(vS rA rs.length rC),(vS fA fs.length fC)] [(rd kA l.aI.length 9 (l.aI.map an.cells)),(rd cA l.ai.length 2 (List.zipWith au.cells l.ai az)),(e9 (aS au.gW l.ai az)),(rd bA l.ae.length 4 (l.ae.map bG.cells)),(rd sgA r.ak.length 2 (r.ak.map aO.cells)),(rd vwA ((cQ l l.ae.length).length) 1 ((cQ l l.ae.length).map iC)),(rd vtA ((eN l r r.ak.length).length) 2 ((eN l r r.ak.length).map aa.cells)),(rd vbA ((fc l r r.ak.length).length) 1 ((fc l r r.ak.length).map pB))] (bq [own rA rC 3 1 (rs.map iC),own fA fC 3 1 (fs.map iC)]) (fun (x:(OA)×Nat×(List kq))=>(vS x.1 ((g4 l r k rs fs).length) x.2.1)) (fun (x:(OA)×Nat×(List kq))=>x.2.2.length=(g4 l r k rs fs).length) (fun (x:(OA)×Nat×(List kq))=>(bq (aS de.owns (g4 l r k rs fs) x.2.2++[own x.1 x.2.1 236 3 (List.zipWith de.cells (g4 l r k rs fs) x.2.2)]))):=by
 have Bl:=hin.sf
 have Bd:=hin.sh
 have Bb:=hin.oq
 have Bc:=hin.se
 obtain ⟨BJ,Am⟩:=gE hle
 have BD:=Am.head
 unfold gi at BD
 have AD:=hr.len
 have Bi:=hr.time
 have Bh:=ek (l:=l) (n:=l.ae.length)
 have Bm:=qM (l:=l) (Nat.le_refl r.ak.length)
 have Bk:=tI (l:=l) (Nat.le_refl r.ak.length)
 have Bn:=sZ rs
 refine mx kr Tryz.func164 U U fun w0 Q hQ hN=>?_
 try dsimp only
 refine B8 0 U U fun wz Sz hz=>?_
 try dsimp only
 refine WS fun _ A7=>fR U fun b2=>fR U fun b3=>fR U fun b4=>bo 1 U<|RK A7<|WS fun _ A8=>bo 1 U<|RK A8<|WS fun _ A9=>bo 4 U<|RK A9<|al fun _ A_=>WS fun _ BA=>rP 1 [] I ?_
 refine RK BA<|ay ?_
 have C:(0≤rs.length):=by exact Nat.zero_le _
 have BB:(vI ((cY (rs.take 0)).right))=(vI 0):=by rfl
 refine bS (ι:={z:Nat // (z≤rs.length)}) [3,4,5,6,7,11,12] [0,1,2,3,4,5,6,7,8,9,10,11] U U (fun z=>[(13,(vI ((cY (rs.take z.1)).right))),(14,(vI (z.1:Int)))]) (fun z=>[]) (fun _=>rfl) (fun _=>rfl) (fun z=>rs.length-z.1) ⟨0,C⟩ (bx U BB<|aV U) (aL [0,1,2,3,4,5,6,7,8,9,10,11]) ?_
 clear C
 rintro ⟨i,BF⟩ J10 g
 try dsimp only
 have BH:=sZ (rs.take i)
 rw [List.length_take] at BH
 refine al fun _ AH=>WS fun _ AI=>rP 3 [] I ?_
 refine RK AI<|cO U (aP fun A1=>?_) (aR fun A1=>?_)
 ·refine WK AH<|al fun _ h=>ay<|WS fun _ AJ=>rP 2 [] I ?_
  obtain ⟨x,hx⟩:=aM rs i om
  have BK:=bL iC hx
  refine rS (IA i U (show iU _ (rd rA rs.length 1 (rs.map iC)).holds from (pj (c:=rC) (e:=3) 3 U sm sm)) cx dc om om)<|rS (fY i 0 (vI x) U cd (show iU _ (rd rA rs.length 1 (rs.map iC)).holds from (pj (c:=rC) (e:=3) 3 U sm sm)) BK U dc U)<|rP 1 [] I ?_
  refine RK AJ<|bV U (aR fun AB=>?_) (aP fun AB=>?_)
  ·refine cp<|aH<|KK h<|ao<|rP 3 [] I ?_
   refine aG ?_
   have Ab:(vI ((cY (rs.take (i+1))).right))=(vI ((cY (rs.take i)).right)):=by exact cI (by rw [tm hx]; (rw [if_neg AB]; exact Int.add_zero _))
   have Ac:(vI (((i+1):Nat):Int))=(vI ((i:Int)+1)):=by exact cI om
   refine aW (g ⟨(i+1),(by first|omega|(simp only []; omega))⟩ _ _ _ U os (cW 7<|bx U Ab<|bx U Ac<|dB.nil _) (aL [0,1,2,3,4,5,6,7,8,9,10,11]))
  refine ao<|bo 3 U<|aG<|aH<|KK h<|ao<|rP 3 [] I ?_
  refine aG ?_
  have AZ:(vI ((cY (rs.take (i+1))).right))=(vI (((cY (rs.take i)).right)+1)):=by exact cI (by rw [tm hx]; (rw [if_pos AB]; done))
  have Aa:(vI (((i+1):Nat):Int))=(vI ((i:Int)+1)):=by exact cI om
  refine aW (g ⟨(i+1),(by first|omega|(simp only []; omega))⟩ _ _ _ U os (cW 7<|bx U AZ<|bx U Aa<|dB.nil _) (aL [0,1,2,3,4,5,6,7,8,9,10,11]))
 refine bE<|ag<|ag<|aA<|KK A_<|al fun _ AK=>al fun _ AL=>?_
 rw [show rs.take i=rs from List.take_of_length_le om]
 refine ao<|rP 6 [] (mc 2 U I) ?_
 refine RK AL<|cO U (aP fun A3=>?_) (aR fun A3=>?_)
 ·refine WS fun _ AM=>dM 236 3<|rP 1 [] I ?_
  refine RK AM<|aq<|zD (C1:=[(own none 0 236 3 [])]) hz [0] U U U<|Qm (W:=g4 l r k rs fs) ?_
  rw [show (own none 0 236 3 [])=(own none 0 236 3 (List.zipWith de.cells (g4 l r k rs fs) [])) from by rw [nq om]; rfl]
  refine LM hQ (none,0,[]) 0 [] I U (by show List.all _ _=true; rw [List.all_append,pq]; rfl) U ?_ ?_
  ·exact (by rw [nq om]; rfl)
  ·rw [nq om]; rfl
 refine WK AK ?_
 refine mI (ι:={z:(OA)×Nat×(List kq)×(List av) // (vN l r rs fs (rA,rC) (fA,fC) z.2.2.1 z.2.2.2)}) [3,4,5,6,7,12] [0,1,2,3,4,5,6,7,8,9,10,11] U U (fun z=>[(11,(vS z.1.1 ((gN l r rs fs).length) z.1.2.1))]) (fun z=>[(own z.1.1 z.1.2.1 236 3 (List.zipWith de.cells (gN l r rs fs) z.1.2.2.1)),(bq z.1.2.2.2)]) (fun _=>rfl) (fun _=>rfl) ?_ fun K23 m=>?_
 ·rintro ⟨⟨oA,oC,E,LA⟩,H⟩
  try dsimp only at H
  try dsimp only
  have D:=H
  have BE:=D.len
  have Be:=vM (l:=l) (r:=r) (rs:=rs) (fs:=fs)
  refine al fun _ V=>WS fun _ AN=>rP 4 [] (mc 2 U I) ?_
  have Bo:=uA (l:=l) (r:=r) (rs:=rs) (fs:=fs) AD (k:=k) om
  refine rP 1 [] I ?_
  refine RK AN<|cO U (aP fun A4=>?_) (aR fun A4=>?_)
  ·refine WS fun _ AO=>bo 1 U<|rP 1 [] I ?_
   refine RK AO<|aq ?_
   obtain rfl:k=0:=by omega
   refine DN ?_
   try dsimp only
   refine zD (C1:=[(own oA oC 236 3 (List.zipWith de.cells (gN l r rs fs) E)),(bq LA),(bq (aS de.owns [] []))]) hz [13,14,0] U U (by simp only [fH,List.all_nil,Bool.and_true,cP]; exact ⟨U,D.wr,pq _ _⟩) ?_
   refine Lp (ra:=(rA,rC)) (fa:=(fA,fC)) (A':=(own oA oC 236 3 (List.zipWith de.cells (g4 l r 0 rs fs) E))) D ((List.append_nil _).trans (nE om).symm) (List.append_nil _) (by rw [nE om]) ?_
   refine LM hQ (oA,oC,E) 0 [] I U (by show List.all _ _=true; rw [List.all_append,pq]; rfl) U ?_ ?_
   ·exact (by (rw [nE om]; rfl))
   ·rw [nE om]; exact BE
  refine WK V<|WS fun _ AP=>?_
  obtain ⟨B,rfl⟩: ∃ B,k=B+1:=⟨k-1,om⟩
  refine rP 3 [] (mc 1 U I) ?_
  refine RK AP ?_
  refine mI (ι:=Unit) [3,4,5,6,7,11,12] [0,1,2,3,4,5,6,7,8,9,10,11,12,13] U U (fun z=>[(15,(vI (fW r.Start fs)))]) (fun z=>[]) (fun _=>rfl) (fun _=>rfl) ?_ fun K28 o=>?_
  ·intro _
   try dsimp only
   refine WS fun _ Z=>rP 4 [] (mc 0 U I) ?_
   obtain ⟨yls,Ap⟩:=aM (cQ l l.ae.length) (rs.length) om
   have Aq:=bL iC Ap
   refine rS (IA rs.length U (aD 9 U) cx dc om om)<|rS (fY rs.length 0 (vI yls) U cd (aD 9 U) Aq U dc U) ?_
   have Bg:=mR BJ Am (i:=rs.length) om
   rw [t_ Ap]
   refine bo 2 U<|RK Z<|al fun _ AR=>WS fun _ AS=>rP 1 [] I ?_
   refine RK AS<|ay ?_
   rw [show (gN l r rs fs)=((gN l r rs fs)++(hE l r B rs fs 0)) from (List.append_nil _).symm]
   rw [show E=E++[] from (List.append_nil _).symm]
   refine oa ?_
   try dsimp only
   have C:(0≤r.ak.length+1)∧(([]:List kq).length=(hE l r B rs fs 0).length):=by exact ⟨Nat.zero_le _,rfl⟩
   have d:(vI ((0:Int)-1))=(vI (-1)):=by exact cI om
   refine bS (ι:={z:Nat×(OA)×Nat×(List kq) // (z.1≤r.ak.length+1)∧(z.2.2.2.length=(hE l r B rs fs z.1).length)}) [3,4,5,6,7,12,15] [1,2,3,4,5,6,7,8,9,10,11,12,14] U U (fun z=>[(11,(vS z.1.2.1 (((gN l r rs fs)++(hE l r B rs fs z.1.1)).length) z.1.2.2.1)),(16,(vI ((z.1.1:Int)-1)))]) (fun z=>[(bq (aS de.owns (hE l r B rs fs z.1.1) z.1.2.2.2)),(own z.1.2.1 z.1.2.2.1 236 3 (List.zipWith de.cells ((gN l r rs fs)++(hE l r B rs fs z.1.1)) (E++z.1.2.2.2)))]) (fun _=>rfl) (fun _=>rfl) (fun z=>r.ak.length+1-z.1.1) ⟨(0,oA,oC,([]:List kq)),C⟩ (dB.cons U<|bx U d<|dB.nil _) (aL [1,2,3,4,5,6,7,8,9,10,11,12,14,0,13]) ?_
   clear C
   rintro ⟨⟨j,M,N,azW⟩,⟨f,A⟩⟩ J33 O
   try dsimp only at f A
   try dsimp only
   have BI:=KQ (l:=l) (r:=r) (k:=B) (j:=j) (rs:=rs) (fs:=fs) AD om om
   refine al fun _ AT=>WS fun _ AV=>rP 5 [] (mc 1 U I) ?_
   refine RK AV<|bV U (aR fun A2=>?_) (aP fun A2=>?_)
   ·refine bE<|ag<|ag<|aA<|KK AR<|WS fun _ AY=>bo 1 U<|rP 1 [] I ?_
    refine RK AY<|aq ?_
    refine zD (C1:=[(own M N 236 3 (List.zipWith de.cells ((gN l r rs fs)++(hE l r B rs fs j)) (E++azW))),(bq LA),(bq (aS de.owns (hE l r B rs fs j) azW))]) hz [14,12,13] U U (by simp only [fH,List.all_nil,Bool.and_true,cP]; exact ⟨U,D.wr,pq _ _⟩) ?_
    refine Lp (ra:=(rA,rC)) (fa:=(fA,fC)) (W:=g4 l r (B+1) rs fs) (A':=(own M N 236 3 (List.zipWith de.cells (g4 l r (B+1) rs fs) (E++azW)))) D (by rw [mT om,qU,show r.ak.length+1=j by omega]) U (by rw [mT om,qU,show r.ak.length+1=j by omega]) ?_
    refine LM hQ (M,N,(E++azW)) 0 [] I U (by show List.all _ _=true; rw [List.all_append,pq]; rfl) U ?_ ?_
    ·exact (by (rw [mT om,qU,show r.ak.length+1=j by omega]; rfl))
    ·rw [mT om,qU,show r.ak.length+1=j by omega]; simp only [List.length_append]; omega
   refine WK AT<|al fun _ P=>ay<|al fun _ AW=>dq cy 5 kr<|dP 5 [] (mc 1 U I) ?_
   refine cL<|RK AW ?_
   refine mI (ι:={z:Int×Int // ((z.1≤z.2→ow l r rs.length (fW r.Start fs+ed l rs.length) ((j:Int)-1)=some z.1)∧(¬ z.1≤z.2→ow l r rs.length (fW r.Start fs+ed l rs.length) ((j:Int)-1)=none))∧(r.Start≤z.1∧z.2≤r.gf)}) [3,4,5,6,7,11,12,15,16] [0,1,2,3,4,5,6,7,8,9,10,11,12,13,14] U U (fun z=>[(17,(vI z.1.1)),(18,(vI z.1.2))]) (fun z=>[]) (fun _=>rfl) (fun _=>rfl) ?_ fun K39 p=>?_
   ·rintro ⟨⟨tt,ee⟩,⟨BP,J⟩⟩
    try dsimp only at BP J
    try dsimp only
    have Al:=BP
    have Bf:=J
    refine WS fun _ a=>rP 3 [] I ?_
    refine RK a<|bV U (aR fun BO=>?_) (aP fun BO=>?_)
    ·refine cp<|aH<|KK P<|ao<|rP 3 [] I ?_
     refine aG ?_
     have L:(hE l r B rs fs (j+1))=(hE l r B rs fs j):=by exact qw (Al.2 BO)
     rw [← L]
     have Aj:(vI ((((j+1):Nat):Int)-1))=(vI (((j:Int)-1)+1)):=by exact cI om
     refine aW (O ⟨((j+1),M,N,azW),⟨om,by dsimp only; (rw [L]; exact A)⟩⟩ _ _ _ U os (cW 8<|bx U Aj<|dB.nil _) (aL [0,1,2,3,4,5,6,7,8,9,10,11,12,13,14]))
    refine SR (L':=[(3,(vS rA rs.length rC)),(4,(vS fA fs.length fC)),(5,(vP b2)),(6,(vP b3)),(7,(vP b4)),(11,(vS M (((gN l r rs fs)++(hE l r B rs fs j)).length) N)),(12,(vI (rs.length:Int))),(15,(vI ((fW r.Start fs)+(ed l rs.length)))),(16,(vI ((j:Int)-1))),(17,(vI tt)),(18,(vI ee)),(123,(vI tt)),(124,(vI ee)),(125,(vB (decide (tt≤ee))))]) rfl<|pw cy [0,1,2,3,5,7,11,13] [4,6,8,9,10,12,14,15,16,17,18] [false,false,false,false,false,false,false,false] [] [(bY b4 233 (ij.cells (ij.mk (aN.mk vwA ((cQ l l.ae.length).length) vwC) (aN.mk vtA ((eN l r r.ak.length).length) vtC) (aN.mk vbA ((fc l r r.ak.length).length) vbC)))),(bY b3 44 (eG.cells (mo r sgA sgC))),(bY b2 28 (bJ.cells (lh l kA kC cA cC bA bC))),(bq [own rA rC 3 1 (rs.map iC),own fA fC 3 1 (fs.map iC)]).ro,(rd kA l.aI.length 9 (l.aI.map an.cells)).ro,(rd cA l.ai.length 2 (List.zipWith au.cells l.ai az)).ro,(e9 (aS au.gW l.ai az)).ro,(rd bA l.ae.length 4 (l.ae.map bG.cells)).ro,(rd sgA r.ak.length 2 (r.ak.map aO.cells)).ro,(rd vwA ((cQ l l.ae.length).length) 1 ((cQ l l.ae.length).map iC)).ro,(rd vtA ((eN l r r.ak.length).length) 2 ((eN l r r.ak.length).map aa.cells)).ro,(rd vbA ((fc l r r.ak.length).length) 1 ((fc l r r.ak.length).map pB)).ro,(bq LA),(bq (aS de.owns (hE l r B rs fs j) azW))] [] kr (aL [0,1,2,3,4,5,6,7,8,9,10,11,12,13]) (aL [])<|eS rfl (MV rfl)<|eS rfl (LW 2 rfl cd rfl rfl)<|eS rfl (LW 1 rfl cd rfl rfl)<|eS rfl (LW 0 rfl cd rfl rfl)<|eS rfl (MV rfl)<|eS rfl (MV rfl)<|eS rfl (MV rfl)<|eS rfl (MV rfl)<|e7 rfl<|N4 [.take 4,.op 6,.take 8,.op 9,.take 10,.op 12,.take 14,.op 15,.op 16,.op 17,.op 18] [(133,(vI ((j:Int)-1))),(139,(vI tt))] (fun i=>match i with |4=>130|8=>134|10=>136|14=>140|_=>0) (fun i b=>match i with |4=> .slice (some ⟨b,0,none⟩) 0 0|8=> .slice (some ⟨b,0,none⟩) 1 1|10=> .slice (some ⟨b,0,none⟩) 0 0|14=> .slice (some ⟨b,0,none⟩) 1 1|_=>undef) (fun i b=>match i with |4=>bY b 3 []|8=>bY b 3 [(vI ((j:Int)-1))]|10=>bY b 3 []|14=>bY b 3 [(vI tt)]|_=>bY b 0 []) rfl rfl rfl kr rfl rfl (aL [0,1,2,3,4,5,6,7,8,9,10,11,12,13]) (vv (Jx rfl cx rfl rfl (fun _=>rfl) fun _=>rfl)<|w7<|vv (OK (xs:=[.tmp 133]) (cs:=[(vI ((j:Int)-1))]) rfl cx i_ rfl rfl rfl rfl (by simp [Value.cells]) rfl rfl rfl (fun _=>rfl) fun _=>rfl)<|w7<|vv (Jx rfl cx rfl rfl (fun _=>rfl) fun _=>rfl)<|w7<|vv (OK (xs:=[.tmp 139]) (cs:=[(vI tt)]) rfl cx i_ rfl rfl rfl rfl (by simp [Value.cells]) rfl rfl rfl (fun _=>rfl) fun _=>rfl)<|w7<|w7<|w7<|w7<|Pm) ?_
    intro Aw
    try dsimp only
    refine w8 U fun Y X K hT=>dY (es:=(List.map iC [])) (C':=[own (some ⟨Aw,0,none⟩) 0 3 1 (List.map iC []),_,_,_,_,_,_,_,_,_,_,_,_,_,_,_]++X) 0 U sm U (by simp [maxLen]) U ?_
    refine df (es2:=(List.map iC rs)) (m':=rs.length) 0 U U U pO U U sm (show iU _ (rd rA rs.length 1 (rs.map iC)).holds from (pj (c:=rC) (e:=3) 4 U sm sm)) (j9 _) (by first|omega|(simp; done)|(simp; omega)) (by (simp only [maxLen]; omega)) sm sm U fun BU BZ=>?_
    try dsimp only
    refine rG hT 24 16 U U (fun w hs=>St.kd [1,2,3,4,5,6,7,8,9,10,11,12,13,14] U U hs) U U ?_
    try dsimp only [List.take]
    intro BX
    try dsimp only
    refine w8 U fun Y X K hT=>?_
    refine df (es2:=(List.map iC (rs++[(j:Int)-1]))) (m':=(rs++[(j:Int)-1]).length) 1 U U U pO U U sm (a_ (es:=List.map iC [((j:Int)-1)]) 0 U U (by simp [bK]) U) (j9 _) (by first|omega|(simp; done)|(simp; omega)) (by (simp only [maxLen]; omega)) sm sm U fun At Ay=>?_
    try dsimp only
    refine rG hT 26 17 U U (fun w hs=>St.kd [2,3,4,5,6,7,8,9,10,11,12,13,14,15] U U hs) U U ?_
    try dsimp only [List.take]
    intro Ax
    try dsimp only
    refine w8 U fun Y X K hT=>dY (es:=(List.map iC [])) (C':=[own (some ⟨Ax,0,none⟩) 0 3 1 (List.map iC []),_,_,_,_,_,_,_,_,_,_,_,_,_,_,_,_,_]++X) 0 U sm U (by simp [maxLen]) U ?_
    refine df (es2:=(List.map iC fs)) (m':=fs.length) 0 U U U pO U U sm (show iU _ (rd fA fs.length 1 (fs.map iC)).holds from (pj (c:=fC) (e:=3) 6 U sm sm)) (j9 _) (by first|omega|(simp; done)|(simp; omega)) (by (simp only [maxLen]; omega)) sm sm U fun BV Ba=>?_
    try dsimp only
    refine rG hT 28 18 U U (fun w hs=>St.kd [3,4,5,6,7,8,9,10,11,12,13,14,15,16] U U hs) U U ?_
    try dsimp only [List.take]
    intro BY
    try dsimp only
    refine w8 U fun Y X K hT=>?_
    refine df (es2:=(List.map iC (fs++[tt]))) (m':=(fs++[tt]).length) 1 U U U pO U U sm (a_ (es:=List.map iC [tt]) 0 U U (by simp [bK]) U) (j9 _) (by first|omega|(simp; done)|(simp; omega)) (by (simp only [maxLen]; omega)) sm sm U fun Au Az=>?_
    try dsimp only
    refine rG hT 30 19 U U (fun w hs=>St.kd [4,5,6,7,8,9,10,11,12,13,14,15,16,17] U U hs) U U ?_
    try dsimp only [List.take]
    refine w8 U fun Y X K hT=>?_
    have R:=Al.1 BO
    refine xe<|qV 4 U ?_
    try dsimp only [List.eraseIdx]
    refine z_ U<|qV 2 U ?_
    try dsimp only [List.eraseIdx]
    refine z_ U ?_
    try dsimp only
    refine iI 0 rfl rfl rfl rfl (hrec B (rs++[(j:Int)-1]) At Ay (fs++[tt]) Au Az om (by simp only [List.length_append,List.length_singleton]; omega) (by simp only [List.length_append,List.length_singleton]; omega) (by rw [mQ]; omega) (by intro x hx; rcases List.mem_append.1 hx with hx|hx; exact hrs x hx; rw [List.mem_singleton.1 hx]; omega)) rfl (d_ 7 rfl rfl (dD (bQ _)) (d_ 8 rfl rfl (dD (bQ _)) (d_ 9 rfl rfl (dD (bQ _)) (d_ 10 rfl rfl (dD (bQ _)) (d_ 11 rfl rfl (dD (bQ _)) (d_ 12 rfl rfl (dD (bQ _)) (d_ 13 rfl rfl (dD (bQ _)) (d_ 14 rfl rfl (dD (bQ _)) kb)))))))) rfl (fun BN AE=>?_)
    obtain ⟨BS,BT,v⟩:=BN
    try dsimp only
    dsimp only at AE
    refine rG hT 31 18 U U (fun w hs=>St.kd [3,4,5,6,7,8,9,10,11,12,13,14,15,16] U U hs) U U ?_
    try dsimp only [List.take]
    refine w8 U fun Y X K hT=>qV 0 U ?_
    try dsimp only [List.eraseIdx]
    refine zo ?_
    have Bp:=uA (l:=l) (r:=r) (k:=B) (rs:=(rs++[(j:Int)-1])) (fs:=(fs++[tt])) AD om
    refine df (es2:=(List.zipWith de.cells ((gN l r rs fs)++(hE l r B rs fs (j+1))) (E++(azW++v)))) (m':=((gN l r rs fs)++(hE l r B rs fs (j+1))).length) 18 U U U OE U U (sN (by simp only [List.length_append]; omega)).symm (aj (n:=(g4 l r B (rs++[(j:Int)-1]) (fs++[tt])).length) 0 U (sN AE)) (AU _ _) (by simp only [List.length_append]; omega) (by simp only [List.length_append,maxLen]; omega) (by rw [mS R,← List.append_assoc,← List.append_assoc]; exact (LC (by simp only [List.length_append]; omega)).symm) (sN (by rw [mS R]; simp only [List.length_append]; omega)) U fun Av A0=>?_
    try dsimp only
    refine rG hT 32 19 U U (fun w hs=>St.kd [4,5,6,7,8,9,10,11,12,13,14,15,16,17] U U hs) U U ?_
    try dsimp only [List.take]
    refine w8 U fun Y X K hT=>rS (AG U)<|rG hT 33 19 U U (fun w hs=>St.kd [4,5,6,7,8,9,10,11,12,13,14,15,16,17] U U hs) U U ?_
    try dsimp only [List.take]
    refine aH<|KK P<|ao<|rP 3 [] I ?_
    refine aG<|EZ 1 U ?_
    try dsimp only [List.eraseIdx]
    refine EZ 17 U ?_
    try dsimp only [List.eraseIdx]
    refine Jf A ?_
    rw [← mS R]
    try dsimp only
    have Ai:(vI ((((j+1):Nat):Int)-1))=(vI (((j:Int)-1)+1)):=by exact cI om
    refine aW (O ⟨((j+1),Av,A0,(azW++v)),⟨om,by dsimp only; (rw [mS R,List.length_append,List.length_append,A,AE])⟩⟩ _ _ _ U os (cW 8<|bx U Ai<|dB.nil _) (aL [4,5,6,7,8,9,10,11,12,13,14,15,16,0,17]))
   refine WS fun _ a=>rP 2 [] I ?_
   refine RK a<|bV U (aR fun A6=>?_) (aP fun A6=>?_)
   ·refine cp ?_
    refine aW (iZ (aV U) (aL [0,1,2,3,4,5,6,7,8,9,10,11,12,13,14]) (p ⟨(((fW r.Start fs)+(ed l rs.length)),r.gf),⟨by exact JQ om,om⟩⟩))
   refine al fun _ AX=>WS fun _ u=>rP 3 [] (mc 1 U I) ?_
   obtain ⟨s,hs⟩:=aM r.ak ((((j:Int)-1)).toNat) om
   have BG:=bL aO.cells hs
   refine rS (IA ((((j:Int)-1)).toNat) U (aD 8 U) zO dc om om)<|rS (nH (((((j:Int)-1)).toNat)*2) U (aD 8 U) (Nat.mul_pos om dc) fB U)<|rS (fY ((((j:Int)-1)).toNat) 0 (vI s.gh) U cd (aD 8 U) BG U dc U) ?_
   have Bj:=(hr.sig _ s hs).1
   refine rP 3 [] I ?_
   refine ct (t:=99) U (bh fun AF=>?_) (bg fun AF=>?_)
   ·refine bo 7 U<|RK u<|aQ U<|bE<|ag<|ag<|aA<|KK P<|ao<|rP 3 [] I ?_
    refine aG ?_
    have L:(hE l r B rs fs (j+1))=(hE l r B rs fs j):=by exact qw (xS om hs (fun q=>AF om))
    rw [← L]
    have Ag:(vI ((((j+1):Nat):Int)-1))=(vI (((j:Int)-1)+1)):=by exact cI om
    refine aW (O ⟨((j+1),M,N,azW),⟨om,by dsimp only; (rw [L]; exact A)⟩⟩ _ _ _ U os (cW 8<|bx U Ag<|dB.nil _) (aL [0,1,2,3,4,5,6,7,8,9,10,11,12,13,14]))
   refine rP 3 [] (mc 0 U I) ?_
   obtain ⟨bs,AC⟩:=aM (fc l r r.ak.length) ((((j:Int)-1)).toNat) om
   have Ak:=bL pB AC
   refine rS (IA ((((j:Int)-1)).toNat) U (aD 11 U) Oa dc om om)<|rS (fY ((((j:Int)-1)).toNat) 0 (vB bs) U cd (aD 11 U) Ak U dc U)<|rP 2 [] I ?_
   refine RK u<|cO U (fun F=>?_) (fun F=>?_)
   ·rw [Bool.not_eq_true'] at F
    refine bE<|ag<|ag<|aA<|KK P<|ao<|rP 3 [] I ?_
    refine aG ?_
    have L:(hE l r B rs fs (j+1))=(hE l r B rs fs j):=by exact qw (xS om hs (fun q=>by rw [(Ct hs AC).2 q.2] at F; cases F))
    rw [← L]
    have Ah:(vI ((((j+1):Nat):Int)-1))=(vI (((j:Int)-1)+1)):=by exact cI om
    refine aW (O ⟨((j+1),M,N,azW),⟨om,by dsimp only; (rw [L]; exact A)⟩⟩ _ _ _ U os (cW 8<|bx U Ah<|dB.nil _) (aL [0,1,2,3,4,5,6,7,8,9,10,11,12,13,14]))
   rw [Bool.not_eq_false'] at F
   refine WK AX<|dq cy 18 kr<|dP 4 [] (mc 0 U I) ?_
   obtain ⟨z,hz⟩:=aM (eN l r r.ak.length) ((((j:Int)-1)).toNat) om
   have Ar:=bL aa.cells hz
   refine dS (IA ((((j:Int)-1)).toNat) U (aD 10 U) jG dc om om)<|dS (nH (((((j:Int)-1)).toNat)*2) U (aD 10 U) (Nat.mul_pos om dc) fB U) ?_
   have As:=Im hs hz
   have BL:=xK l s
   rw [← As] at BL
   have BC:(cK l s).Lo≤(cK l s).Hi:=(Ct hs AC).1 F
   refine dS (fY ((((j:Int)-1)).toNat) 0 (vI z.Lo) U cd (aD 10 U) Ar U dc U)<|dS (MX U)<|mu 4 [] (mc 0 U I) U<|dS (IA ((((j:Int)-1)).toNat) U (aD 10 U) jG dc om om)<|dS (nH ((((((j:Int)-1)).toNat)*2)+1) U (aD 10 U) (Nat.mul_pos om dc) fB U)<|dS (fY ((((j:Int)-1)).toNat) 1 (vI z.Hi) U cd (aD 10 U) Ar U dc U)<|dS (MN U)<|dP 2 [] I ?_
   refine cL<|aG ?_
   refine aW (iZ (aV U) (aL [0,1,2,3,4,5,6,7,8,9,10,11,12,13,14]) (p ⟨((max ((fW r.Start fs)+(ed l rs.length)) z.Lo),(min r.gf z.Hi)),⟨by (rw [As]; exact KA om hs om BC),om⟩⟩))
  refine WS fun _ Z=>rP 2 [] I ?_
  refine RK Z<|bV U (aR fun A5=>?_) (aP fun A5=>?_)
  ·refine cp ?_
   have Ae:(vI (fW r.Start fs))=(vI r.Start):=by exact cI (by have e:fs=[]:=jv om; rw [e]; rfl)
   refine aW (iZ (cW 7<|bx U Ae<|dB.nil _) (aL [0,1,2,3,4,5,6,7,8,9,10,11,12,13]) (o ()))
  refine ao<|rP 3 [] I ?_
  obtain ⟨xf,An⟩:=aM fs (rs.length-1) om
  have Ao:=bL iC An
  refine rS (IA (rs.length-1) U (show iU _ (rd fA fs.length 1 (fs.map iC)).holds from (pj (c:=fC) (e:=3) 3 U sm sm)) cx dc om om)<|rS (fY (rs.length-1) 0 (vI xf) U cd (show iU _ (rd fA fs.length 1 (fs.map iC)).holds from (pj (c:=fC) (e:=3) 3 U sm sm)) Ao U dc U)<|rP 1 [] I ?_
  refine aG ?_
  have Ad:(vI (fW r.Start fs))=(vI xf):=by exact cI (AQ _ _ _ (by rw [hfl]; exact An))
  refine aW (iZ (cW 7<|bx U Ad<|dB.nil _) (aL [0,1,2,3,4,5,6,7,8,9,10,11,12,13]) (o ()))
 refine WS fun _ V=>rP 8 [0,1] (mc 1 U (mc 2 U I)) ?_
 refine RK V<|bV U (aR fun G=>?_) (aP fun G=>?_)
 ·refine cp<|DN<|GP 236 3 ?_
  rw [show (own none 0 236 3 [])=(own none 0 236 3 (List.zipWith de.cells (gN l r rs fs) [])) from by rw [xP G]; rfl]
  have Af:(vS none ((gN l r rs fs).length) 0)=(vS none 0 0):=by first|rfl|(rw [xP G]; rfl)
  refine aW (iZ (cW 6<|bx U Af<|dB.nil _) (aL [2,3,4,5,6,7,8,9,10,11,12,13,0,1]) (m ⟨(none,0,[],[]),(by exact .inr ⟨G,U,U⟩)⟩))
 refine ao<|rP 6 [0,1] (mc 1 U (mc 0 U I)) ?_
 refine cX (H2 r sgA sgC l vwA vwC vtA vtC vbA vbC rs rA rC hle hr om (by exact fun x hx h0=>(hrs x hx).2)) (lO [8,9,10,11]<|aw (show iU _ (rd rA rs.length 1 (rs.map iC)).holds from (pj (c:=rC) (e:=3) 3 U sm sm))<|aK) U fun BM BR=>?_
 obtain ⟨S,T⟩:=BM
 try dsimp only
 refine rS (SX (bj (xs:=[(0,.tmp 48),(1,.tmp 49),(2,.tmp 53)]) (cs:=(wY.cells (wY.mk (aN.mk rA rs.length rC) (aN.mk fA fs.length fC) (aN.mk S ((jc l r rs).length) T)))) U U (bk Sa U)) U U)<|cZ (xs:=[.tmp 54]) (cs:=(wY.cells (wY.mk (aN.mk rA rs.length rC) (aN.mk fA fs.length fC) (aN.mk S ((jc l r rs).length) T)))) U FR QO U U U U (by simp [Value.cells,wY.aT]) U U fun BW=>dM 236 3 ?_
 refine df (es2:=(List.zipWith de.cells (gN l r rs fs) ([((rA,rC),(fA,fC),(S,T))]))) (m':=(gN l r rs fs).length) 0 rfl rfl rfl OE rfl rfl rfl (a_ (es:=List.zipWith de.cells [(de.mk rs fs (jc l r rs))] [((rA,rC),(fA,fC),(S,T))]) 1 rfl rfl (by intro e he; simp at he; subst he; rfl) rfl) (AU _ _) dc dc (by rw [yc G]; rfl) (by rw [yc G]; rfl) rfl fun y AA=>?_
 try dsimp only
 refine xe<|OD 0 3 U U U ?_
 try dsimp only
 refine rP 1 [] I ?_
 refine aG ?_
 have d:(vS y ((gN l r rs fs).length) AA)=(vS y ((gN l r rs fs).length) AA):=by first|rfl|(rw [xP G]; rfl)
 refine aW (iZ (cW 6<|bx U d<|dB.nil _) (aL [3,4,5,6,7,8,9,10,11,12,13,14,1,0]) (m ⟨(y,AA,[((rA,rC),(fA,fC),(S,T))],[(own S T 3 1 ((jc l r rs).map iC))]),(by exact .inl ⟨G,_,U,U⟩)⟩))
theorem P4 (l:bf) (kA:OA) (kC:Nat) (az:List RA) (cA:OA) (cC:Nat) (bA:OA) (bC:Nat) (r:cE) (sgA:OA) (sgC:Nat) (vwA:OA) (vwC:Nat) (vtA:OA) (vtC:Nat) (vbA:OA) (vbC k:Nat) (rs:List Int) (rA:OA) (rC:Nat) (fs:List Int) (fA:OA) (fC:Nat) (hin:eB l az) (hle:dx l=0) (hr:ff l r) (hk:rs.length+k=l.ae.length) (hfl:fs.length=rs.length) (hst:r.Start≤fW r.Start fs∧fW r.Start fs≤r.gf) (hrs: ∀ x∈rs,-1≤x∧x<(r.ak.length:Int)):
 CT Tryz.prog 164 [(vA (bJ.cells (lh l kA kC cA cC bA bC))),(vA (eG.cells (mo r sgA sgC))),(vA (ij.cells (ij.mk (aN.mk vwA ((cQ l l.ae.length).length) vwC) (aN.mk vtA ((eN l r r.ak.length).length) vtC) (aN.mk vbA ((fc l r r.ak.length).length) vbC)))),(vS rA rs.length rC),(vS fA fs.length fC)] [(rd kA l.aI.length 9 (l.aI.map an.cells)),(rd cA l.ai.length 2 (List.zipWith au.cells l.ai az)),(e9 (aS au.gW l.ai az)),(rd bA l.ae.length 4 (l.ae.map bG.cells)),(rd sgA r.ak.length 2 (r.ak.map aO.cells)),(rd vwA ((cQ l l.ae.length).length) 1 ((cQ l l.ae.length).map iC)),(rd vtA ((eN l r r.ak.length).length) 2 ((eN l r r.ak.length).map aa.cells)),(rd vbA ((fc l r r.ak.length).length) 1 ((fc l r r.ak.length).map pB))] (bq [own rA rC 3 1 (rs.map iC),own fA fC 3 1 (fs.map iC)]) (fun (x:(OA)×Nat×(List kq))=>(vS x.1 ((g4 l r k rs fs).length) x.2.1)) (fun (x:(OA)×Nat×(List kq))=>x.2.2.length=(g4 l r k rs fs).length) (fun (x:(OA)×Nat×(List kq))=>(bq (aS de.owns (g4 l r k rs fs) x.2.2++[own x.1 x.2.1 236 3 (List.zipWith de.cells (g4 l r k rs fs) x.2.2)]))):=by
 induction k using Nat.strongRecOn generalizing rs rA rC fs fA fC with
 |ind k ih=>exact Gr l kA kC az cA cC bA bC r sgA sgC vwA vwC vtA vtC vbA vbC k rs rA rC fs fA fC hin hle hr hk hfl hst hrs (fun L F D E C A B G H AA J K=>ih L G F D E C A B H AA J K)
end
section
open Go.RowKit
theorem Nr (l:bf) (kA:OA) (kC:Nat) (az:List RA) (cA:OA) (cC:Nat) (bA:OA) (bC:Nat) (r:cE) (sgA:OA) (sgC:Nat) (hin:eB l az) (hsl:r.ak.length≤1000000):
 lE Tryz.prog 154 [(vA (bJ.cells (lh l kA kC cA cC bA bC))),(vA (eG.cells (mo r sgA sgC)))] [(rd kA l.aI.length 9 (l.aI.map an.cells)),(rd cA l.ai.length 2 (List.zipWith au.cells l.ai az)),(e9 (aS au.gW l.ai az)),(rd bA l.ae.length 4 (l.ae.map bG.cells)),(rd sgA r.ak.length 2 (r.ak.map aO.cells))] (fun (x:Bool×Int×(OA)×Nat×(List kq))=>bif x.1 then (vT [(vS x.2.2.1 ((pN l r).length) x.2.2.2.1),(vI 0)]) else (vT [(vS none 0 0),(vI x.2.1)])) (fun (x:Bool×Int×(OA)×Nat×(List kq))=>(x.1=true→(eC l r 0=0∧x.2.2.2.2.length=(pN l r).length))∧(x.1=false→(x.2.1=eC l r 0∧ ¬ eC l r 0=0))) (fun (x:Bool×Int×(OA)×Nat×(List kq))=>bif x.1 then [(own x.2.2.1 x.2.2.2.1 236 3 (List.zipWith de.cells (pN l r) x.2.2.2.2)),(bq (aS de.owns (pN l r) x.2.2.2.2))] else []):=by
 have k:=hin.sf
 have j:=hin.sh
 have h:=hin.oq
 have i:=hin.se
 refine dv kr Tryz.func154 U U fun o Q hQ hN=>?_
 try dsimp only
 refine WS fun _ X=>fR U fun m=>fR U fun n=>bo 2 U<|RK X<|al fun _ Y=>WS fun _ Z=>fD 1 [] (mc 1 U I) U<|rS (CL (CC l kA kC az cA cC bA bC hin) (bp [2,3,4,5]) U)<|bo 1 U<|RK Z<|WS fun _ a=>rP 2 [] I ?_
 refine RK a<|cO U (bh fun A=>?_) (bg fun A=>?_)
 ·refine WS fun _ b=>rP 3 [] I ?_
  refine RK b<|aq<|LX hQ (false,(dx l),none,0,[]) [] [] I U (by rfl) U U ?_
  exact q_<|HZ (n7 (r:=r) (me:=0) A) A
 refine WK Y<|al fun _ c=>WS fun _ d=>fD 2 [0,1] (mc 1 U (mc 0 U I)) U<|rS (CL (M_ l kA kC az cA cC bA bC r sgA sgC hin (by exact hsl)) (bp [2,3,4,5,6]) U)<|rP 1 [] I ?_
 refine RK d<|cO U (bh fun B=>?_) (bg fun B=>?_)
 ·refine WS fun _ D=>rP 2 [] I ?_
  refine RK D<|aq<|LX hQ (false,51,none,0,[]) [] [] I U (by rfl) U U ?_
  exact q_<|pM (iX (me:=0) A B)
 refine WK c<|al fun _ E=>dL cy [4,5,6] [] [] [0,1,2,3,4,5,6] [] U U U U U<|eS U (LW 1 U cd U U)<|eS U (LW 0 U cd U U)<|eS U (LW 1 U cd U U)<|eS U (LW 0 U cd U U)<|e7 U<|cf U fun T12 J=>cX (L8 l kA kC az cA cC bA bC r sgA sgC hin (by exact A) (by exact B)) (bp [2,3,4,5,6]) U fun e g=>?_
 obtain ⟨V,W,T,AA,R,S⟩:=e
 try dsimp only
 refine aG (J _ _ (aL [3,4,5,6,7,8,9]) ?_)
 refine cf U fun T21 K=>dM 3 1<|dM 3 1<|xe<|qV 1 U ?_
 try dsimp only [List.eraseIdx]
 refine z_ U<|qV 1 U ?_
 try dsimp only [List.eraseIdx]
 refine z_ U ?_
 try dsimp only
 refine iI 0 rfl rfl rfl rfl (P4 l kA kC az cA cC bA bC r sgA sgC V W T AA R S l.ae.length ([]:List Int) none 0 ([]:List Int) none 0 hin (by exact A) (by exact B) sm (by rfl) (by exact ⟨Int.le_refl _,B.time.2.1⟩) (by intro x hx; cases hx)) rfl (d_ 6 rfl rfl (dD (bQ _)) (d_ 7 rfl rfl (dD (bQ _)) (d_ 8 rfl rfl (dD (bQ _)) (d_ 9 rfl rfl (dD (bQ _)) (d_ 10 rfl rfl (dD (bQ _)) (d_ 1 rfl rfl (j1 sm) (d_ 2 rfl rfl (j1 sm) (d_ 3 rfl rfl (j1 sm) kb)))))))) rfl (fun f M=>?_)
 obtain ⟨N,O,P⟩:=f
 try dsimp only
 refine aG (K _ _ (aL [4,5,6,7,8,9,10]) ?_)
 refine cf U fun T26 L=>qV 0 U ?_
 try dsimp only [List.eraseIdx]
 refine zo ?_
 dsimp only at M
 refine rS (AG U)<|aG (L _ _ (aL [5,6,7,8,9,10,11]) ?_)
 refine fK U<|KK E<|al fun _ F=>WS fun _ G=>rP 3 [] I ?_
 refine RK G<|bV U (aR fun C=>?_) (aP fun C=>?_)
 ·refine WK F<|WS fun _ AB=>rP 3 [] I ?_
  refine RK AB<|aq ?_
  refine LX hQ (true,0,N,O,P) [0,1] [] I U (by (show List.all _ _=true; simp only [cond_true,fH,List.all_nil,Ji,Bool.and_true]; rfl)) U U ?_
  exact ⟨fun _=>⟨lM A B U fun q=>C (by rw [show g4 l r l.ae.length [] []=[] from (fJ A B).2 q]; rfl),M⟩,Np⟩
 refine WS fun _ H=>rP 2 [] I ?_
 refine RK H<|aq<|LX hQ (false,8,none,0,[]) [] [] I U (by rfl) U U ?_
 exact q_<|pM (pt (me:=0) A B U ((fJ A B).1 (jv (Int.natCast_eq_zero.1 C))))
theorem Gc (ws:List de) (wz:List kq) (wA:OA) (wC b:Nat) (hws:Mw ws) (hwz:wz.length=ws.length) (hb:b≤6):
 eg Tryz.prog 155 [(vS wA ws.length wC),(vI (b:Int))] [(rd wA ws.length 3 (List.zipWith de.cells ws wz)),(e9 (aS de.gW ws wz))] (vT [(vA (aa.cells (o0 ws b))),(vI (pg ws b))]):=by
 have u:=hws.num
 refine bI kr Tryz.func155 U U fun x Q hQ hN=>?_
 try dsimp only
 refine WS fun _ g=>AL U dg fun w=>bo 1 U<|RK g<|WS fun _ h=>AL U dg fun t=>RK h<|WS fun _ j=>bo 1 U<|RK j<|al fun _ k=>WS fun _ l=>rP 1 [] I ?_
 refine RK l<|ay ?_
 have D:(0≤ws.length)∧(mV b (ws.take 0) false (aa.mk 0 0)):=by exact ⟨Nat.zero_le _,F6⟩
 refine bS (ι:={z:Nat×Bool×aa // (z.1≤ws.length)∧(mV b (ws.take z.1) z.2.1 z.2.2)}) [0,1,4,5,6] [1,2,3] U U (fun z=>[(7,(vB z.1.2.1)),(8,(vI (z.1.1:Int)))]) (fun z=>[(bY t 38 (aa.cells z.1.2.2))]) (fun _=>rfl) (fun _=>rfl) (fun z=>ws.length-z.1.1) ⟨(0,false,(aa.mk 0 0)),D⟩ (aV U) (aL [1,2,3,0]) ?_
 clear D
 rintro ⟨⟨i,fd,o⟩,⟨J,A⟩⟩ J8 H
 try dsimp only at J A
 try dsimp only
 refine al fun _ m=>WS fun _ L=>rP 4 [] I ?_
 refine RK L<|bV U (aR fun c=>?_) (aP fun c=>?_)
 ·refine bE<|ag<|ag<|aA<|KK k<|al fun _ R=>WS fun _ S=>rP 2 [] I ?_
  refine RK S<|bV U (fun B=>?_) (fun B=>?_)
  ·rw [Bool.not_eq_false'] at B
   refine WK R<|WS fun _ AA=>fD 1 [] (mc 3 U I) U<|fQ U cu U<|rP 1 [] I ?_
   refine RK AA<|aq<|lg hQ [0] (mc 0 U I) U ?_
   have AB:=yT (by have q:=A; rwa [List.take_of_length_le om] at q) hws.FI
   (have q:=AB.2 B; rw [q.1,q.2]; done)
  rw [Bool.not_eq_true'] at B
  refine WS fun _ T=>rS (SX (bj (xs:=[]) (cs:=(aa.cells (aa.mk 0 0))) U U (bk gj U)) U U)<|fQ U cu U<|rP 1 [] I ?_
  refine RK T<|aq<|lg hQ [0] (mc 0 U I) U ?_
  have AB:=yT (by have q:=A; rwa [List.take_of_length_le om] at q) hws.FI
  (have q:=AB.1 B; rw [q.1,q.2]; done)
 refine WK m<|al fun _ C=>ay<|al fun _ M=>WS fun _ N=>rP 2 [] I ?_
 obtain ⟨y,hy⟩:=aM ws i om
 obtain ⟨ya,E⟩:=aM wz i om
 have K:(List.zipWith de.cells ws wz)[i]? =some (de.cells y ya):=dT hy E
 refine rS (IA i U (aD 1 U) FR dc om om)<|rS (nH (i*3) U (aD 1 U) (Nat.mul_pos om dc) fB U)<|rS (fY i 0 (vS ya.1.1 y.gl.length ya.1.2) U cd (aD 1 U) K U dc U)<|rP 3 [] I ?_
 refine RK N<|cO U (aP fun d=>?_) (aR fun d=>?_)
 ·refine bE<|ag<|aA<|KK C<|ao<|rP 3 [] I ?_
  refine aG ?_
  have X:(vI (((i+1):Nat):Int))=(vI ((i:Int)+1)):=by exact cI om
  refine aW (H ⟨((i+1),fd,o),⟨om,by dsimp only; rw [lF hy]; exact Ed A om⟩⟩ _ _ _ U os (cW 6<|bx U X<|dB.nil _) (aL [0,1,2,3]))
 refine WK M<|al fun _ O=>dL cy [17,18] [] [] [0,1,2,3] [] U U U U U ?_
 have v:=hws.lens y (aU hy)
 obtain ⟨s,hs⟩: ∃ s,y.gl[b]? =some s:=⟨y.gl[b]'om,e8 _⟩
 refine eS U (MV U)<|eS U (MV U)<|eS U (IA i U (aD 1 U) FR dc om om)<|eS U (nH ((i*3)+1) U (aD 1 U) (Nat.mul_pos om dc) fB U)<|eS U (fY i 1 (vS ya.2.1.1 y.iy.length ya.2.1.2) U cd (aD 1 U) K U dc U)<|eS U (MV U) ?_
 obtain ⟨f,hf⟩:=aM y.iy b om
 have p:=bL iC hf
 refine eS U (IA b U (show iU _ (rd ya.2.1.1 y.iy.length 1 (y.iy.map iC)).holds from (dy 2 U (b_ hy E (by simp [de.gW])))) cx dc om om)<|eS U (fY b 0 (vI f) U cd (show iU _ (rd ya.2.1.1 y.iy.length 1 (y.iy.map iC)).holds from (dy 2 U (b_ hy E (by simp [de.gW])))) p U dc U)<|eS U (MV U)<|eS U (MV U)<|eS U (IA i U (aD 1 U) FR dc om om)<|eS U (nH ((i*3)+2) U (aD 1 U) (Nat.mul_pos om dc) fB U)<|eS U (fY i 2 (vS ya.2.2.1 y.lB.length ya.2.2.2) U cd (aD 1 U) K U dc U)<|eS U (MV U) ?_
 obtain ⟨e,he⟩:=aM y.lB b om
 have n:=bL iC he
 refine eS U (IA b U (show iU _ (rd ya.2.2.1 y.lB.length 1 (y.lB.map iC)).holds from (dy 2 U (b_ hy E (by simp [de.gW])))) cx dc om om)<|eS U (fY b 0 (vI e) U cd (show iU _ (rd ya.2.2.1 y.lB.length 1 (y.lB.map iC)).holds from (dy 2 U (b_ hy E (by simp [de.gW])))) n U dc U)<|eS U (SX (bj (xs:=[(0,.tmp 31),(1,.tmp 39)]) (cs:=(aa.cells (aa.mk f e))) U U (bk gj U)) U U)<|e7 U<|cf U fun T17 V=>AL U dg fun r=>aG (V _ _ (aL [1,2,3,4]) ?_)
 refine cf U fun T19 W=>fQ U cu U<|aG (W _ _ (aL [1,2,3,4]) ?_)
 refine fK U<|KK O<|al fun _ F=>WS fun _ P=>?_
 have a:=hws.le y (aU hy) b f e om hf he
 refine rP 1 [] I ?_
 refine RK P<|bV U (fun G=>?_) (fun G=>?_)
 ·refine WK F<|ao<|fD 1 [] (mc 0 U I) U<|Oy U cu U<|bo 1 U<|aG<|aH<|KK C<|ao<|rP 3 [] I ?_
  refine aG ?_
  have Z:(vI (((i+1):Nat):Int))=(vI ((i:Int)+1)):=by exact cI om
  refine aW (H ⟨((i+1),true,(aa.mk f e)),⟨om,by dsimp only; rw [lF hy]; exact Cd A G hs hf he a⟩⟩ _ _ _ U os (cW 6<|bx U Z<|dB.nil _) (aL [1,2,3,4]))
 refine ao<|fD 4 [0,1] (mc 0 U (mc 4 U I)) U<|rS (MN U)<|fD 4 [0,1] (mc 0 U (mc 4 U I)) U<|rS (MX U)<|rS (SX (bj (xs:=[(0,.tmp 46),(1,.tmp 51)]) (cs:=(aa.cells (aa.mk (min f o.Lo) (max e o.Hi)))) U U (bk gj U)) U U)<|fQ U cu U<|RK F<|ao<|fD 1 [] (mc 0 U I) U<|Oy U cu U<|bo 1 U<|aG<|aH<|KK C<|ao<|rP 3 [] I ?_
 refine aG ?_
 have Y:(vI (((i+1):Nat):Int))=(vI ((i:Int)+1)):=by exact cI om
 refine aW (H ⟨((i+1),true,(aa.mk (min f o.Lo) (max e o.Hi))),⟨om,by dsimp only; rw [lF hy]; exact Dz A G hs hf he a⟩⟩ _ _ _ U os (cW 6<|bx U Y<|dB.nil _) (aL [1,2,3,4]))
end
section
open Go.RowKit
theorem O9 (l:bf) (kA:OA) (kC:Nat) (az:List RA) (cA:OA) (cC:Nat) (bA:OA) (bC:Nat) (r:cE) (sgA:OA) (sgC:Nat) (hin:eB l az) (hsl:r.ak.length≤1000000):
 eg Tryz.prog 138 [(vA (bJ.cells (bJ.mk (aZ.mk (aN.mk kA l.aI.length kC)) l.dJ (aN.mk cA l.ai.length cC) (aN.mk bA l.ae.length bC) l.bH l.cv l.bM))),(vA (eG.cells (mo r sgA sgC)))] [(rd kA l.aI.length 9 (l.aI.map an.cells)),(rd cA l.ai.length 2 (List.zipWith au.cells l.ai az)),(e9 (aS au.gW l.ai az)),(rd bA l.ae.length 4 (l.ae.map bG.cells)),(rd sgA r.ak.length 2 (r.ak.map aO.cells))] (vT [(vA (aa.cells (zY l r))),(vI (eO l r l.bH))]):=by
 have q:=hin.sf
 have j:=hin.sh
 have h:=hin.oq
 have i:=hin.se
 refine bI kr Tryz.func138 U U fun y Q hQ hN=>?_
 try dsimp only
 refine WS fun _ Z=>fR U fun v=>fR U fun w=>AL U dg fun x=>bo 1 U<|RK Z<|WS fun _ P=>rP 2 [0,1] (mc 2 U (mc 1 U I)) ?_
 refine cX (Nr l kA kC az cA cC bA bC r sgA sgC hin hsl) (bp [3,4,5,6,7]) U fun u V=>?_
 obtain ⟨W,g,e,Y,X⟩:=u
 cases W
 ·obtain ⟨R,he⟩:=V.2 rfl
  try dsimp only at R he
  subst R
  try dsimp only [cond_true,cond_false,List.cons_append,List.nil_append]
  refine bo 5 U<|RK P<|al fun _ d=>WS fun _ G=>rP 2 [] I ?_
  refine RK G<|bV U (bg fun F=>?_) (bh fun F=>?_)
  ·exact absurd F he
  refine WS fun _ H=>rS (SX (bj (xs:=[]) (cs:=(aa.cells (aa.mk 0 0))) U U (bk gj U)) U U)<|bo 1 U<|fQ U cu U<|rP 1 [] I ?_
  refine RK H<|aq<|lg hQ [0] (mc 0 U I) U ?_
  (rw [Ef (fun z=>he ((uZ he).symm.trans z)),uZ he]<;>rfl)
 obtain ⟨he,C⟩:=V.1 rfl
 try dsimp only [cond_true,cond_false,List.cons_append,List.nil_append]
 try dsimp only at he C
 obtain ⟨T,E,_,k⟩:=jM he
 obtain ⟨s,c⟩:=gE T
 have a:=c.head
 unfold gi at a
 have AA:=Pa T E
 have t:=AA.num
 have o:=E.len
 have p:=E.time
 refine bo 5 U<|RK P<|al fun _ AB=>WS fun _ J=>rP 1 [] I ?_
 refine rS (SX (bZ (r:= .bool false) U U U ig) U U)<|RK J<|aX U<|WK AB<|al fun _ K=>?_
 obtain ⟨b,S⟩: ∃ b:Nat,l.bH=(b:Int):=⟨l.bH.toNat,om⟩
 have A:=IT he (b:=b) om
 rw [← S] at A
 rw [S]
 refine ao<|fD 3 [] (mc 4 U I) U<|rS (CL (Gc (pN l r) X e Y b (by exact AA) (by exact C) om) (aw (aj (n:=(pN l r).length) 0 U (sN C))<|aw (dR 1 U Mk)<|aK) U)<|bo 3 U<|AL U dg fun f=>fQ U cu U<|bo 1 U<|RK K<|al fun _ L=>WS fun _ M=>rP 2 [] I ?_
 refine RK M<|cO U (bh fun B=>?_) (bg fun B=>?_)
 ·refine WS fun _ N=>rS (SX (bj (xs:=[]) (cs:=(aa.cells (aa.mk 0 0))) U U (bk gj U)) U U)<|bo 1 U<|Tf U cu U<|rP 1 [] I ?_
  refine RK N<|aq<|lg hQ [0] (mc 3 U I) U ?_
  (rw [Ef (fun z=>B (A.1.trans z)),← A.1]<;>rfl)
 refine WK L<|al fun _ O=>?_
 have D:eO l r l.bH=0:=A.1.symm.trans B
 have m:=w9 D
 rw [A.2]
 refine ao<|fD 10 [0,1,0,1] (mc 0 U (mc 4 U I)) U<|rS (SX (bj (xs:=[(0,.tmp 34),(1,.tmp 39)]) (cs:=(aa.cells (aa.mk (((eY l r l.bH).Lo)-r.Start) (((eY l r l.bH).Hi)-r.Start)))) U U (bk gj U)) U U)<|Tf U cu U<|rP 1 [] I ?_
 refine RK O<|aq<|lg hQ [0] (mc 3 U I) U ?_
 (rw [zx D,D])
end
section
open Go.RowKit
theorem D0 (l:bf) (kA:OA) (kC:Nat) (az:List RA) (cA:OA) (cC:Nat) (bA:OA) (bC:Nat) (d:ax) (sgA:OA) (sgC:Nat) (hin:eB l az) (hle:dx l=0) (hsl:d.cz.ak.length≤1000000) (hk:d.Out=true):
 eg Tryz.prog 107 [(vA (bJ.cells (lh l kA kC cA cC bA bC))),(vA (bu.cells (bu.mk d.Out d.eK d.Time (mo d.cz sgA sgC))))] [(rd kA l.aI.length 9 (l.aI.map an.cells)),(rd cA l.ai.length 2 (List.zipWith au.cells l.ai az)),(e9 (aS au.gW l.ai az)),(rd bA l.ae.length 4 (l.ae.map bG.cells)),(rd sgA d.cz.ak.length 2 (d.cz.ak.map aO.cells))] (vT [(vA (aa.cells (oU l d))),(vB (decide (hU l d)))]):=by
 have K:=hin.sf
 have J:=hin.sh
 have H:=hin.oq
 have AA:=hin.se
 refine bI kr Tryz.func107 U U fun O Q hQ hN=>?_
 try dsimp only
 refine WS fun _ B=>fR U fun L=>fR U fun M=>AL U dg fun N=>bo 1 U<|RK B<|al fun _ E=>ay<|WS fun _ C=>rP 3 [] (mc 1 U I) ?_
 refine RK C<|bV U (fun G=>?_) (fun G=>?_)
 ·exact absurd ((hk).symm.trans G) dc
 refine WS fun _ A=>rS (SX (bj (xs:=[]) (cs:=(aa.cells (aa.mk 0 0))) U U (bk gj U)) U U)<|rP 4 [] (mc 1 U I) ?_
 refine ck (t:=15) U (fun D=>?_) (fun D=>?_)
 ·rw [Bool.not_eq_false'] at D
  refine bo 10 U<|fQ U cu U<|rP 1 [] I ?_
  refine RK A<|aq<|lg hQ [0] (mc 0 U I) U ?_
  clear hQ hN A C E B
  rw [zu hk]
  simp only [qy hk]
  refine congrArg (fun z=>Value.tuple #[_,vB z]) ?_
  first|rfl|(simp_all [dA]; done)
 rw [Bool.not_eq_true'] at D
 refine bo 1 U<|rS (LP (aa.cells d.Time) 1 U cd U U U)<|rS (SX (bj (xs:=[]) (cs:=(aa.cells (aa.mk 0 0))) U U (bk gj U)) U U)<|rS (BI U (sv _ _ d.Time (aa.mk 0 0)))<|rP 2 [] I ?_
 refine ck (t:=21) U (aR fun F=>?_) (aP fun F=>?_)
 ·refine bo 4 U<|fQ U cu U<|rP 1 [] I ?_
  refine RK A<|aq<|lg hQ [0] (mc 0 U I) U ?_
  clear hQ hN A C E B
  rw [zu hk]
  simp only [qy hk]
  refine congrArg (fun z=>Value.tuple #[_,vB z]) ?_
  first|rfl|(simp_all [dA]; done)
 refine bo 1 U<|rS (LP (eG.cells (mo d.cz sgA sgC)) 1 U cd U U U)<|rS (CL (Fl d.cz sgA sgC) (bp [7]) U)<|bo 1 U<|fQ U cu U<|rP 1 [] I ?_
 refine RK A<|aq<|lg hQ [0] (mc 0 U I) U ?_
 clear hQ hN A C E B
 rw [zu hk]
 simp only [qy hk]
 refine congrArg (fun z=>Value.tuple #[_,vB z]) ?_
 first|rfl|(simp_all [dA]; done)
theorem DW (l:bf) (kA:OA) (kC:Nat) (az:List RA) (cA:OA) (cC:Nat) (bA:OA) (bC:Nat) (d:ax) (sgA:OA) (sgC:Nat) (hin:eB l az) (hle:dx l=0) (hsl:d.cz.ak.length≤1000000) (hk:d.Out=false∧d.eK=true):
 eg Tryz.prog 107 [(vA (bJ.cells (lh l kA kC cA cC bA bC))),(vA (bu.cells (bu.mk d.Out d.eK d.Time (mo d.cz sgA sgC))))] [(rd kA l.aI.length 9 (l.aI.map an.cells)),(rd cA l.ai.length 2 (List.zipWith au.cells l.ai az)),(e9 (aS au.gW l.ai az)),(rd bA l.ae.length 4 (l.ae.map bG.cells)),(rd sgA d.cz.ak.length 2 (d.cz.ak.map aO.cells))] (vT [(vA (aa.cells (oU l d))),(vB (decide (hU l d)))]):=by
 have N:=hin.sf
 have M:=hin.sh
 have K:=hin.oq
 have L:=hin.se
 refine bI kr Tryz.func107 U U fun S Q hQ hN=>?_
 try dsimp only
 refine WS fun _ D=>fR U fun O=>fR U fun P=>AL U dg fun R=>bo 1 U<|RK D<|al fun _ H=>ay<|WS fun _ E=>rP 3 [] (mc 1 U I) ?_
 refine RK E<|cO U (fun J=>?_) (fun J=>?_)
 ·exact absurd ((hk.1).symm.trans J) dc
 refine WS fun _ F=>rP 3 [] (mc 1 U I) ?_
 refine RK F<|bV U (fun G=>?_) (fun G=>?_)
 ·exact absurd ((hk.2).symm.trans G) dc
 refine al fun _ B=>dL cy [10] [] [] [1,2,3,4,5,6,7] [] U U U U U<|eS U (FA 2 U fB U)<|eS U (LP (aa.cells d.Time) 0 U cd U U U)<|eS U (FA 2 U fB U)<|eS U (LP (aa.cells d.Time) 0 U cd U U U)<|eS U (CL (Nv d.Time) (aK) U)<|eS U (MV U)<|qR (t:=34) U (fun A=>?_) (fun A=>?_)
 rotate_left 1
 ·replace A:=DF A
  refine eS U (OX U)<|eS U (OX U)<|eS U (OX U)<|eS U (PK U)<|eS U (AG U)<|e7 U<|cf U fun T10 C=>fQ U cu U<|aG (C _ _ (aL [1,2,3,4,5,6,7]) ?_)
  refine fK U<|KK B<|aq<|lg hQ [0] (mc 0 U I) U ?_
  clear hQ hN C T10 B F E H D
  rw [E9 hk]
  simp only [sT hk]
  refine congrArg (fun z=>Value.tuple #[_,vB z]) ?_
  first|rfl|(simp_all; done)
 replace A:=DT A
 refine eS U (FA 4 U fB U)<|eS U (LP (eG.cells (mo d.cz sgA sgC)) 0 U cd U U U)<|eS U (CL (Fl d.cz sgA sgC) (bp [6]) U)<|eS U (PK U)<|eS U (AG U)<|e7 U<|cf U fun T9 AA=>fQ U cu U<|aG (AA _ _ (aL [1,2,3,4,5,6,7]) ?_)
 refine fK U<|KK B<|aq<|lg hQ [0] (mc 0 U I) U ?_
 clear hQ hN AA T9 B F E H D
 rw [E9 hk]
 simp only [sT hk]
 refine congrArg (fun z=>Value.tuple #[_,vB z]) ?_
 first|rfl|(simp_all; done)
theorem Dq (l:bf) (kA:OA) (kC:Nat) (az:List RA) (cA:OA) (cC:Nat) (bA:OA) (bC:Nat) (d:ax) (sgA:OA) (sgC:Nat) (hin:eB l az) (hle:dx l=0) (hsl:d.cz.ak.length≤1000000) (hk:d.Out=false∧d.eK=false):
 eg Tryz.prog 107 [(vA (bJ.cells (lh l kA kC cA cC bA bC))),(vA (bu.cells (bu.mk d.Out d.eK d.Time (mo d.cz sgA sgC))))] [(rd kA l.aI.length 9 (l.aI.map an.cells)),(rd cA l.ai.length 2 (List.zipWith au.cells l.ai az)),(e9 (aS au.gW l.ai az)),(rd bA l.ae.length 4 (l.ae.map bG.cells)),(rd sgA d.cz.ak.length 2 (d.cz.ak.map aO.cells))] (vT [(vA (aa.cells (oU l d))),(vB (decide (hU l d)))]):=by
 have O:=hin.sf
 have N:=hin.sh
 have L:=hin.oq
 have M:=hin.se
 refine bI kr Tryz.func107 U U fun AA Q hQ hN=>?_
 try dsimp only
 refine WS fun _ E=>fR U fun P=>fR U fun R=>AL U dg fun S=>bo 1 U<|RK E<|al fun _ F=>ay<|WS fun _ G=>rP 3 [] (mc 1 U I) ?_
 refine RK G<|cO U (fun K=>?_) (fun K=>?_)
 ·exact absurd ((hk.1).symm.trans K) dc
 refine WS fun _ H=>rP 3 [] (mc 1 U I) ?_
 refine RK H<|cO U (fun J=>?_) (fun J=>?_)
 ·exact absurd ((hk.2).symm.trans J) dc
 refine cp<|aH<|KK F<|WS fun _ AB=>fD 2 [] (mc 2 U I) U<|rS (LP (eG.cells (mo d.cz sgA sgC)) 1 U cd U U U)<|rS (CL (O9 l kA kC az cA cC bA bC d.cz sgA sgC hin hsl) (bp [3,4,5,6,7]) U)<|bo 3 U<|AL U dg fun T=>fQ U cu U<|rP 1 [] I ?_
 refine RK AB<|al fun _ A=>dL cy [9] [] [] [0,2,3,4,5,6,7,8] [] U U U U U<|eS U (LW 0 U cd U U)<|eS U (MV U)<|eS U (BI U jA)<|eS U (MV U)<|qR (t:=49) U (fun B=>?_) (fun B=>?_)
 rotate_left 1
 ·replace B:=DF B
  refine eS U (OX U)<|eS U (OX U)<|eS U (OX U)<|eS U (OX U)<|eS U (PK U)<|eS U (AG U)<|e7 U<|cf U fun T12 D=>tw U cu U<|aG (D _ _ (aL [0,2,3,4,5,6,7,8]) ?_)
  refine fK U<|KK A<|aq<|lg hQ [0] (mc 1 U I) U ?_
  clear hQ hN D T12 A AB H G F E
  rw [FL hk]
  simp only [tn hk]
  refine congrArg (fun z=>Value.tuple #[_,vB z]) ?_
  first|rfl|(simp_all [dA]; done)
 replace B:=DT B
 refine eS U (FA 2 U fB U)<|eS U (LP (aa.cells d.Time) 1 U cd U U U)<|eS U (SX (bj (xs:=[]) (cs:=(aa.cells (aa.mk 0 0))) U U (bk gj U)) U U)<|eS U (BI U (sv _ _ d.Time (aa.mk 0 0)))<|eS U (PK U)<|eS U (AG U)<|e7 U<|cf U fun T11 C=>tw U cu U<|aG (C _ _ (aL [0,2,3,4,5,6,7,8]) ?_)
 refine fK U<|KK A<|aq<|lg hQ [0] (mc 1 U I) U ?_
 clear hQ hN C T11 A AB H G F E
 rw [FL hk]
 simp only [tn hk]
 refine congrArg (fun z=>Value.tuple #[_,vB z]) ?_
 first|rfl|(simp_all [dA]; done)
theorem F7 (l:bf) (kA:OA) (kC:Nat) (az:List RA) (cA:OA) (cC:Nat) (bA:OA) (bC:Nat) (d:ax) (sgA:OA) (sgC:Nat) (hin:eB l az) (hle:dx l=0) (hsl:d.cz.ak.length≤1000000):
 eg Tryz.prog 107 [(vA (bJ.cells (lh l kA kC cA cC bA bC))),(vA (bu.cells (bu.mk d.Out d.eK d.Time (mo d.cz sgA sgC))))] [(rd kA l.aI.length 9 (l.aI.map an.cells)),(rd cA l.ai.length 2 (List.zipWith au.cells l.ai az)),(e9 (aS au.gW l.ai az)),(rd bA l.ae.length 4 (l.ae.map bG.cells)),(rd sgA d.cz.ak.length 2 (d.cz.ak.map aO.cells))] (vT [(vA (aa.cells (oU l d))),(vB (decide (hU l d)))]):=by
 by_cases ho:d.Out=true
 ·exact D0 l kA kC az cA cC bA bC d sgA sgC hin hle hsl ho
 by_cases hf:d.eK=true
 ·exact DW l kA kC az cA cC bA bC d sgA sgC hin hle hsl ⟨by simpa using ho,hf⟩
 ·exact Dq l kA kC az cA cC bA bC d sgA sgC hin hle hsl ⟨by simpa using ho,by simpa using hf⟩
end
section
open Go.RowKit
theorem En (r:cm) (kA:OA) (kC:Nat) (az:List RA) (cA:OA) (cC:Nat) (bA:OA) (bC:Nat) (slA:OA) (slC:Nat) (drA:OA) (drC:Nat) (ha:List cS) (heA:OA) (heC:Nat) (hin:fm r az ha) (hle:dx r.ah=0):
 lE Tryz.prog 73 [(vA (br.cells (oE r kA kC cA cC bA bC slA slC drA drC heA heC)))] [(rd kA r.ah.aI.length 9 (r.ah.aI.map an.cells)),(rd cA r.ah.ai.length 2 (List.zipWith au.cells r.ah.ai az)),(e9 (aS au.gW r.ah.ai az)),(rd bA r.ah.ae.length 4 (r.ah.ae.map bG.cells)),(rd slA r.aJ.length 1 (r.aJ.map iC)),(rd drA r.bB.length 1 (r.bB.map iC)),(rd heA r.ar.length 1 (List.zipWith cJ r.ar ha)),(e9 (aS iu r.ar ha))] (fun (x:Bool×Int×(OA)×Nat×(List RA))=>bif x.1 then (vT [(vS x.2.2.1 ((cR r).length) x.2.2.2.1),(vB true)]) else (vT [(vS none 0 0),(vB false)])) (fun (x:Bool×Int×(OA)×Nat×(List RA))=>(x.1=true→(eV r∧x.2.2.2.2.length=r.ar.length))∧(x.1=false→(x.2.1=0∧ ¬ eV r))) (fun (x:Bool×Int×(OA)×Nat×(List RA))=>bif x.1 then [(own x.2.2.1 x.2.2.2.1 85 1 (List.zipWith DD (cR r) x.2.2.2.2)),(bq (aS CW (cR r) x.2.2.2.2))] else []):=by
 have BO:=hin.line
 have BY:=hin.iQ
 have BZ:=hin.has
 have BT:=hin.iP
 have BR:=hin.draw
 have BU:=dG (r:=r)
 refine dv kr Tryz.func73 U U fun w0 Q hQ hN=>?_
 try dsimp only
 refine WS fun _ BE=>fR U fun b2=>bo 2 U<|RK BE<|WS fun _ BF=>fD 4 [] (mc 0 U I) U<|RK BF<|al fun _ BG=>WS fun _ N=>bo 1 U<|rS (CL (oB (r.aJ.length:Int) 1 5) (aK) U)<|rP 2 [] I ?_
 refine ct (t:=19) U (bh fun A6=>?_) (bg fun A6=>?_)
 ·refine bo 19 U<|RK N<|aQ U<|WS fun _ BH=>rP 2 [] I ?_
  refine RK BH<|aq<|LX hQ (false,0,none,0,[]) [] [] I U (by rfl) U U ?_
  (exact ⟨AB,fun _=>⟨rfl,fun q=>by have S:=q.num; have q2:=q.wm; have q3:=q.nh; have q4:=q.x5; omega⟩⟩)
 refine rP 7 [] (mc 0 U I) ?_
 refine ct (t:=26) U (bh fun X=>?_) (bg fun X=>?_)
 ·refine bo 12 U<|RK N<|aQ U<|WS fun _ BI=>rP 2 [] I ?_
  refine RK BI<|aq<|LX hQ (false,0,none,0,[]) [] [] I U (by rfl) U U ?_
  (exact ⟨AB,fun _=>⟨rfl,fun q=>by have S:=q.num; have q2:=q.wm; have q3:=q.nh; have q4:=q.x5; omega⟩⟩)
 refine fD 2 [] (mc 0 U I) U<|rS (CL (oB r.dW 0 5) (aK) U)<|rP 3 [] I ?_
 refine ct (t:=32) U (bh fun A7=>?_) (bg fun A7=>?_)
 ·refine bo 6 U<|RK N<|aQ U<|WS fun _ BJ=>rP 2 [] I ?_
  refine RK BJ<|aq<|LX hQ (false,0,none,0,[]) [] [] I U (by rfl) U U ?_
  (exact ⟨AB,fun _=>⟨rfl,fun q=>by have S:=q.num; have q2:=q.wm; have q3:=q.nh; have q4:=q.x5; omega⟩⟩)
 refine fD 3 [] (mc 0 U I) U<|rS (CL (oB (r.ar.length:Int) 1 3) (aK) U)<|rP 2 [] I ?_
 refine RK N<|cO U (bh fun A9=>?_) (bg fun A9=>?_)
 ·refine WS fun _ BK=>rP 2 [] I ?_
  refine RK BK<|aq<|LX hQ (false,0,none,0,[]) [] [] I U (by rfl) U U ?_
  (exact ⟨AB,fun _=>⟨rfl,fun q=>by have S:=q.num; have q2:=q.wm; have q3:=q.nh; have q4:=q.x5; omega⟩⟩)
 refine WK BG<|al fun _ o=>WS fun _ p=>rP 1 [] I ?_
 refine RK p<|ay ?_
 have A:(0≤r.aJ.length)∧(wN r 0):=by exact ⟨Nat.zero_le _,KC⟩
 refine bS (ι:={z:Nat // (z≤r.aJ.length)∧(wN r z)}) [1,4] [0,1,2,3,4,5,6,7,8] U U (fun z=>[(5,(vI (z.1:Int)))]) (fun z=>[]) (fun _=>rfl) (fun _=>rfl) (fun z=>r.aJ.length-z.1) ⟨0,A⟩ (aV U) (aL [0,1,2,3,4,5,6,7,8]) ?_
 clear A
 rintro ⟨i,⟨BN,Az⟩⟩ J12 T
 try dsimp only
 refine al fun _ s=>WS fun _ v=>rP 3 [] I ?_
 refine RK v<|bV U (aR fun A5=>?_) (aP fun A5=>?_)
 ·refine bE<|ag<|ag<|aA<|KK o<|WS fun _ AS=>bo 1 U<|RK AS<|al fun _ AT=>WS fun _ AU=>rP 1 [] I ?_
  refine RK AU<|ay<|fT 85 1<|oa ?_
  have A:(0≤r.ar.length)∧(([]:List RA).length=0)∧(jX r 0):=by exact ⟨Nat.zero_le _,rfl,xR⟩
  refine bS (ι:={z:Nat×(List RA)×(OA)×Nat // (z.1≤r.ar.length)∧(z.2.1.length=z.1)∧(jX r z.1)}) [1,4] [2,3,4,5,6,7,8,9,10] U U (fun z=>[(7,(vS z.1.2.2.1 ((List.zipWith B_ (gu r z.1.1) z.1.2.1).length) z.1.2.2.2)),(8,(vI (z.1.1:Int)))]) (fun z=>[(bq (aS CW (gu r z.1.1) z.1.2.1)),(own z.1.2.2.1 z.1.2.2.2 85 1 (List.map sC (List.zipWith B_ (gu r z.1.1) z.1.2.1)))]) (fun _=>rfl) (fun _=>rfl) (fun z=>r.ar.length-z.1.1) ⟨(0,([]:List RA),none,0),A⟩ (aV U) (aL [2,3,4,5,6,7,8,9,10,0,1]) ?_
  clear A
  rintro ⟨⟨h,tz,a,c⟩,⟨P,C,F⟩⟩ J46 l
  try dsimp only at P C F
  try dsimp only
  refine al fun _ AV=>WS fun _ AW=>rP 5 [] (mc 0 U I) ?_
  refine RK AW<|bV U (aR fun A_=>?_) (aP fun A_=>?_)
  ·refine bE<|ag<|ag<|aA<|KK AT<|al fun _ Al=>?_
   have BM:gu r h=cR r:=by unfold cR; rw [show h=r.ar.length by omega]
   have BP:tz.length=r.ar.length:=by omega
   rw [BM,yv,show (List.zipWith B_ (cR r) tz).length=(cR r).length from by rw [List.length_zipWith]; omega]
   have Aw:eV r:=HJ (n:=i) om om om om om Az F om
   refine ao<|rP 3 [] I ?_
   refine RK Al<|aq ?_
   refine LX hQ (true,0,a,c,tz) [10,9] [] I U (by (show List.all _ _=true; simp only [cond_true,fH,List.all_nil,wh,Bool.and_true]; rfl)) U U ?_
   exact ⟨fun _=>⟨Aw,BP⟩,Np⟩
  refine WK AV<|al fun _ AX=>ay<|al fun _ AY=>WS fun _ AZ=>rP 3 [] (mc 0 U I) ?_
  obtain ⟨ht,D⟩:=aM r.ar h om
  obtain ⟨E,H⟩:=aM ha h om
  have W:(List.zipWith cJ r.ar ha)[h]? =some (cJ ht E):=dT D H
  refine rS (IA h U (aD 7 U) q9 dc om om) ?_
  have Av:=hin.oz _ _ _ D H
  have BS:=Av.oq
  refine rS (fY h 0 (vS E.1.1 ht.length E.1.2) U cd (aD 7 U) W U dc U)<|rP 3 [] I ?_
  refine RK AZ<|cO U (bh fun e=>?_) (bg fun e=>?_)
  ·refine WS fun _ Aa=>rP 2 [] I ?_
   refine RK Aa<|aq<|LX hQ (false,0,none,0,[]) [] [] I U (by rfl) U U ?_
   (exact ⟨AB,fun _=>⟨rfl,fun q=>by have S:=(q.oz ht (aU D)).1; omega⟩⟩)
  refine WK AY<|WS fun _ Ab=>bo 1 U<|RK Ab<|al fun _ Ac=>WS fun _ Ad=>rP 1 [] I ?_
  refine RK Ad<|ay<|fT 38 2 ?_
  have A:(0≤ht.length)∧(n8 r.ah ht 0):=by exact ⟨Nat.zero_le _,u3⟩
  refine bS (ι:={z:Nat×(OA)×Nat // (z.1≤ht.length)∧(n8 r.ah ht z.1)}) [1,4,7,8] [1,2,3,4,5,6,7,8,9,10,11] U U (fun z=>[(9,(vS z.1.2.1 (((ht.take z.1.1).map (dC r.ah)).length) z.1.2.2)),(10,(vI (z.1.1:Int)))]) (fun z=>[(own z.1.2.1 z.1.2.2 38 2 (((ht.take z.1.1).map (dC r.ah)).map aa.cells))]) (fun _=>rfl) (fun _=>rfl) (fun z=>ht.length-z.1.1) ⟨(0,none,0),A⟩ (aV U) (aL [1,2,3,4,5,6,7,8,9,10,11,0]) ?_
  clear A
  rintro ⟨⟨j,la,lc⟩,⟨R,G⟩⟩ J57 m
  try dsimp only at R G
  try dsimp only
  refine al fun _ Ae=>WS fun _ Af=>rP 3 [] I ?_
  refine RK Af<|bV U (aR fun BC=>?_) (aP fun BC=>?_)
  ·refine bE<|ag<|ag<|aA<|KK Ac<|ao ?_
   rw [show ((ht.take j).map (dC r.ah))=ht.map (dC r.ah) from by rw [List.take_of_length_le om]]
   refine rP 2 [] I ?_
   refine cZ (xs:=[.tmp 137]) (cs:=[(vS la ((ht.map (dC r.ah)).length) lc)]) U Mc RO U U U U (by simp [Value.cells]) U U fun BX=>?_
   refine df (es2:=(List.map sC (List.zipWith B_ (gu r (h+1)) (tz++[(la,lc)])))) (m':=(List.zipWith B_ (gu r (h+1)) (tz++[(la,lc)])).length) 11 U U U SF U U sm (a_ (es:=List.map sC [(aN.mk la ((ht.map (dC r.ah)).length) lc)]) 0 U U (by simp [yP]) U) (KS _) (by rw [List.length_zipWith,kB om]; omega) (by rw [List.length_zipWith,kB om]; simp only [maxLen]; omega) (by rw [tj D C,List.map_append]; rfl) (by rw [tj D C]; simp) U fun A2 A4=>?_
   try dsimp only
   refine bo 1 U<|aG<|aH<|KK AX<|ao<|rP 3 [] I ?_
   refine aG<|Cu (X':=aS CW (gu r (h+1)) (tz++[(la,lc)])) 10 12 U U (Cz (a:=(la,lc)) D C) ?_
   have At:(vI (((h+1):Nat):Int))=(vI ((h:Int)+1)):=by exact cI om
   refine aW (l ⟨((h+1),(tz++[(la,lc)]),A2,A4),⟨om,by simp; omega,xx F D (Fp om G om)⟩⟩ _ _ _ U os (cW 3<|bx U At<|dB.nil _) (aL [2,3,4,5,6,7,8,9,10,0,11]))
  refine WK Ae<|al fun _ Ag=>ay<|al fun _ Ah=>dL cy [14,15] [] [] [0,1,2,3,4,5,6,7,8,9,10,11] [] U U U U U<|eS U (FA 0 U fB U)<|eS U (LP (bJ.cells (lh r.ah kA kC cA cC bA bC)) 0 U cd U U U)<|eS U (FA 10 U fB U)<|eS U (L1 (vS heA r.ar.length heC) 0 U cd U U)<|eS U (MV U)<|eS U (IA h U (aD 7 U) q9 dc om om)<|eS U (fY h 0 (vS E.1.1 ht.length E.1.2) U cd (aD 7 U) W U dc U)<|eS U (MV U) ?_
  obtain ⟨d,hd⟩:=aM ht j om
  obtain ⟨da,Au⟩:=aM E.2 j om
  have BL:(List.zipWith ax.cells ht E.2)[j]? =some (ax.cells d da):=dT hd Au
  refine eS U (IA j U (show iU _ (rd E.1.1 ht.length 7 (List.zipWith ax.cells ht E.2)).holds from (dy 8 U (b_ D H cj))) xn dc om om)<|eS U (ot j 0 (bu.cells (bu.mk d.Out d.eK d.Time (eG.mk d.cz.Start d.cz.gf (aN.mk da.1 d.cz.ak.length da.2)))) U cd (show iU _ (rd E.1.1 ht.length 7 (List.zipWith ax.cells ht E.2)).holds from (dy 8 U (b_ D H cj))) BL U dc U U) ?_
  have Ba:=Av.sig d (aU hd)
  refine eS U (CL (F7 r.ah kA kC az cA cC bA bC d da.1 da.2 asm hle asm) (lO [1,2,3,4]<|aw (show iU _ (rd da.1 d.cz.ak.length 2 (d.cz.ak.map aO.cells)).holds from (dy 8 U (b_ D H (cT _ (b_ hd Au (by simp [ax.gW]))))))<|aK) U)<|eS U (MV U)<|eS U (EX U)<|eS U (EX U)<|eS U (AG U)<|e7 U<|cf U fun T63 Am=>AL U dg fun BV=>aG (Am _ _ (aL [1,2,3,4,5,6,7,8,9,10,11,12]) ?_)
  refine cf U fun T65 An=>fQ U cu U<|aG (An _ _ (aL [1,2,3,4,5,6,7,8,9,10,11,12]) ?_)
  refine fK U<|KK Ah<|al fun _ Ai=>WS fun _ Aj=>rP 2 [] I ?_
  refine RK Aj<|cO U (bh fun J=>?_) (bg fun J=>?_)
  ·refine WS fun _ Ak=>rP 2 [] I ?_
   refine RK Ak<|aq<|LX hQ (false,0,none,0,[]) [] [] I U (by rfl) U U ?_
   (exact ⟨AB,fun _=>⟨rfl,fun q=>by exact J ((q.oz ht (aU D)).2 d (aU hd))⟩⟩)
  refine WK Ai<|ao<|rP 2 [] (mc 0 U I) ?_
  refine cZ (xs:=[.tmp 133]) (cs:=(aa.cells (oU r.ah d))) U jG dg U U U U (by simp [Value.cells,aa.aT]) U U fun BW=>?_
  refine df (es2:=(List.map aa.cells ((ht.take (j+1)).map (dC r.ah)))) (m':=((ht.take (j+1)).map (dC r.ah)).length) 13 U U U EE U U sm (a_ (es:=List.map aa.cells [(oU r.ah d)]) 0 U U (by simp [aa.aT]) U) (gR _) (by simp only [List.length_map,List.length_take]; omega) (by simp only [maxLen,List.length_map,List.length_take]; omega) (by rw [List.take_add_one,hd]; simp [IK J]) sq U fun A1 A3=>?_
  try dsimp only
  refine bo 1 U<|aG<|aH<|KK Ag<|ao<|rP 3 [] I ?_
  refine aG ?_
  have As:(vI (((j+1):Nat):Int))=(vI ((j:Int)+1)):=by exact cI om
  refine aW (m ⟨((j+1),A1,A3),⟨om,uT G hd J⟩⟩ _ _ _ U os (cW 5<|bx U As<|dB.nil _) (aL [2,3,4,5,6,7,8,9,10,11,12,13]))
 refine WK s<|al fun _ Ay=>ay<|al fun _ V=>al fun _ K=>dq cy 36 kr<|dP 3 [] (mc 0 U I) ?_
 obtain ⟨y,hy⟩:=aM r.aJ i om
 have Ax:=bL iC hy
 refine dS (IA i U (aD 5 U) cx dc om om)<|dS (fY i 0 (vI y) U cd (aD 5 U) Ax U dc U)<|dS (CL (oB y 0 9999) (aK) U)<|dP 2 [] I ?_
 refine gJ (t:=51) U (bh fun BA=>?_) (bg fun BA=>?_)
 ·refine km 28 U<|cL<|RK K<|aQ U<|WS fun _ w=>rP 2 [] I ?_
  refine RK w<|aq<|LX hQ (false,0,none,0,[]) [] [] I U (by rfl) U U ?_
  (exact ⟨AB,fun _=>⟨rfl,fun q=>by have S:=(q.ids i y hy).1; omega⟩⟩)
 refine dP 3 [] I ?_
 refine iw (t:=54) U (aR fun BB=>?_) (aP fun BB=>?_)
 ·refine dP 18 [] (mc 0 U I) ?_
  obtain ⟨x,hx⟩:=aM r.bB i om
  have M:=bL iC hx
  refine dS (IA i U (aD 6 U) cx dc om om)<|dS (fY i 0 (vI x) U cd (aD 6 U) M U dc U)<|km 2 U<|dS (CL (oB x 0 ((r.aJ.length:Int)-1)) (aK) U)<|dP 2 [] I ?_
  refine cL<|RK K<|cO U (bh fun Y=>?_) (bg fun Y=>?_)
  ·refine WS fun _ AK=>rP 2 [] I ?_
   refine RK AK<|aq<|LX hQ (false,0,none,0,[]) [] [] I U (by rfl) U U ?_
   (exact ⟨AB,fun _=>⟨rfl,fun q=>by have S:=q.K7 hx; omega⟩⟩)
  refine WK V<|WS fun _ AM=>rP 1 [] I ?_
  refine RK AM<|ay ?_
  have A:(0≤i)∧(∀ (q:Nat) y,q<0→r.bB[q]? =some y→y≠x):=by exact ⟨Nat.zero_le _,fun q y hq=>absurd hq (Nat.not_lt_zero _)⟩
  refine bS (ι:={z:Nat // (z≤i)∧(∀ (q:Nat) y,q<z→r.bB[q]? =some y→y≠x)}) [1,4,5] [0,1,2,3,4,5,6,7,8] U U (fun z=>[(6,(vI (z.1:Int)))]) (fun z=>[]) (fun _=>rfl) (fun _=>rfl) (fun z=>i-z.1) ⟨0,A⟩ (aV U) (aL [0,1,2,3,4,5,6,7,8]) ?_
  clear A
  rintro ⟨k,⟨O,B⟩⟩ J34 g
  try dsimp only
  refine al fun _ AN=>WS fun _ AO=>rP 3 [] I ?_
  refine RK AO<|bV U (aR fun A8=>?_) (aP fun A8=>?_)
  ·refine bE<|ag<|ag<|aA<|aH<|KK Ay<|ao<|rP 3 [] I ?_
   refine aG ?_
   have Ar:(vI (((i+1):Nat):Int))=(vI ((i:Int)+1)):=by exact cI om
   refine aW (T ⟨(i+1),⟨om,Bb Az (fun a ha=>by rw [hy] at ha; cases ha; exact ⟨om,fun b hb hc=>by omega⟩) (fun a ha=>by rw [hx] at ha; cases ha; exact ⟨om,fun k b hk hb=>B k b om hb⟩)⟩⟩ _ _ _ rfl os (dB.cons rfl<|dB.cons rfl<|bx rfl Ar<|dB.nil _) (aL [0,1,2,3,4,5,6,7,8]))
  refine WK AN<|al fun _ AP=>ay<|al fun _ AQ=>dq cy 11 kr<|dP 3 [] (mc 0 U I) ?_
  obtain ⟨u,hu⟩:=aM r.bB k om
  have Z:=bL iC hu
  refine dS (IA k U (aD 6 U) cx dc om om)<|dS (fY k 0 (vI u) U cd (aD 6 U) Z U dc U)<|mu 3 [] (mc 0 U I) U<|dS (IA i U (aD 6 U) cx dc om om)<|dS (fY i 0 (vI x) U cd (aD 6 U) M U dc U)<|dP 1 [] I ?_
  refine cL<|RK AQ<|bV U (aR fun L=>?_) (aP fun L=>?_)
  ·refine cp<|aH<|KK AP<|ao<|rP 3 [] I ?_
   refine aG ?_
   have Aq:(vI (((k+1):Nat):Int))=(vI ((k:Int)+1)):=by exact cI om
   refine aW (g ⟨(k+1),⟨om,xb B hu L⟩⟩ _ _ _ U os (cW 3<|bx U Aq<|dB.nil _) (aL [0,1,2,3,4,5,6,7,8]))
  refine WS fun _ AR=>rP 2 [] I ?_
  refine RK AR<|aq<|LX hQ (false,0,none,0,[]) [] [] I U (by rfl) U U ?_
  (exact ⟨AB,fun _=>⟨rfl,fun q=>by have S:=q.num; have q2:=q.wm; have q3:=q.nh; have q4:=q.x5; omega⟩⟩)
 refine mu 3 [] (mc 0 U I) U<|dS (IA i U (aD 5 U) cx dc om om)<|dS (fY i 0 (vI y) U cd (aD 5 U) Ax U dc U)<|dP 4 [] (mc 0 U I) ?_
 obtain ⟨z,hz⟩:=aM r.aJ (i-1) om
 have BQ:=bL iC hz
 refine dS (IA (i-1) U (aD 5 U) cx dc om om)<|dS (fY (i-1) 0 (vI z) U cd (aD 5 U) BQ U dc U)<|dP 4 [] I ?_
 refine gJ (t:=69) U (aP fun BD=>?_) (aR fun BD=>?_)
 ·refine km 10 U<|cL<|RK K<|aQ U<|WS fun _ AA=>rP 2 [] I ?_
  refine RK AA<|aq<|LX hQ (false,0,none,0,[]) [] [] I U (by rfl) U U ?_
  (exact ⟨AB,fun _=>⟨rfl,fun q=>by have S:=(q.ids i y hy).2 z om hz; omega⟩⟩)
 refine dP 3 [] (mc 0 U I) ?_
 obtain ⟨x,hx⟩:=aM r.bB i om
 have M:=bL iC hx
 refine dS (IA i U (aD 6 U) cx dc om om)<|dS (fY i 0 (vI x) U cd (aD 6 U) M U dc U)<|km 2 U<|dS (CL (oB x 0 ((r.aJ.length:Int)-1)) (aK) U)<|dP 2 [] I ?_
 refine cL<|RK K<|cO U (bh fun Y=>?_) (bg fun Y=>?_)
 ·refine WS fun _ AC=>rP 2 [] I ?_
  refine RK AC<|aq<|LX hQ (false,0,none,0,[]) [] [] I U (by rfl) U U ?_
  (exact ⟨AB,fun _=>⟨rfl,fun q=>by have S:=q.K7 hx; omega⟩⟩)
 refine WK V<|WS fun _ AD=>rP 1 [] I ?_
 refine RK AD<|ay ?_
 have A:(0≤i)∧(∀ (q:Nat) y,q<0→r.bB[q]? =some y→y≠x):=by exact ⟨Nat.zero_le _,fun q y hq=>absurd hq (Nat.not_lt_zero _)⟩
 refine bS (ι:={z:Nat // (z≤i)∧(∀ (q:Nat) y,q<z→r.bB[q]? =some y→y≠x)}) [1,4,5] [0,1,2,3,4,5,6,7,8] U U (fun z=>[(6,(vI (z.1:Int)))]) (fun z=>[]) (fun _=>rfl) (fun _=>rfl) (fun z=>i-z.1) ⟨0,A⟩ (aV U) (aL [0,1,2,3,4,5,6,7,8]) ?_
 clear A
 rintro ⟨k,⟨O,B⟩⟩ J23 f
 try dsimp only
 refine al fun _ AE=>WS fun _ AF=>rP 3 [] I ?_
 refine RK AF<|bV U (aR fun X=>?_) (aP fun X=>?_)
 ·refine bE<|ag<|ag<|aA<|aH<|KK Ay<|ao<|rP 3 [] I ?_
  refine aG ?_
  have Ap:(vI (((i+1):Nat):Int))=(vI ((i:Int)+1)):=by exact cI om
  refine aW (T ⟨(i+1),⟨om,Bb Az (fun a ha=>by rw [hy] at ha; cases ha; exact ⟨om,fun b hb hc=>by (rw [hz] at hc; cases hc; omega)⟩) (fun a ha=>by rw [hx] at ha; cases ha; exact ⟨om,fun k b hk hb=>B k b om hb⟩)⟩⟩ _ _ _ rfl os (dB.cons rfl<|dB.cons rfl<|bx rfl Ap<|dB.nil _) (aL [0,1,2,3,4,5,6,7,8]))
 refine WK AE<|al fun _ AH=>ay<|al fun _ AI=>dq cy 11 kr<|dP 3 [] (mc 0 U I) ?_
 obtain ⟨u,hu⟩:=aM r.bB k om
 have Z:=bL iC hu
 refine dS (IA k U (aD 6 U) cx dc om om)<|dS (fY k 0 (vI u) U cd (aD 6 U) Z U dc U)<|mu 3 [] (mc 0 U I) U<|dS (IA i U (aD 6 U) cx dc om om)<|dS (fY i 0 (vI x) U cd (aD 6 U) M U dc U)<|dP 1 [] I ?_
 refine cL<|RK AI<|bV U (aR fun L=>?_) (aP fun L=>?_)
 ·refine cp<|aH<|KK AH<|ao<|rP 3 [] I ?_
  refine aG ?_
  have Ao:(vI (((k+1):Nat):Int))=(vI ((k:Int)+1)):=by exact cI om
  refine aW (f ⟨(k+1),⟨om,xb B hu L⟩⟩ _ _ _ U os (cW 3<|bx U Ao<|dB.nil _) (aL [0,1,2,3,4,5,6,7,8]))
 refine WS fun _ AJ=>rP 2 [] I ?_
 refine RK AJ<|aq<|LX hQ (false,0,none,0,[]) [] [] I U (by rfl) U U ?_
 (exact ⟨AB,fun _=>⟨rfl,fun q=>by exact q.Ps om hu hx L⟩⟩)
end
section
open Go.RowKit
theorem G2 (r:cm) (kA:OA) (kC:Nat) (az:List RA) (cA:OA) (cC:Nat) (bA:OA) (bC:Nat) (slA:OA) (slC:Nat) (drA:OA) (drC:Nat) (ha:List cS) (heA:OA) (heC:Nat) (hin:fm r az ha):
 lE Tryz.prog 49 [(vA (br.cells (oE r kA kC cA cC bA bC slA slC drA drC heA heC)))] [(rd kA r.ah.aI.length 9 (r.ah.aI.map an.cells)),(rd cA r.ah.ai.length 2 (List.zipWith au.cells r.ah.ai az)),(e9 (aS au.gW r.ah.ai az)),(rd bA r.ah.ae.length 4 (r.ah.ae.map bG.cells)),(rd slA r.aJ.length 1 (r.aJ.map iC)),(rd drA r.bB.length 1 (r.bB.map iC)),(rd heA r.ar.length 1 (List.zipWith cJ r.ar ha)),(e9 (aS iu r.ar ha))] (fun (x:Bool×Int×(OA)×Nat×(List RA))=>bif x.1 then (vT [(vS x.2.2.1 ((cR r).length) x.2.2.2.1),(vI 0)]) else (vT [(vS none 0 0),(vI x.2.1)])) (fun (x:Bool×Int×(OA)×Nat×(List RA))=>(x.1=true→(bX r=0∧x.2.2.2.2.length=r.ar.length))∧(x.1=false→(x.2.1=bX r∧ ¬ bX r=0))) (fun (x:Bool×Int×(OA)×Nat×(List RA))=>bif x.1 then [(own x.2.2.1 x.2.2.2.1 85 1 (List.zipWith DD (cR r) x.2.2.2.2)),(bq (aS CW (cR r) x.2.2.2.2))] else []):=by
 have AA:=hin.line
 have b:=hin.iQ
 have c:=hin.has
 have Z:=hin.iP
 have Y:=hin.draw
 have a:=dG (r:=r)
 refine dv kr Tryz.func49 U U fun f Q hQ hN=>?_
 try dsimp only
 refine WS fun _ O=>fR U fun e=>bo 2 U<|RK O<|al fun _ P=>WS fun _ R=>bo 1 U<|rS (LP (bJ.cells (lh r.ah kA kC cA cC bA bC)) 0 U cd U U U)<|rS (CL (CC r.ah kA kC az cA cC bA bC asm) (bp [1,2,3,4]) U)<|bo 1 U<|RK R<|WS fun _ S=>rP 2 [] I ?_
 refine RK S<|cO U (bh fun A=>?_) (bg fun A=>?_)
 ·refine WS fun _ T=>rP 3 [] I ?_
  refine RK T<|aq<|LX hQ (false,(dx r.ah),none,0,[]) [] [] I U (by rfl) U U ?_
  exact q_<|HZ (yg A) A
 refine WK P<|WS fun _ G=>rP 1 [] (mc 0 U I) ?_
 refine cX (En r kA kC az cA cC bA bC slA slC drA drC ha heA heC hin (by exact A)) (bp [1,2,3,4,5,6,7,8]) U fun d J=>?_
 obtain ⟨K,W,L,M,N⟩:=d
 cases K
 rotate_left 1
 ·obtain ⟨AB,V⟩:=J.1 rfl
  try dsimp only [cond_true,cond_false,List.cons_append,List.nil_append]
  refine bo 5 U<|RK G<|al fun _ D=>WS fun _ E=>bo 2 U<|RK E<|aX U<|WK D<|WS fun _ F=>rP 3 [] I ?_
  refine RK F<|aq ?_
  refine LX hQ (true,0,L,M,N) [0,1] [] I U (by (show List.all _ _=true; simp only [cond_true,fH,List.all_nil,wh,Bool.and_true]; rfl)) U U ?_
  exact ⟨fun _=>⟨AJ A AB,V⟩,Np⟩
 obtain ⟨H,he⟩:=J.2 rfl
 try dsimp only at H he
 subst H
 try dsimp only [cond_true,cond_false,List.cons_append,List.nil_append]
 refine bo 5 U<|RK G<|al fun _ X=>WS fun _ B=>bo 2 U<|RK B<|aQ U<|WS fun _ C=>rP 2 [] I ?_
 refine RK C<|aq<|LX hQ (false,60,none,0,[]) [] [] I U (by rfl) U U ?_
 exact q_<|pM (kl A he)
end
section
open Go.RowKit
theorem G5 (r:cm) (kA:OA) (kC:Nat) (az:List RA) (cA:OA) (cC:Nat) (bA:OA) (bC:Nat) (slA:OA) (slC:Nat) (drA:OA) (drC:Nat) (ha:List cS) (heA:OA) (heC:Nat) (hin:fm r az ha):
 eg Tryz.prog 30 [(vA (br.cells (oE r kA kC cA cC bA bC slA slC drA drC heA heC)))] [(rd kA r.ah.aI.length 9 (r.ah.aI.map an.cells)),(rd cA r.ah.ai.length 2 (List.zipWith au.cells r.ah.ai az)),(e9 (aS au.gW r.ah.ai az)),(rd bA r.ah.ae.length 4 (r.ah.ae.map bG.cells)),(rd slA r.aJ.length 1 (r.aJ.map iC)),(rd drA r.bB.length 1 (r.bB.map iC)),(rd heA r.ar.length 1 (List.zipWith cJ r.ar ha)),(e9 (aS iu r.ar ha))] (vI (bX r)):=by
 have H:=hin.line
 have M:=hin.iQ
 have N:=hin.has
 have J:=hin.iP
 have AB:=hin.draw
 have K:=dG (r:=r)
 refine bI kr Tryz.func30 U U fun V Q hQ hN=>?_
 try dsimp only
 refine WS fun _ G=>fR U fun AA=>bo 1 U<|RK G<|WS fun _ C=>rP 1 [] (mc 0 U I) ?_
 refine cX (G2 r kA kC az cA cC bA bC slA slC drA drC ha heA heC hin) (bp [1,2,3,4,5,6,7,8]) U fun T E=>?_
 obtain ⟨F,L,P,R,S⟩:=T
 cases F
 rotate_left 1
 ·obtain ⟨he,O⟩:=E.1 rfl
  try dsimp only [cond_true,cond_false,List.cons_append,List.nil_append]
  refine bo 5 U<|RK C<|WS fun _ B=>rP 2 [] I ?_
  refine RK B<|aq<|Q1 hQ U U U ?_
  first|rfl|(rw [he])
 obtain ⟨D,he⟩:=E.2 rfl
 try dsimp only at D he
 subst D
 try dsimp only [cond_true,cond_false,List.cons_append,List.nil_append]
 refine bo 5 U<|RK C<|WS fun _ A=>rP 2 [] I ?_
 refine RK A<|aq<|Q1 hQ U U U ?_
 first|rfl|(rw [he])
end
section
open Go.RowKit
theorem KW (r:cm) (kA:OA) (kC:Nat) (az:List RA) (cA:OA) (cC:Nat) (bA:OA) (bC:Nat) (slA:OA) (slC:Nat) (drA:OA) (drC:Nat) (ha:List cS) (heA:OA) (heC:Nat) (hraw:qW r az ha):
 eg Tryz.prog 7 [(vA (br.cells (oE r kA kC cA cC bA bC slA slC drA drC heA heC)))] [(rd kA r.ah.aI.length 9 (r.ah.aI.map an.cells)),(rd cA r.ah.ai.length 2 (List.zipWith au.cells r.ah.ai az)),(e9 (aS au.gW r.ah.ai az)),(rd bA r.ah.ae.length 4 (r.ah.ae.map bG.cells)),(rd slA r.aJ.length 1 (r.aJ.map iC)),(rd drA r.bB.length 1 (r.bB.map iC)),(rd heA r.ar.length 1 (List.zipWith cJ r.ar ha)),(e9 (aS iu r.ar ha))] (vB (decide (¬ oo r∧bX r=0))):=by
 refine bI kr Tryz.func7 U U fun F Q hQ hN=>?_
 try dsimp only
 refine WS fun _ C=>fR U fun E=>bo 1 U<|RK C<|WS fun _ B=>fD 1 [] (mc 0 U I) U<|rS (CL (BN r kA kC az cA cC bA bC slA slC drA drC ha heA heC hraw) (bp [1,2,3,4,5,6,7,8]) U)<|rP 2 [] I ?_
 refine ck (t:=6) U (bg fun A=>?_) (bh fun A=>?_)
 ·refine bo 1 U<|rP 4 [] I ?_
  refine RK B<|aq<|Q1 hQ U U U ?_
  first|exact cB (cq fun q=>q.1 A).symm|exact cB (decide_eq_decide.2 ⟨fun q=>⟨A,q⟩,fun q=>q.2⟩)
 refine rP 1 [] (mc 0 U I) ?_
 have D:=hraw.small A
 refine rS (CL (G5 r kA kC az cA cC bA bC slA slC drA drC ha heA heC sd) (bp [1,2,3,4,5,6,7,8]) U) ?_
 refine rP 3 [] I ?_
 refine RK B<|aq<|Q1 hQ U U U ?_
 first|exact cB (cq fun q=>q.1 A).symm|exact cB (decide_eq_decide.2 ⟨fun q=>⟨A,q⟩,fun q=>q.2⟩)
end
section
open Go.RowKit
theorem Dj (r:cm) (kA:OA) (kC:Nat) (az:List RA) (cA:OA) (cC:Nat) (bA:OA) (bC:Nat) (slA:OA) (slC:Nat) (drA:OA) (drC:Nat) (ha:List cS) (heA:OA) (heC:Nat) (one two:Int) (hraw:qW r az ha) (h1b:0≤one∧one≤255) (h2b:0≤two∧two≤255):
 eg Tryz.prog 5 [(vA (br.cells (oE r kA kC cA cC bA bC slA slC drA drC heA heC))),(Value.int .u8 one),(Value.int .u8 two)] [(rd dH 3 2 dp),(rd kA r.ah.aI.length 9 (r.ah.aI.map an.cells)),(rd cA r.ah.ai.length 2 (List.zipWith au.cells r.ah.ai az)),(e9 (aS au.gW r.ah.ai az)),(rd bA r.ah.ae.length 4 (r.ah.ae.map bG.cells)),(rd slA r.aJ.length 1 (r.aJ.map iC)),(rd drA r.bB.length 1 (r.bB.map iC)),(rd heA r.ar.length 1 (List.zipWith cJ r.ar ha)),(e9 (aS iu r.ar ha))] (vB true):=by
 refine bI kr Tryz.func5 U U fun w0 Q hQ hN=>?_
 try dsimp only
 refine WS fun _ Ac=>fR U fun b2=>bo 1 U<|RK Ac<|WS fun _ Ad=>rS (CL I4 (bp [1]) U)<|bo 1 U<|RK Ad<|al fun _ Ae=>WS fun _ Af=>bo 2 U<|RK Af<|aX U<|WK Ae<|al fun _ Ag=>WS fun _ Ah=>fD 1 [] (mc 0 U I) U<|rS (CL (KW r kA kC az cA cC bA bC slA slC drA drC ha heA heC hraw) (bp [2,3,4,5,6,7,8,9]) U)<|rP 1 [] I ?_
 refine RK Ah<|cO U (bh fun E=>?_) (bg fun E=>?_)
 ·refine WS fun _ Ai=>rP 2 [] I ?_
  refine RK Ai<|aq<|Q1 hQ U U U ?_
  first|rfl|exact cB (dw ((ib E.2 H Am).elim (fun q=>absurd q G) (fun q=>q.elim (fun q=>absurd q.1 D) id)))|exact cB (dw (A.even B C))
 refine WK Ag<|al fun _ Aj=>dq cy 14 kr ?_
 have Al:=hraw.small E.1
 have Ak:=Al.line
 have Az:=Al.iQ
 have A0:=Al.has
 have At:=Al.iP
 have Aq:=Al.draw
 have Au:=dG (r:=r)
 have V:=(jk E.2).2
 have A1:=V.num
 refine km 1 U<|dS (SX (qZ (m:=one) U U Od pK (nZ (by first|assumption|omega))) U U)<|mu 3 [] (mc 0 U I) U<|dS (BI U (LF om om))<|km 1 U<|dS (SX (qZ (m:=two) U U Od pK (nZ (by first|assumption|omega))) U U)<|mu 3 [] (mc 0 U I) U<|dS (BI U (LF om om))<|dP 2 [] I ?_
 refine cL<|RK Aj<|al fun _ AM=>?_
 obtain ⟨i,hi,H⟩: ∃ q:Int,(one % (r.aJ.length:Int))=q∧pQ r q:=⟨_,rfl,by unfold pQ; have:=Oe one (r.aJ.length:Int) om om; omega⟩
 rw [hi]
 obtain ⟨k,hk,Am⟩: ∃ q:Int,(two % (r.aJ.length:Int))=q∧pQ r q:=⟨_,rfl,by unfold pQ; have:=Oe two (r.aJ.length:Int) om om; omega⟩
 rw [hk]
 refine ao<|rP 3 [] (mc 0 U I) ?_
 refine rS (CL (wV i k r kA kC az cA cC bA bC slA slC drA drC ha heA heC sd) (bp [1,2,3,4,5,6,7,8,9]) U) ?_
 refine bo 5 U<|RK AM<|WS fun _ AN=>rP 3 [] (mc 0 U I) ?_
 refine rS (CL (wV k i r kA kC az cA cC bA bC slA slC drA drC ha heA heC sd) (bp [1,2,3,4,5,6,7,8,9]) U) ?_
 refine bo 5 U<|RK AN<|WS fun _ AO=>rP 3 [] (mc 0 U I) ?_
 refine rS (CL (C4 i k r kA kC az cA cC bA bC slA slC drA drC ha heA heC sd) (bp [1,2,3,4,5,6,7,8,9]) U) ?_
 refine bo 5 U<|RK AO<|WS fun _ AP=>rP 3 [] (mc 0 U I) ?_
 refine rS (CL (C4 k i r kA kC az cA cC bA bC slA slC drA drC ha heA heC sd) (bp [1,2,3,4,5,6,7,8,9]) U) ?_
 refine rP 5 [] I ?_
 refine RK AP ?_
 refine mI (ι:={z:Nat // (True)}) [3,7,8,9,10,11,12,13,14,15,16,17] [0,1,2,3,4,5,6,7,8,9] U U (fun z=>[]) (fun z=>[]) (fun _=>rfl) (fun _=>rfl) ?_ fun K14 j=>?_
 ·rintro ⟨u_,AX⟩
  try dsimp only
  refine al fun _ M=>WS fun _ AQ=>rP 2 [] I ?_
  refine RK AQ<|cO U (bh fun G=>?_) (bg fun G=>?_)
  ·refine WS fun _ l=>rP 5 [] I ?_
   refine ck (t:=101) U (aR fun D=>?_) (aP fun D=>?_)
   ·refine rP 5 [] I ?_
    refine RK l<|aq<|Q1 hQ U U U ?_
    first|rfl|exact cB (dw ((ib E.2 H Am).elim (fun q=>absurd q G) (fun q=>q.elim (fun q=>absurd q.1 D) id)))|exact cB (dw (A.even B C))
   refine rP 5 [] I ?_
   refine RK l<|aq<|Q1 hQ U U U ?_
   first|rfl|exact cB (dw ((ib E.2 H Am).elim (fun q=>absurd q G) (fun q=>q.elim (fun q=>absurd q.1 D) id)))|exact cB (dw (A.even B C))
  refine WK M<|al fun _ AR=>?_
  obtain ⟨u,v,A⟩:=P2 G
  have Ar:=mU (r:=r) (i:=i)
  have As:=mU (r:=r) (i:=k)
  refine ao<|rP 2 [] (mc 0 U I) ?_
  refine rS (CL (Ix i r kA kC az cA cC bA bC slA slC drA drC ha heA heC sd) (bp [1,2,3,4,5,6,7,8,9]) U) ?_
  refine bo 3 U<|AL U dg fun Ax=>fQ U cu U<|bo 1 U<|RK AR<|WS fun _ AS=>rP 2 [] (mc 1 U I) ?_
  refine rS (CL (Ix k r kA kC az cA cC bA bC slA slC drA drC ha heA heC sd) (bp [2,3,4,5,6,7,8,9,10]) U) ?_
  refine bo 3 U<|AL U dg fun Ay=>fQ U cu U<|bo 1 U<|RK AS<|WS fun _ AT=>rP 2 [] (mc 2 U I) ?_
  refine cX (Ap i r kA kC az cA cC bA bC slA slC drA drC ha heA heC sd) (bp [3,4,5,6,7,8,9,10,11]) U fun An Av=>?_
  obtain ⟨AY,Aa⟩:=An
  try dsimp only
  refine bo 5 U<|RK AT<|WS fun _ AU=>rP 2 [] (mc 3 U I) ?_
  refine cX (Ap k r kA kC az cA cC bA bC slA slC drA drC ha heA heC sd) (bp [4,5,6,7,8,9,10,11,12]) U fun Ao Aw=>?_
  obtain ⟨AZ,Ab⟩:=Ao
  try dsimp only
  refine bo 5 U<|RK AU<|al fun _ AV=>WS fun _ AW=>rP 3 [] I ?_
  refine ct (t:=132) U (bh fun Y=>?_) (bg fun Y=>?_)
  ·exact absurd (A.ea) Y
  refine rP 4 [] I ?_
  refine ct (t:=136) U (bh fun Z=>?_) (bg fun Z=>?_)
  ·exact absurd (A.eb) Z
  refine rP 4 [] I ?_
  refine ct (t:=140) U (bh fun a=>?_) (bg fun a=>?_)
  ·exact absurd (A.ea) a
  refine rP 4 [] I ?_
  refine ct (t:=144) U (bh fun b=>?_) (bg fun b=>?_)
  ·exact absurd (A.eb) b
  refine rP 5 [] I ?_
  refine ct (t:=149) U (aP fun AE=>?_) (aR fun AE=>?_)
  ·exact absurd (List.length_eq_zero_iff.1 om) A.full.1
  refine rP 5 [] I ?_
  refine ct (t:=154) U (aP fun AF=>?_) (aR fun AF=>?_)
  ·exact absurd (List.length_eq_zero_iff.1 om) A.full.2
  refine bo 2 U<|rS (BI U ig)<|rP 1 [] I ?_
  refine RK AW<|cO U (bh fun c=>?_) (bg fun c=>?_)
  ·exact absurd Gp c
  refine WK AV<|al fun _ o=>WS fun _ p=>bo 1 U<|rS (BI U jA)<|rP 1 [] I ?_
  refine ck (t:=161) U (aR fun J=>?_) (aP fun J=>?_)
  ·refine bo 25 U<|RK p<|aX U<|WK o<|al fun _ AA=>al fun _ AB=>dq cy 34 kr<|km 1 U<|dS (BI U jA)<|dP 1 [] I ?_
   refine iw (t:=189) U (aR fun F=>?_) (aP fun F=>?_)
   ·refine km 31 U<|cL<|RK AB<|aX U<|WK AA<|WS fun _ T=>bo 3 U<|rS (BI U ig)<|rP 1 [] I ?_
    refine ct (t:=225) U (bh fun B=>?_) (bg fun B=>?_)
    ·refine rP 9 [] I ?_
     refine RK T<|aq<|Q1 hQ U U U ?_
     first|rfl|exact cB (dw ((ib E.2 H Am).elim (fun q=>absurd q G) (fun q=>q.elim (fun q=>absurd q.1 D) id)))|exact cB (dw (A.even B C))
    refine bo 1 U<|rS (BI U ig)<|rP 2 [] I ?_
    refine ct (t:=229) U (bh fun C=>?_) (bg fun C=>?_)
    ·refine rP 5 [] I ?_
     refine RK T<|aq<|Q1 hQ U U U ?_
     first|rfl|exact cB (dw ((ib E.2 H Am).elim (fun q=>absurd q G) (fun q=>q.elim (fun q=>absurd q.1 D) id)))|exact cB (dw (A.even B C))
    refine bo 1 U<|rS (BI U jA)<|rP 3 [] I ?_
    refine RK T<|aq<|Q1 hQ U U U ?_
    first|rfl|exact cB (dw ((ib E.2 H Am).elim (fun q=>absurd q G) (fun q=>q.elim (fun q=>absurd q.1 D) id)))|exact cB (dw (A.even B C))
   refine km 1 U<|dS (BI U ig)<|dP 1 [] I ?_
   refine gJ (t:=192) U (bh fun K=>?_) (bg fun K=>?_)
   ·exact absurd ((A.before F).1) K
   refine km 1 U<|dS (BI U ig)<|dP 2 [] I ?_
   refine gJ (t:=196) U (bh fun L=>?_) (bg fun L=>?_)
   ·exact absurd ((A.before F).2.1) L
   refine dP 1 [] I ?_
   obtain ⟨x,hx⟩:=aM (cH r i) 0 om
   have AC:=bL iC hx
   refine dS (IA 0 U (aj (n:=(cH r i).length) 1 U sm) cx dc U om)<|dS (fY 0 0 (vI x) U cd (aj (n:=(cH r i).length) 1 U sm) AC U dc U)<|dP 1 [] I ?_
   obtain ⟨y,hy⟩:=aM (cH r k) 0 om
   have AD:=bL iC hy
   refine dS (IA 0 U (aj (n:=(cH r k).length) 0 U sm) cx dc U om)<|dS (fY 0 0 (vI y) U cd (aj (n:=(cH r k).length) 0 U sm) AD U dc U)<|dP 3 [] I ?_
   refine gJ (t:=205) U (aP fun N=>?_) (aR fun N=>?_)
   ·exfalso; have:=(A.before F).2.2.1 _ _ hx hy; omega
   refine dP 4 [] I ?_
   obtain ⟨x2,W⟩:=aM (cH r i) ((cH r i).length-1) om
   have hx2m:=bL iC W
   refine dS (IA ((cH r i).length-1) U (aj (n:=(cH r i).length) 1 U sm) cx dc om om)<|dS (fY ((cH r i).length-1) 0 (vI x2) U cd (aj (n:=(cH r i).length) 1 U sm) hx2m U dc U)<|dP 4 [] I ?_
   obtain ⟨y2,X⟩:=aM (cH r k) ((cH r k).length-1) om
   have hy2m:=bL iC X
   refine dS (IA ((cH r k).length-1) U (aj (n:=(cH r k).length) 0 U sm) cx dc om om)<|dS (fY ((cH r k).length-1) 0 (vI y2) U cd (aj (n:=(cH r k).length) 0 U sm) hy2m U dc U)<|dP 3 [] I ?_
   refine cL<|RK AB<|cO U (aP fun O=>?_) (aR fun O=>?_)
   ·exfalso; have:=(A.before F).2.2.2 _ _ W X; omega
   refine WK AA<|WS fun _ S=>bo 3 U<|rS (BI U ig)<|rP 1 [] I ?_
   refine ct (t:=225) U (bh fun B=>?_) (bg fun B=>?_)
   ·refine rP 9 [] I ?_
    refine RK S<|aq<|Q1 hQ U U U ?_
    first|rfl|exact cB (dw ((ib E.2 H Am).elim (fun q=>absurd q G) (fun q=>q.elim (fun q=>absurd q.1 D) id)))|exact cB (dw (A.even B C))
   refine bo 1 U<|rS (BI U ig)<|rP 2 [] I ?_
   refine ct (t:=229) U (bh fun C=>?_) (bg fun C=>?_)
   ·refine rP 5 [] I ?_
    refine RK S<|aq<|Q1 hQ U U U ?_
    first|rfl|exact cB (dw ((ib E.2 H Am).elim (fun q=>absurd q G) (fun q=>q.elim (fun q=>absurd q.1 D) id)))|exact cB (dw (A.even B C))
   refine bo 1 U<|rS (BI U jA)<|rP 3 [] I ?_
   refine RK S<|aq<|Q1 hQ U U U ?_
   first|rfl|exact cB (dw ((ib E.2 H Am).elim (fun q=>absurd q G) (fun q=>q.elim (fun q=>absurd q.1 D) id)))|exact cB (dw (A.even B C))
  refine fD 2 [0,1] (mc 3 U (mc 2 U I)) U<|rS (BI U (Ow _ _ (pP r i) (pP r k)))<|rP 1 [] I ?_
  refine ct (t:=165) U (bh fun d=>?_) (bg fun d=>?_)
  ·exact absurd (by rw [A.va,A.vb]; exact (A.tie J).1) d
  refine rP 7 [] (mc 3 U I) ?_
  refine ct (t:=172) U (bh fun e=>?_) (bg fun e=>?_)
  ·exact absurd (by rw [A.va]; exact (A.tie J).2.1) e
  refine rP 2 [] I ?_
  refine rS (CL (l0 (cH r i) AY Aa (cH r k) AZ Ab (by have:=mU (r:=r) (i:=i); have:=V.num; omega) (by have:=mU (r:=r) (i:=k); have:=V.num; omega)) (aw (aj (n:=(cH r i).length) 1 U sm)<|aw (aj (n:=(cH r k).length) 0 U sm)<|aK) U) ?_
  refine rP 3 [] I ?_
  refine ct (t:=178) U (bh fun f=>?_) (bg fun f=>?_)
  ·exact absurd ((A.tie J).2.2.1) f
  refine bo 1 U<|rS (BI U ig)<|rP 2 [] I ?_
  refine ct (t:=182) U (bh fun g=>?_) (bg fun g=>?_)
  ·exact absurd ((A.tie J).2.2.2.1) g
  refine bo 1 U<|rS (BI U ig)<|rP 2 [] I ?_
  refine RK p<|cO U (bh fun h=>?_) (bg fun h=>?_)
  ·exact absurd (A.tie J).2.2.2.2 h
  refine WK o<|al fun _ s=>al fun _ w=>dq cy 34 kr<|km 1 U<|dS (BI U jA)<|dP 1 [] I ?_
  refine iw (t:=189) U (aR fun F=>?_) (aP fun F=>?_)
  ·refine km 31 U<|cL<|RK w<|aX U<|WK s<|WS fun _ R=>bo 3 U<|rS (BI U ig)<|rP 1 [] I ?_
   refine ct (t:=225) U (bh fun B=>?_) (bg fun B=>?_)
   ·refine rP 9 [] I ?_
    refine RK R<|aq<|Q1 hQ U U U ?_
    first|rfl|exact cB (dw ((ib E.2 H Am).elim (fun q=>absurd q G) (fun q=>q.elim (fun q=>absurd q.1 D) id)))|exact cB (dw (A.even B C))
   refine bo 1 U<|rS (BI U ig)<|rP 2 [] I ?_
   refine ct (t:=229) U (bh fun C=>?_) (bg fun C=>?_)
   ·refine rP 5 [] I ?_
    refine RK R<|aq<|Q1 hQ U U U ?_
    first|rfl|exact cB (dw ((ib E.2 H Am).elim (fun q=>absurd q G) (fun q=>q.elim (fun q=>absurd q.1 D) id)))|exact cB (dw (A.even B C))
   refine bo 1 U<|rS (BI U jA)<|rP 3 [] I ?_
   refine RK R<|aq<|Q1 hQ U U U ?_
   first|rfl|exact cB (dw ((ib E.2 H Am).elim (fun q=>absurd q G) (fun q=>q.elim (fun q=>absurd q.1 D) id)))|exact cB (dw (A.even B C))
  refine km 1 U<|dS (BI U ig)<|dP 1 [] I ?_
  refine gJ (t:=192) U (bh fun K=>?_) (bg fun K=>?_)
  ·exact absurd ((A.before F).1) K
  refine km 1 U<|dS (BI U ig)<|dP 2 [] I ?_
  refine gJ (t:=196) U (bh fun L=>?_) (bg fun L=>?_)
  ·exact absurd ((A.before F).2.1) L
  refine dP 1 [] I ?_
  obtain ⟨x,hx⟩:=aM (cH r i) 0 om
  have AC:=bL iC hx
  refine dS (IA 0 U (aj (n:=(cH r i).length) 1 U sm) cx dc U om)<|dS (fY 0 0 (vI x) U cd (aj (n:=(cH r i).length) 1 U sm) AC U dc U)<|dP 1 [] I ?_
  obtain ⟨y,hy⟩:=aM (cH r k) 0 om
  have AD:=bL iC hy
  refine dS (IA 0 U (aj (n:=(cH r k).length) 0 U sm) cx dc U om)<|dS (fY 0 0 (vI y) U cd (aj (n:=(cH r k).length) 0 U sm) AD U dc U)<|dP 3 [] I ?_
  refine gJ (t:=205) U (aP fun N=>?_) (aR fun N=>?_)
  ·exfalso; have:=(A.before F).2.2.1 _ _ hx hy; omega
  refine dP 4 [] I ?_
  obtain ⟨x2,W⟩:=aM (cH r i) ((cH r i).length-1) om
  have hx2m:=bL iC W
  refine dS (IA ((cH r i).length-1) U (aj (n:=(cH r i).length) 1 U sm) cx dc om om)<|dS (fY ((cH r i).length-1) 0 (vI x2) U cd (aj (n:=(cH r i).length) 1 U sm) hx2m U dc U)<|dP 4 [] I ?_
  obtain ⟨y2,X⟩:=aM (cH r k) ((cH r k).length-1) om
  have hy2m:=bL iC X
  refine dS (IA ((cH r k).length-1) U (aj (n:=(cH r k).length) 0 U sm) cx dc om om)<|dS (fY ((cH r k).length-1) 0 (vI y2) U cd (aj (n:=(cH r k).length) 0 U sm) hy2m U dc U)<|dP 3 [] I ?_
  refine cL<|RK w<|cO U (aP fun O=>?_) (aR fun O=>?_)
  ·exfalso; have:=(A.before F).2.2.2 _ _ W X; omega
  refine WK s<|WS fun _ P=>bo 3 U<|rS (BI U ig)<|rP 1 [] I ?_
  refine ct (t:=225) U (bh fun B=>?_) (bg fun B=>?_)
  ·refine rP 9 [] I ?_
   refine RK P<|aq<|Q1 hQ U U U ?_
   first|rfl|exact cB (dw ((ib E.2 H Am).elim (fun q=>absurd q G) (fun q=>q.elim (fun q=>absurd q.1 D) id)))|exact cB (dw (A.even B C))
  refine bo 1 U<|rS (BI U ig)<|rP 2 [] I ?_
  refine ct (t:=229) U (bh fun C=>?_) (bg fun C=>?_)
  ·refine rP 5 [] I ?_
   refine RK P<|aq<|Q1 hQ U U U ?_
   first|rfl|exact cB (dw ((ib E.2 H Am).elim (fun q=>absurd q G) (fun q=>q.elim (fun q=>absurd q.1 D) id)))|exact cB (dw (A.even B C))
  refine bo 1 U<|rS (BI U jA)<|rP 3 [] I ?_
  refine RK P<|aq<|Q1 hQ U U U ?_
  first|rfl|exact cB (dw ((ib E.2 H Am).elim (fun q=>absurd q G) (fun q=>q.elim (fun q=>absurd q.1 D) id)))|exact cB (dw (A.even B C))
 refine WS fun _ M=>rP 4 [] I ?_
 refine ct (t:=76) U (bh fun AG=>?_) (bg fun AG=>?_)
 ·exact absurd (tv) AG
 refine rP 5 [] I ?_
 refine ct (t:=81) U (bh fun AH=>?_) (bg fun AH=>?_)
 ·exact absurd U AH
 refine rP 5 [] I ?_
 refine ct (t:=86) U (bh fun AI=>?_) (bg fun AI=>?_)
 ·exact absurd (tv) AI
 refine rP 4 [] I ?_
 refine ck (t:=90) U (aR fun AJ=>?_) (aP fun AJ=>?_)
 ·refine rP 4 [] I ?_
  refine RK M<|aX U<|cp ?_
  refine aW (iZ (aV U) (aL [0,1,2,3,4,5,6,7,8,9]) (j ⟨0,trivial⟩))
 refine rP 4 [] I ?_
 refine RK M<|cO U (bh fun AK=>?_) (bg fun AK=>?_)
 ·exact absurd (by rw [← AJ]; exact KI E.2) AK
 refine cp ?_
 refine aW (iZ (aV U) (aL [0,1,2,3,4,5,6,7,8,9]) (j ⟨0,trivial⟩))
end
section
open Go.RowKit
def iz {α:Type} (cells:α→List Value) (sz:Nat) (R:World→α→Prop) (w:World) (s:aN):Prop:= ∃ l:List α,s.n=l.length∧(rd s.a l.length sz (l.map cells)).holds w∧(∀ x∈l,R w x)∧l.length≤maxLen∧s.n≤s.c
theorem uP {w:World} {R:World→cG→Prop}: ∀ {l:List du},(∀ x∈l,iz cG.cells 3 R w x.bw)→ ∃ (ms:List au) (az:List RA),l.map du.cells=List.zipWith au.cells ms az∧ms.length=l.length∧az.length=l.length∧(∀ X∈aS au.gW ms az,X.holds w)∧
 (∀ (k:Nat) m (a:RA),ms[k]? =some m→az[k]? =some a→m.bw.length≤a.2∧m.bw.length≤9223372036854775807)∧ms.map (fun m=>m.dh)=l.map (fun x=>x.dh)∧ ∀ (k:Nat) m y,ms[k]? =some m→y∈m.bw→R w y
 |[],_=>⟨[],[],rfl,rfl,rfl,(fun X hX=>by cases hX),(fun k m a h=>by simp at h),rfl,(fun k m y h=>by simp at h)⟩
 |x::l,h=>by
  obtain ⟨ms,az,E,F,G,H,AA,J,K⟩:=uP (fun y hy=>h y (cT _ hy))
  obtain ⟨sy,A,B,C,D,L⟩:=h x sm
  have e4':sy.length≤9223372036854775807:=D
  refine ⟨⟨x.dh,sy⟩::ms,(x.bw.a,x.bw.c)::az,?_,by simp [F],by simp [G],fun X hX=>?_,fun k m a hm ha=>?_,by simp [J],fun k m y hm hy=>?_⟩
  ·obtain ⟨dr,⟨a,n,c⟩⟩:=x
   simp only at A
   subst A
   simp only [List.map_cons,List.zipWith_cons_cons,E]
   rfl
  ·rcases List.mem_append.1 hX with hX|hX
   ·simp only [au.gW,bW] at hX
    subst hX; exact B
   ·exact H X hX
  ·cases k with
   |zero=>
    simp only [List.getElem?_cons_zero,Option.some.injEq] at hm ha
    subst hm ha
    exact ⟨by simp only; omega,e4'⟩
   |succ k=>exact AA k m a (by simpa using hm) (by simpa using ha)
  ·cases k with
   |zero=>
    simp only [List.getElem?_cons_zero,Option.some.injEq] at hm
    subst hm
    exact C y hy
   |succ k=>exact K k m y (by simpa using hm) hy
theorem Gb {w:World} {s:bJ} {R1:World→an→Prop} {R2:World→du→Prop} {R3:World→bG→Prop} {R4:World→cG→Prop} (h1:iz an.cells 9 R1 w s.aI.kN) (hs: ∀ x,R1 w x→0≤x.iN∧x.iN≤255) (h2:iz du.cells 2 R2 w s.ai) (hc: ∀ x,R2 w x→iz cG.cells 3 R4 w x.bw) (h3:iz bG.cells 4 R3 w s.ae):
 ∃ (l:bf) (az:List RA) (kA:OA) (kC:Nat) (cA:OA) (cC:Nat) (bA:OA) (bC:Nat),s=bJ.mk (aZ.mk (aN.mk kA l.aI.length kC)) l.dJ (aN.mk cA l.ai.length cC) (aN.mk bA l.ae.length bC) l.bH l.cv l.bM∧s9 l az∧
  ((rd kA l.aI.length 9 (l.aI.map an.cells)).holds w∧(rd cA l.ai.length 2 (List.zipWith au.cells l.ai az)).holds w∧(e9 (aS au.gW l.ai az)).holds w∧(rd bA l.ae.length 4 (l.ae.map bG.cells)).holds w)∧l.dJ=s.dJ∧l.bH=s.bH∧l.cv=s.cv∧l.bM=s.bM:=by
 obtain ⟨⟨⟨ka,kn,kc⟩⟩,fa,⟨ca,cn,cc⟩,⟨ba,bn,bc⟩,fi,fk,mi⟩:=s
 obtain ⟨ts,E,M,N,O,T⟩:=h1
 obtain ⟨cs,B,C,H,AA,R⟩:=h2
 obtain ⟨bs,A,F,P,G,Q⟩:=h3
 simp only at E B A
 subst E B A
 obtain ⟨ms,az,J,D,S,K,L,_⟩:=uP (fun x hx=>hc x (H x hx))
 have t4':ts.length≤9223372036854775807:=O
 have c4':cs.length≤9223372036854775807:=AA
 have b4':bs.length≤9223372036854775807:=G
 refine ⟨⟨ts,fa,ms,bs,fi,fk,mi⟩,az,ka,kc,ca,cc,ba,bc,by simp only [D],⟨t4',fun x hx=>hs x (N x hx),by simp only; omega,by simp only; omega,b4',L⟩,⟨M,?_,K,F⟩,U,U,U,U⟩
 simp only at C ⊢
 rw [D,← J]; exact C
end
section
open Go.RowKit
theorem xD {w:World} {R:World→aO→Prop}: ∀ {l:List bu},(∀ x∈l,iz aO.cells 2 R w x.cz.ak)→ ∃ (ms:List ax) (az:List RA),l.map bu.cells=List.zipWith ax.cells ms az∧ms.length=l.length∧az.length=l.length∧(∀ X∈aS ax.gW ms az,X.holds w)∧
 ∀ d∈ms,d.cz.ak.length≤9223372036854775807
 |[],_=>⟨[],[],rfl,rfl,rfl,(fun X hX=>by cases hX),fun d h=>by cases h⟩
 |x::l,h=>by
  obtain ⟨ms,az,D,E,F,G,H⟩:=xD (fun y hy=>h y (cT _ hy))
  obtain ⟨sg,A,B,AA,C,J⟩:=h x sm
  have e4':sg.length≤9223372036854775807:=C
  refine ⟨⟨x.Out,x.eK,x.Time,⟨x.cz.Start,x.cz.gf,sg⟩⟩::ms,(x.cz.ak.a,x.cz.ak.c)::az,?_,by simp [E],by simp [F],fun X hX=>?_,fun d hd=>?_⟩
  ·obtain ⟨o,f,t,⟨st,nw,⟨a,n,c⟩⟩⟩:=x
   simp only at A
   subst A
   simp only [List.map_cons,List.zipWith_cons_cons,D]
   rfl
  ·rcases List.mem_append.1 hX with hX|hX
   ·simp only [ax.gW,bW] at hX
    subst hX; exact B
   ·exact G X hX
  ·rcases List.mem_cons.1 hd with rfl|hd
   ·exact e4'
   ·exact H d hd
theorem xO {w:World} {R2:World→bu→Prop} {R:World→aO→Prop} (hc: ∀ x,R2 w x→iz aO.cells 2 R w x.cz.ak): ∀ {l:List aN},(∀ x∈l,iz bu.cells 7 R2 w x)→ ∃ (ms:List (List ax)) (ha:List cS),(l.map fun s=>[vS s.a s.n s.c])=List.zipWith cJ ms ha∧ms.length=l.length∧ha.length=l.length∧(∀ X∈aS iu ms ha,X.holds w)∧
 ∀ (k:Nat) h (a:cS),ms[k]? =some h→ha[k]? =some a→h.length≤9223372036854775807∧a.2.length=h.length∧ ∀ d∈h,d.cz.ak.length≤9223372036854775807
 |[],_=>⟨[],[],rfl,rfl,rfl,(fun X hX=>by cases hX),(fun k h a q=>by simp at q)⟩
 |x::l,h=>by
  obtain ⟨ms,ha,J,K,L,M,N⟩:=xO hc (fun y hy=>h y (cT _ hy))
  obtain ⟨ds,C,G,H,AA,P⟩:=h x sm
  obtain ⟨dm,az,D,B,O,E,F⟩:=xD fun y hy=>hc y (H y hy)
  have e4':ds.length≤9223372036854775807:=AA
  refine ⟨dm::ms,((x.a,x.c),az)::ha,?_,by simp [K],by simp [L],fun X hX=>?_,fun k m a hm A=>?_⟩
  ·obtain ⟨a,n,c⟩:=x
   simp only at C
   subst C
   simp only [List.map_cons,List.zipWith_cons_cons,J,cJ,B]
  ·rcases List.mem_append.1 hX with hX|hX
   ·unfold iu at hX
    rcases List.mem_cons.1 hX with rfl|hX
    ·simp only
     rw [B,← D]; exact G
    ·exact E X hX
   ·exact M X hX
  ·cases k with
   |zero=>
    simp only [List.getElem?_cons_zero,Option.some.injEq] at hm A
    subst hm A
    exact ⟨om,by simp only; omega,F⟩
   |succ k=>exact N k m a (by simpa using hm) (by simpa using A)
theorem G9 {w:World} {s:br} {R1:World→an→Prop} {R2:World→du→Prop} {R3:World→bG→Prop} {R4:World→cG→Prop} {R5:World→Int→Prop} {R6:World→aN→Prop} {R7:World→bu→Prop} {R8:World→aO→Prop}
 (h1:iz an.cells 9 R1 w s.ah.aI.kN) (hs: ∀ x,R1 w x→0≤x.iN∧x.iN≤255) (h2:iz du.cells 2 R2 w s.ah.ai) (hc: ∀ x,R2 w x→iz cG.cells 3 R4 w x.bw) (h3:iz bG.cells 4 R3 w s.ah.ae)
 (h4:iz iC 1 R5 w s.aJ) (h5:iz iC 1 R5 w s.bB) (h6:iz (fun s=>[vS s.a s.n s.c]) 1 R6 w s.ar) (h7: ∀ x,R6 w x→iz bu.cells 7 R7 w x) (h8: ∀ x,R7 w x→iz aO.cells 2 R8 w x.cz.ak):
 ∃ (r:cm) (az:List RA) (ha:List cS) (kA:OA) (kC:Nat) (cA:OA) (cC:Nat) (bA:OA) (bC:Nat) (slA:OA) (slC:Nat) (drA:OA) (drC:Nat) (heA:OA) (heC:Nat),
  s=br.mk (bJ.mk (aZ.mk (aN.mk kA r.ah.aI.length kC)) r.ah.dJ (aN.mk cA r.ah.ai.length cC) (aN.mk bA r.ah.ae.length bC) r.ah.bH r.ah.cv r.ah.bM) (aN.mk slA r.aJ.length slC) (aN.mk drA r.bB.length drC) r.dW (aN.mk heA r.ar.length heC)∧qW r az ha∧
  ((rd kA r.ah.aI.length 9 (r.ah.aI.map an.cells)).holds w∧(rd cA r.ah.ai.length 2 (List.zipWith au.cells r.ah.ai az)).holds w∧(e9 (aS au.gW r.ah.ai az)).holds w∧(rd bA r.ah.ae.length 4 (r.ah.ae.map bG.cells)).holds w∧
   (rd slA r.aJ.length 1 (r.aJ.map iC)).holds w∧(rd drA r.bB.length 1 (r.bB.map iC)).holds w∧(rd heA r.ar.length 1 (List.zipWith cJ r.ar ha)).holds w∧(e9 (aS iu r.ar ha)).holds w):=by
 obtain ⟨ln,⟨sa,sn,sc⟩,⟨da,dn,dc⟩,tu,⟨ea,en,ec⟩⟩:=s
 obtain ⟨l,az,kA,kC,cA,cC,bA,bC,e,A,hh,_⟩:=Gb (s:=ln) h1 hs h2 hc h3
 subst e
 obtain ⟨sl,F,N,T,O,AA⟩:=h4
 obtain ⟨dr,B,G,P,H,Q⟩:=h5
 obtain ⟨he,D,E,L,M,S⟩:=h6
 obtain ⟨ms,ha,AB,C,R,J,K⟩:=xO h8 (fun x hx=>h7 x (L x hx))
 simp only at F B D
 subst F B D
 have s4':sl.length≤9223372036854775807:=O
 have d4':dr.length≤9223372036854775807:=H
 have q4':he.length≤9223372036854775807:=M
 refine ⟨⟨l,sl,dr,tu,ms⟩,az,ha,kA,kC,cA,cC,bA,bC,sa,sc,da,dc,ea,ec,by simp only [C],⟨A,s4',d4',by simp only; omega,by simp only; omega,K⟩,hh.1,hh.2.1,hh.2.2.1,hh.2.2.2,N,G,?_,J⟩
 simp only at E ⊢
 rw [C,← AB]; exact E
end
section
open Go.ChangeShapes Go.WideShapes Go.ChangeAt Go.RowKit
theorem Uu:Tryz.prog.cellsOf 32=11:=by kernel_rfl
theorem Rj:Tryz.prog.cellsOf 28=7:=by kernel_rfl
theorem S6:Tryz.prog.cellsOf 24=1:=by kernel_rfl
theorem Tp:Tryz.prog.cellsOf 22=1:=by kernel_rfl
theorem Ou:Tryz.prog.cellsOf 122=9:=by kernel_rfl
theorem Ay:Tryz.prog.cellsOf 3=1:=by kernel_rfl
def zc (w:World) (n:Int):Prop:=p9 n
theorem Az:r_ Tryz.prog 3 Int iC zc:=Po pK
theorem DS:Tryz.prog.cellsOf 38=2:=by kernel_rfl
structure Er (w:World) (s:aa):Prop where
 Lo:zc w s.Lo
 Hi:zc w s.Hi
theorem Uh:fL Tryz.prog 38=some [(3,0),(3,1)]:=by kernel_rfl
theorem Gz:r_ Tryz.prog 38 aa aa.cells Er:=fun {H} enc w base sp A fuel cs x h=>by
 obtain ⟨hl,hp⟩:=jl Uh h
 obtain ⟨M,O,F⟩:=hp 0 3 0 rfl
 obtain ⟨K,B,AA⟩:=Az _ _ _ _ _ _ _ _ F
 obtain ⟨N,P,G⟩:=hp 1 3 1 rfl
 obtain ⟨L,C,J⟩:=Az _ _ _ _ _ _ _ _ G
 refine ⟨⟨K,L⟩,?_,⟨AA,J⟩⟩
 have E:=gS (hl.trans DS) (by rw [Ay]) C
 have D:=dj B (m:=1) (by rw [Ay]) E
 exact D
theorem U9:Tryz.prog.cellsOf 5=1:=by kernel_rfl
def U2 (w:World) (n:Int):Prop:=0≤n∧n≤255
theorem Vc:r_ Tryz.prog 5 Int Ks U2:=SO Od
structure HQ (w:World) (s:an):Prop where
 Id:zc w s.Id
 kj:Er w s.kj
 lJ:Er w s.lJ
 eH:Er w s.eH
 iN:U2 w s.iN
 Au:zc w s.Au
theorem QH:fL Tryz.prog 122=some [(3,0),(38,1),(38,3),(38,5),(5,7),(3,8)]:=by kernel_rfl
theorem Rg:r_ Tryz.prog 122 an an.cells HQ:=fun {H} enc w base sp A fuel cs x h=>by
 obtain ⟨hl,hp⟩:=jl QH h
 obtain ⟨g,o,O⟩:=hp 0 3 0 rfl
 obtain ⟨a,B,AA⟩:=Az _ _ _ _ _ _ _ _ O
 obtain ⟨i,p,P⟩:=hp 1 38 1 rfl
 obtain ⟨b,C,V⟩:=Gz _ _ _ _ _ _ _ _ P
 obtain ⟨j,q,Q⟩:=hp 2 38 3 rfl
 obtain ⟨c,D,W⟩:=Gz _ _ _ _ _ _ _ _ Q
 obtain ⟨k,r,R⟩:=hp 3 38 5 rfl
 obtain ⟨d,E,X⟩:=Gz _ _ _ _ _ _ _ _ R
 obtain ⟨l,s,S⟩:=hp 4 5 7 rfl
 obtain ⟨e,F,Y⟩:=Vc _ _ _ _ _ _ _ _ S
 obtain ⟨n,t,T⟩:=hp 5 3 8 rfl
 obtain ⟨f,G,Z⟩:=Az _ _ _ _ _ _ _ _ T
 refine ⟨⟨a,b,c,d,e,f⟩,?_,⟨AA,V,W,X,Y,Z⟩⟩
 have N:=gS (hl.trans Ou) (by rw [Ay]) G
 have M:=dj F (m:=8) (by rw [U9]) N
 have L:=dj E (m:=7) (by rw [DS]) M
 have K:=dj D (m:=5) (by rw [DS]) L
 have J:=dj C (m:=3) (by rw [DS]) K
 have AB:=dj B (m:=1) (by rw [Ay]) J
 exact AB
def S4 (w:World) (s:aN):Prop:= ∃ l:List an,s.n=l.length∧(rd s.a l.length 9 (l.map an.cells)).holds w∧(∀ x∈l,HQ w x)∧l.length≤maxLen∧s.n≤s.c
theorem Ts:r_ Tryz.prog 22 aN (fun s=>[vS s.a s.n s.c]) S4:=ml P9 Ou Rg
structure RT (w:World) (s:aZ):Prop where
 kN:S4 w s.kN
theorem TZ:fL Tryz.prog 24=some [(22,0)]:=by kernel_rfl
theorem Ur:r_ Tryz.prog 24 aZ aZ.cells RT:=fun {H} enc w base sp A fuel cs x h=>by
 obtain ⟨hl,hp⟩:=jl TZ h
 obtain ⟨G,AA,D⟩:=hp 0 22 0 rfl
 obtain ⟨F,B,E⟩:=Ts _ _ _ _ _ _ _ _ D
 refine ⟨⟨F⟩,?_,⟨E⟩⟩
 have C:=gS (hl.trans S6) (by rw [Tp]) B
 exact C
theorem Up:Tryz.prog.cellsOf 25=1:=by kernel_rfl
theorem OW:Tryz.prog.cellsOf 127=2:=by kernel_rfl
theorem RX:Tryz.prog.cellsOf 125=1:=by kernel_rfl
theorem OI:Tryz.prog.cellsOf 124=3:=by kernel_rfl
structure Lr (w:World) (s:cG):Prop where
 At:zc w s.At
 ew:Er w s.ew
theorem SW:fL Tryz.prog 124=some [(3,0),(38,1)]:=by kernel_rfl
theorem Ri:r_ Tryz.prog 124 cG cG.cells Lr:=fun {H} enc w base sp A fuel cs x h=>by
 obtain ⟨hl,hp⟩:=jl SW h
 obtain ⟨M,O,F⟩:=hp 0 3 0 rfl
 obtain ⟨K,B,AA⟩:=Az _ _ _ _ _ _ _ _ F
 obtain ⟨N,P,G⟩:=hp 1 38 1 rfl
 obtain ⟨L,C,J⟩:=Gz _ _ _ _ _ _ _ _ G
 refine ⟨⟨K,L⟩,?_,⟨AA,J⟩⟩
 have E:=gS (hl.trans OI) (by rw [DS]) C
 have D:=dj B (m:=1) (by rw [Ay]) E
 exact D
def OO (w:World) (s:aN):Prop:= ∃ l:List cG,s.n=l.length∧(rd s.a l.length 3 (l.map cG.cells)).holds w∧(∀ x∈l,Lr w x)∧l.length≤maxLen∧s.n≤s.c
theorem Se:r_ Tryz.prog 125 aN (fun s=>[vS s.a s.n s.c]) OO:=ml Of OI Ri
structure Is (w:World) (s:du):Prop where
 dh:zc w s.dh
 bw:OO w s.bw
theorem SV:fL Tryz.prog 127=some [(3,0),(125,1)]:=by kernel_rfl
theorem Sd:r_ Tryz.prog 127 du du.cells Is:=fun {H} enc w base sp A fuel cs x h=>by
 obtain ⟨hl,hp⟩:=jl SV h
 obtain ⟨M,O,F⟩:=hp 0 3 0 rfl
 obtain ⟨K,B,AA⟩:=Az _ _ _ _ _ _ _ _ F
 obtain ⟨N,P,G⟩:=hp 1 125 1 rfl
 obtain ⟨L,C,J⟩:=Se _ _ _ _ _ _ _ _ G
 refine ⟨⟨K,L⟩,?_,⟨AA,J⟩⟩
 have E:=gS (hl.trans OW) (by rw [RX]) C
 have D:=dj B (m:=1) (by rw [Ay]) E
 exact D
def SH (w:World) (s:aN):Prop:= ∃ l:List du,s.n=l.length∧(rd s.a l.length 2 (l.map du.cells)).holds w∧(∀ x∈l,Is w x)∧l.length≤maxLen∧s.n≤s.c
theorem UJ:r_ Tryz.prog 25 aN (fun s=>[vS s.a s.n s.c]) SH:=ml RB OW Sd
theorem Tk:Tryz.prog.cellsOf 26=1:=by kernel_rfl
theorem OM:Tryz.prog.cellsOf 129=4:=by kernel_rfl
theorem Og:Tryz.prog.cellsOf 119=3:=by kernel_rfl
structure OB (w:World) (s:cM):Prop where
 aY:zc w s.aY
 mq:Er w s.mq
theorem RH:fL Tryz.prog 119=some [(3,0),(38,1)]:=by kernel_rfl
theorem SI:r_ Tryz.prog 119 cM cM.cells OB:=fun {H} enc w base sp A fuel cs x h=>by
 obtain ⟨hl,hp⟩:=jl RH h
 obtain ⟨M,O,F⟩:=hp 0 3 0 rfl
 obtain ⟨K,B,AA⟩:=Az _ _ _ _ _ _ _ _ F
 obtain ⟨N,P,G⟩:=hp 1 38 1 rfl
 obtain ⟨L,C,J⟩:=Gz _ _ _ _ _ _ _ _ G
 refine ⟨⟨K,L⟩,?_,⟨AA,J⟩⟩
 have E:=gS (hl.trans Og) (by rw [DS]) C
 have D:=dj B (m:=1) (by rw [Ay]) E
 exact D
structure IW (w:World) (s:bG):Prop where
 mz:OB w s.mz
 jF:zc w s.jF
theorem Ru:fL Tryz.prog 129=some [(119,0),(3,3)]:=by kernel_rfl
theorem Ro:r_ Tryz.prog 129 bG bG.cells IW:=fun {H} enc w base sp A fuel cs x h=>by
 obtain ⟨hl,hp⟩:=jl Ru h
 obtain ⟨M,O,F⟩:=hp 0 119 0 rfl
 obtain ⟨K,B,AA⟩:=SI _ _ _ _ _ _ _ _ F
 obtain ⟨N,P,G⟩:=hp 1 3 3 rfl
 obtain ⟨L,C,J⟩:=Az _ _ _ _ _ _ _ _ G
 refine ⟨⟨K,L⟩,?_,⟨AA,J⟩⟩
 have E:=gS (hl.trans OM) (by rw [Ay]) C
 have D:=dj B (m:=3) (by rw [Og]) E
 exact D
def SK (w:World) (s:aN):Prop:= ∃ l:List bG,s.n=l.length∧(rd s.a l.length 4 (l.map bG.cells)).holds w∧(∀ x∈l,IW w x)∧l.length≤maxLen∧s.n≤s.c
theorem Ua:r_ Tryz.prog 26 aN (fun s=>[vS s.a s.n s.c]) SK:=ml PH OM Ro
structure S8 (w:World) (s:bJ):Prop where
 aI:RT w s.aI
 dJ:zc w s.dJ
 ai:SH w s.ai
 ae:SK w s.ae
 bH:zc w s.bH
 cv:zc w s.cv
 bM:zc w s.bM
theorem UM:fL Tryz.prog 28=some [(24,0),(3,1),(25,2),(26,3),(3,4),(3,5),(3,6)]:=by kernel_rfl
theorem UR:r_ Tryz.prog 28 bJ bJ.cells S8:=fun {H} enc w base sp A fuel cs x h=>by
 obtain ⟨hl,hp⟩:=jl UM h
 obtain ⟨n,u,Q⟩:=hp 0 24 0 rfl
 obtain ⟨e,B,X⟩:=Ur _ _ _ _ _ _ _ _ Q
 obtain ⟨o,v,R⟩:=hp 1 3 1 rfl
 obtain ⟨f,C,Y⟩:=Az _ _ _ _ _ _ _ _ R
 obtain ⟨p,y,S⟩:=hp 2 25 2 rfl
 obtain ⟨g,D,Z⟩:=UJ _ _ _ _ _ _ _ _ S
 obtain ⟨q,z,T⟩:=hp 3 26 3 rfl
 obtain ⟨i,E,a⟩:=Ua _ _ _ _ _ _ _ _ T
 obtain ⟨r,y4,AA⟩:=hp 4 3 4 rfl
 obtain ⟨j,F,b⟩:=Az _ _ _ _ _ _ _ _ AA
 obtain ⟨s,y5,V⟩:=hp 5 3 5 rfl
 obtain ⟨k,G,c⟩:=Az _ _ _ _ _ _ _ _ V
 obtain ⟨t,y6,W⟩:=hp 6 3 6 rfl
 obtain ⟨l,AB,d⟩:=Az _ _ _ _ _ _ _ _ W
 refine ⟨⟨e,f,g,i,j,k,l⟩,?_,⟨X,Y,Z,a,b,c,d⟩⟩
 have P:=gS (hl.trans Rj) (by rw [Ay]) AB
 have O:=dj G (m:=6) (by rw [Ay]) P
 have N:=dj F (m:=5) (by rw [Ay]) O
 have M:=dj E (m:=4) (by rw [Tk]) N
 have L:=dj D (m:=3) (by rw [Up]) M
 have K:=dj C (m:=2) (by rw [Ay]) L
 have J:=dj B (m:=1) (by rw [S6]) K
 exact J
theorem R_:Tryz.prog.cellsOf 29=1:=by kernel_rfl
def P_ (w:World) (s:aN):Prop:= ∃ l:List Int,s.n=l.length∧(rd s.a l.length 1 (l.map iC)).holds w∧(∀ x∈l,zc w x)∧l.length≤maxLen∧s.n≤s.c
theorem Rs:r_ Tryz.prog 29 aN (fun s=>[vS s.a s.n s.c]) P_:=ml QS Ay Az
theorem Tm:Tryz.prog.cellsOf 30=1:=by kernel_rfl
theorem UO:Tryz.prog.cellsOf 47=1:=by kernel_rfl
theorem SZ:Tryz.prog.cellsOf 46=7:=by kernel_rfl
theorem UZ:Tryz.prog.cellsOf 4=1:=by kernel_rfl
def TL (w:World) (n:Bool):Prop:=True
theorem U5:r_ Tryz.prog 4 Bool (fun b=>[vB b]) TL:=Nh UX
theorem So:Tryz.prog.cellsOf 44=3:=by kernel_rfl
theorem TE:Tryz.prog.cellsOf 42=1:=by kernel_rfl
theorem OS:Tryz.prog.cellsOf 131=2:=by kernel_rfl
structure JO (w:World) (s:aO):Prop where
 gh:zc w s.gh
 Read:zc w s.Read
theorem Rm:fL Tryz.prog 131=some [(3,0),(3,1)]:=by kernel_rfl
theorem Sc:r_ Tryz.prog 131 aO aO.cells JO:=fun {H} enc w base sp A fuel cs x h=>by
 obtain ⟨hl,hp⟩:=jl Rm h
 obtain ⟨M,O,F⟩:=hp 0 3 0 rfl
 obtain ⟨K,B,AA⟩:=Az _ _ _ _ _ _ _ _ F
 obtain ⟨N,P,G⟩:=hp 1 3 1 rfl
 obtain ⟨L,C,J⟩:=Az _ _ _ _ _ _ _ _ G
 refine ⟨⟨K,L⟩,?_,⟨AA,J⟩⟩
 have E:=gS (hl.trans OS) (by rw [Ay]) C
 have D:=dj B (m:=1) (by rw [Ay]) E
 exact D
def Q3 (w:World) (s:aN):Prop:= ∃ l:List aO,s.n=l.length∧(rd s.a l.length 2 (l.map aO.cells)).holds w∧(∀ x∈l,JO w x)∧l.length≤maxLen∧s.n≤s.c
theorem Uv:r_ Tryz.prog 42 aN (fun s=>[vS s.a s.n s.c]) Q3:=ml Si OS Sc
structure QL (w:World) (s:eG):Prop where
 Start:zc w s.Start
 gf:zc w s.gf
 ak:Q3 w s.ak
theorem TV:fL Tryz.prog 44=some [(3,0),(3,1),(42,2)]:=by kernel_rfl
theorem Uc:r_ Tryz.prog 44 eG eG.cells QL:=fun {H} enc w base sp A fuel cs x h=>by
 obtain ⟨hl,hp⟩:=jl TV h
 obtain ⟨R,AA,AB⟩:=hp 0 3 0 rfl
 obtain ⟨O,B,L⟩:=Az _ _ _ _ _ _ _ _ AB
 obtain ⟨S,V,J⟩:=hp 1 3 1 rfl
 obtain ⟨P,C,M⟩:=Az _ _ _ _ _ _ _ _ J
 obtain ⟨T,W,K⟩:=hp 2 42 2 rfl
 obtain ⟨Q,D,N⟩:=Uv _ _ _ _ _ _ _ _ K
 refine ⟨⟨O,P,Q⟩,?_,⟨L,M,N⟩⟩
 have G:=gS (hl.trans So) (by rw [TE]) D
 have F:=dj C (m:=2) (by rw [Ay]) G
 have E:=dj B (m:=1) (by rw [Ay]) F
 exact E
structure O1 (w:World) (s:bu):Prop where
 Out:TL w s.Out
 eK:TL w s.eK
 Time:Er w s.Time
 cz:QL w s.cz
theorem TB:fL Tryz.prog 46=some [(4,0),(4,1),(38,2),(44,4)]:=by kernel_rfl
theorem Uf:r_ Tryz.prog 46 bu bu.cells O1:=fun {H} enc w base sp A fuel cs x h=>by
 obtain ⟨hl,hp⟩:=jl TB h
 obtain ⟨W,a,K⟩:=hp 0 4 0 rfl
 obtain ⟨S,B,O⟩:=U5 _ _ _ _ _ _ _ _ K
 obtain ⟨X,b,L⟩:=hp 1 4 1 rfl
 obtain ⟨T,C,P⟩:=U5 _ _ _ _ _ _ _ _ L
 obtain ⟨Y,c,M⟩:=hp 2 38 2 rfl
 obtain ⟨AA,D,Q⟩:=Gz _ _ _ _ _ _ _ _ M
 obtain ⟨Z,d,N⟩:=hp 3 44 4 rfl
 obtain ⟨V,E,R⟩:=Uc _ _ _ _ _ _ _ _ N
 refine ⟨⟨S,T,AA,V⟩,?_,⟨O,P,Q,R⟩⟩
 have J:=gS (hl.trans SZ) (by rw [So]) E
 have AB:=dj D (m:=4) (by rw [DS]) J
 have G:=dj C (m:=2) (by rw [UZ]) AB
 have F:=dj B (m:=1) (by rw [UZ]) G
 exact F
def Pe (w:World) (s:aN):Prop:= ∃ l:List bu,s.n=l.length∧(rd s.a l.length 7 (l.map bu.cells)).holds w∧(∀ x∈l,O1 w x)∧l.length≤maxLen∧s.n≤s.c
theorem UF:r_ Tryz.prog 47 aN (fun s=>[vS s.a s.n s.c]) Pe:=ml Q5 SZ Uf
def RS (w:World) (s:aN):Prop:= ∃ l:List aN,s.n=l.length∧(rd s.a l.length 1 (l.map (fun s=>[vS s.a s.n s.c]))).holds w∧(∀ x∈l,Pe w x)∧l.length≤maxLen∧s.n≤s.c
theorem Uk:r_ Tryz.prog 30 aN (fun s=>[vS s.a s.n s.c]) RS:=ml Sp UO UF
structure UP (w:World) (s:br):Prop where
 ah:S8 w s.ah
 aJ:P_ w s.aJ
 bB:P_ w s.bB
 dW:zc w s.dW
 ar:RS w s.ar
theorem QR:fL Tryz.prog 32=some [(28,0),(29,7),(29,8),(3,9),(30,10)]:=by kernel_rfl
theorem TI:r_ Tryz.prog 32 br br.cells UP:=fun {H} enc w base sp A fuel cs x h=>by
 obtain ⟨hl,hp⟩:=jl QR h
 obtain ⟨b,g,M⟩:=hp 0 28 0 rfl
 obtain ⟨W,B,R⟩:=UR _ _ _ _ _ _ _ _ M
 obtain ⟨c,i,N⟩:=hp 1 29 7 rfl
 obtain ⟨X,C,S⟩:=Rs _ _ _ _ _ _ _ _ N
 obtain ⟨d,j,O⟩:=hp 2 29 8 rfl
 obtain ⟨Y,D,T⟩:=Rs _ _ _ _ _ _ _ _ O
 obtain ⟨e,k,P⟩:=hp 3 3 9 rfl
 obtain ⟨Z,E,AA⟩:=Az _ _ _ _ _ _ _ _ P
 obtain ⟨f,l,Q⟩:=hp 4 30 10 rfl
 obtain ⟨a,F,V⟩:=Uk _ _ _ _ _ _ _ _ Q
 refine ⟨⟨W,X,Y,Z,a⟩,?_,⟨R,S,T,AA,V⟩⟩
 have L:=gS (hl.trans Uu) (by rw [Tm]) F
 have K:=dj E (m:=10) (by rw [Ay]) L
 have J:=dj D (m:=9) (by rw [R_]) K
 have AB:=dj C (m:=8) (by rw [R_]) J
 have G:=dj B (m:=7) (by rw [Rj]) AB
 exact G
theorem zL:ownKnob Tryz.prog.godebug=none:=by kernel_rfl
theorem x3:laidOutB Tryz.prog=true:=by kernel_rfl
theorem vm (os:Os) (started:os.Started) (H:Type) (enc:TypeId×Value→H):
 ReturnsInHanded {} Tryz.checked os 5 .any (fun w args=>(Rows.raceTiedSpec.pre enc Tryz.prog Tryz.f5 [] false w args∧laidMetH Tryz.prog [("kreisel/race.table",Rows.laid_kreisel_race_table)] w)∧sizedMet enc Tryz.prog Tryz.f5 (OpenSpec.ofChange Rows.raceTiedSpec) false w args) (Rows.raceTiedSpec.post enc Tryz.prog Tryz.f5 false true false false):=by
 refine returnsInHanded_of_change_and (C:=Tryz.checked) (X:=(fun w _=>laidMetH Tryz.prog [("kreisel/race.table",Rows.laid_kreisel_race_table)] w)) (fun _ _ _ hh h=>h.of_heap hh) zL started kr Tryz.func5
  (ChangeSpec.witness_shaped (enc:=enc) (C:=Tryz.checked) (os:=os) (X:=(fun w _=>laidMetH Tryz.prog [("kreisel/race.table",Rows.laid_kreisel_race_table)] w)) false (World.doorLaid Tryz.prog 400 os) #[.agg #[(vS none 0 0),(vI 0),(vS none 0 0),(vS none 0 0),(vI 0),(vI 0),(vI 0),(vS none 0 0),(vS none 0 0),(vI 0),(vS none 0 0)],Value.int .u8 0,Value.int .u8 0] 8 rfl (World.shaped_of_RefB kr kr) kr kr kr (DL os _)) ?_
 intro W base args ds gs before E hW _ _ hL _
 have D: ∀ (j:Nat) t v,Tryz.f5.params[j]? =some t→args[j]? =some v→Value.okWide Tryz.prog W .any base t v:=E
 have hW':=hW
 obtain ⟨p,q,K,hV,rfl,b,c⟩:=hW
 have hA:DataW.TrodAll enc Tryz.prog W 0 (fun _=>true) true Tryz.f5.params.toList args.toList ds p:=K
 have F:=hA
 rw [Tryz.params5] at hA D
 obtain ⟨Q,m,s,T,z,q0,L,rfl,rfl,Y,d⟩:=trodAll_cons hA
 obtain ⟨R,n,u,AA,p1,q1,rfl,rfl,rfl,Z,f⟩:=trodAll_cons d
 obtain ⟨S,o,y,V,p2,q2,rfl,rfl,rfl,a,g⟩:=trodAll_cons f
 obtain ⟨rfl,rfl,rfl⟩:=trodAll_nil g
 obtain rfl:args= #[Q,R,S]:=by cases args; simp_all
 obtain ⟨rfl,rfl⟩:=trodVars_none hV
 obtain ⟨s0,rfl,R0⟩:=D8 QR TI (D 0 32 Q rfl rfl) Y
 obtain ⟨i,rfl,R1⟩:=FB (k:= .u8) Od (D 1 5 R rfl rfl) Z
 obtain ⟨l,rfl,R2⟩:=FB (k:= .u8) Od (D 2 5 S rfl rfl) a
 simp only [List.append_nil] at hW' F
 have J:=x4 hL
 obtain ⟨r,az,ha,kA,kC,cA,cC,bA,bC,O,P,drA,drC,M,N,rfl,G,B⟩:=G9 (R1:=HQ) (R2:=Is) (R3:=IW) (R4:=Lr) (R5:=zc) (R6:=Pe) (R7:=O1) (R8:=JO) R0.ah.aI.kN (fun x hx=>hx.iN) R0.ah.ai (fun x hx=>hx.bw) R0.ah.ae R0.aJ R0.bB R0.ar (fun x hx=>hx) (fun x hx=>hx.cz.ak)
 have AB:=(Dj r kA kC az cA cC bA bC O P drA drC ha M N i l G R1 R2).run W (by intro A hA; simp only [er,List.not_mem_nil,or_false] at hA; rcases hA with rfl|rfl|rfl|rfl|rfl|rfl|rfl|rfl|rfl; exact J; exact B.1; exact B.2.1; exact B.2.2.1; exact B.2.2.2.1; exact B.2.2.2.2.1; exact B.2.2.2.2.2.1; exact B.2.2.2.2.2.2.1; exact B.2.2.2.2.2.2.2)
 refine (AB).mono fun e W' ⟨he,hk⟩=>?_
 subst he
 exact ⟨_,U,Jl x3 hW' F U U kr hk.below kr UX⟩
theorem wD:Rows.RaceTiedSaid:=
 OpenClaim.holds_of_wide 5 Tryz.f5 rfl rfl rfl rfl rfl rfl rfl ⟨rfl,rfl,rfl,rfl,rfl⟩ rfl rfl rfl rfl rfl kr Tryz.func5 vl
  (of_decide_eq_true kr) (by unfold Func.isWrapper; first|(rw [if_pos (by decide+kernel)]; kernel_rfl)|(rw [if_neg (by decide+kernel)]; exact ⟨rfl,rfl⟩))
  (fun os started H enc _=>vm os started H enc)
/-- the statement -/
theorem raceTied_said:Rows.RaceTiedCardSaid:=
 Claim7.holds_tied_plain_at .later [] [.funcsDeep] true (true,"d707d603fef6756814c027381744b2c541b0acfb8d070f8830a75e59a0686e6d") true
  wD (fun _ h=>by cases h) kr (fun _ h=>by cases h) raceTied_row_tie rfl ⟨rfl,rfl⟩ kr rfl
  (fun f fn hf B=>by
   obtain rfl:f=5:=Option.some.inj ((show Tryz.prog.funcNamed "kreisel/kreisellaw06.RaceTied"=some 5 by kernel_rfl).symm.trans hf) |>.symm
   obtain rfl:fn=Tryz.f5:=(Option.some.inj (Tryz.func5.symm.trans B)).symm
   exact ⟨kr,fun j t ht=>by
    rw [Tryz.params5] at ht
    have hm:t∈([32,5,5]:List Nat):=by simpa using Array.mem_of_getElem? ht
    have A:(([32,5,5]:List Nat).all fun u=> !Tryz.prog.wantsStandIn u)=true:=by kernel_rfl
    exact (show Tryz.prog.wantsStandIn t=false by simpa using List.all_eq_true.1 A t hm)⟩)
  kr
#print axioms raceTied_said
end
end Go.Proofs.YtdllkkdchkhimaaGreatDoor
