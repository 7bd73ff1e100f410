/-
 The statement raceTrue_said, part 8 of 8: B9, WLe, Ends5, Can, False, Sim, Told, Clear, Ways, WayM, R1, Y1, Y2, Y3, Y5, Rr3, Rr4, Rr5, Rra, Ry1, Ry3, Ry4, LineOpen, RaceOpen, True0.
 Conditions: none.
-/
import Derived.Test.YtdllkkdchkhimaaGreatDoorTz1
import Derived.Test.YtdllkkdchkhimaaGreatDoorTz2
import Derived.Test.YtdllkkdchkhimaaGreatDoorTz3
import Derived.Test.YtdllkkdchkhimaaGreatDoorTz4
import Derived.Test.YtdllkkdchkhimaaGreatDoorTz5
import Derived.Test.YtdllkkdchkhimaaGreatDoorTz6
import Derived.Test.YtdllkkdchkhimaaGreatDoorTz7
import Derived.Test.YtdllkkdchkhimaaGreatDoorCards
import Derived.Test.YtdllkkdchkhimaaGreatDoorTie
import Derived.SevenTiedAt
import Derived.LaidMore
import Derived.Stop.Joined
import Derived.Test.YtdllkkdchkhimaaGreatDoorRows
import Derived.Test.YtdllkkdchkhimaaGreatDoorProg
import Derived.KernelRfl
namespace Go.Proofs.YtdllkkdchkhimaaGreatDoor
set_option maxRecDepth 100000
set_option maxHeartbeats 4000000
set_option linter.unusedVariables false
section
open Go.RowKit
theorem Bp (l:bf) (kA:OA) (kC:Nat) (az:List RA) (cA:OA) (cC:Nat) (bA:OA) (bC:Nat) (hin:eE l az):
 d_ Tryz.prog 72 [(vA (bJ.cells (ld l kA kC cA cC bA bC)))] [(rd kA l.aJ.length 9 (l.aJ.map ao.cells)),(rd cA l.ai.length 2 (List.zipWith au.cells l.ai az)),(fc (aS au.gW l.ai az)),(rd bA l.ag.length 4 (l.ag.map bG.cells))] (vI (dx l)):=by
 have N:=hin.si
 have M:=hin.sh
 have K:=hin.nO
 have L:=hin.sf
 refine bE kr Tryz.func72 U U fun P Q hQ hN=>?_
 try dsimp only
 refine WS fun _ C=>fU U fun O=>bg 1 U<|RK C<|ak fun _ D=>WS fun _ E=>bg 1 U<|rS (LP (aZ.cells (aZ.mk (aN.mk kA l.aJ.length kC))) 0 U cm U U U)<|rS (CL (vR l.aJ kA kC asm) (bh [1]) U)<|rP 1 [] I ?_
 refine RK E<|cE U (fun A=>?_) (fun A=>?_)
 ·rw [Bool.not_eq_true'] at A
  refine WS fun _ F=>rP 1 [] I ?_
  refine RK F<|ar<|Q1 hQ U U U ?_
  exact cI (yI (by simpa using A)).symm
 rw [Bool.not_eq_false'] at A
 refine WK D<|ak fun _ G=>WS fun _ H=>fF 1 [] (mc 0 U I) U<|rS (CL (Oc l kA kC az cA cC bA bC hin asm) (bh [1,2,3,4]) U)<|rP 1 [] I ?_
 refine RK H<|cE U (br fun B=>?_) (bq fun B=>?_)
 ·refine WS fun _ AA=>rP 1 [] I ?_
  refine RK AA<|ar<|Q1 hQ U U U ?_
  exact cI (p7 A B).symm
 refine WK G<|WS fun _ J=>rP 1 [] I ?_
 refine RK J<|ar<|Q1 hQ U U U ?_
 exact cI (w9 A B).symm
theorem Mz (l:bf) (kA:OA) (kC:Nat) (az:List RA) (cA:OA) (cC:Nat) (bA:OA) (bC:Nat) (s:aO) (hin:eE l az) (hok:kR l) (hs:(0≤s.gl∧s.gl≤(l.ag.length:Int)-1)∧0≤s.Read∧s.Read≤86400000):
 d_ Tryz.prog 169 [(vA (bJ.cells (ld l kA kC cA cC bA bC))),(vA (aO.cells s))] [(rd kA l.aJ.length 9 (l.aJ.map ao.cells)),(rd cA l.ai.length 2 (List.zipWith au.cells l.ai az)),(fc (aS au.gW l.ai az)),(rd bA l.ag.length 4 (l.ag.map bG.cells))] (vT [(vA (aa.cells (cL l s))),(vB (decide ((cL l s).Lo≤(cL l s).Hi)))]):=by
 have AE:=hin.si
 have AD:=hin.sh
 have AB:=hin.nO
 have AC:=hin.sf
 refine bE kr Tryz.func169 U U fun w0 Q hQ hN=>?_
 try dsimp only
 refine WS fun _ i=>fU U fun b2=>fU U fun b3=>AL U di fun b4=>rP 1 [] I ?_
 refine RK i<|ak fun _ j=>dL cu [11,12] [] [] [0,1,2,3,4,5,6] [] U U U U U<|eS U (FA 2 U fB U)<|eS U (L1 (vS cA l.ai.length cC) 2 U cm U U)<|eS U (FA 3 U fB U)<|eS U (L1 (vS bA l.ag.length bC) 2 U cm U U)<|eS U (FA 0 U fB U)<|eS U (L1 (vI s.gl) 1 U cm U U) ?_
 obtain ⟨y,hy⟩:=aM l.ag ((s.gl).toNat) om
 have w:=bQ bG.cells hy
 refine eS U (IA ((s.gl).toNat) U (aB 6 U) vq dc om om)<|eS U (mK ((((s.gl).toNat)*4)+3) U (aB 6 U) (Nat.mul_pos om dc) fB U)<|eS U (gh ((s.gl).toNat) 3 (vI y.jN) U cm (aB 6 U) w U dc U) ?_
 have AF:=(hok.vn _ (aV hy)).2
 obtain ⟨x,hx⟩:=aM l.ai ((y.jN).toNat) om
 obtain ⟨xa,J⟩:=aM az ((y.jN).toNat) om
 have u:(List.zipWith au.cells l.ai az)[(y.jN).toNat]? =some (au.cells x xa):=dB hx J
 refine eS U (IA ((y.jN).toNat) U (aB 4 U) z8 dc om om)<|eS U (ov ((y.jN).toNat) 0 (du.cells (du.mk x.dj (aN.mk xa.1 x.bx.length xa.2))) U cm (aB 4 U) u U dc U U)<|e9 U<|cq U fun T6 m=>AL U It fun b7=>aF (m _ _ (aL [1,2,3,4,5,6,7]) ?_)
 refine cq U fun T8 o=>fW U O2 U<|aF (o _ _ (aL [1,2,3,4,5,6,7]) ?_)
 refine fO U<|KK j<|WS fun _ k=>rP 2 [] I ?_
 refine RK k<|ak fun _ K=>ax ?_
 have A:(0≤(0:Int)∧(0:Int)≤(fr (gf x s.Read) 86400001))∧((fr (gf x s.Read) 86400001)≤(86400001:Int)∧(86400001:Int)≤86400001):=by (have Z:=ib (p:=gf x s.Read) (n:=86400001); omega)
 refine bR (ι:={z:Int×Int // (0≤z.1∧z.1≤(fr (gf x s.Read) 86400001))∧((fr (gf x s.Read) 86400001)≤z.2∧z.2≤86400001)}) [2,3,4,6] [0,1,2,3,4,5,6,7] U U (fun z=>[(7,(vI z.1.1)),(8,(vI z.1.2))]) (fun z=>[]) (fun _=>rfl) (fun _=>rfl) (fun z=>(z.1.2-z.1.1).toNat) ⟨((0:Int),(86400001:Int)),A⟩ (aU U) (aL [0,1,2,3,4,5,6,7]) ?_
 clear A
 rintro ⟨⟨a,b⟩,⟨H,AG⟩⟩ J11 F
 try dsimp only at H AG
 try dsimp only
 have B:=hok.clock _ (aV hx)
 have Z:=ib (p:=gf x s.Read) (n:=86400001)
 have Y:=ib (p:=gi x s.Read) (n:=86400001)
 refine ak fun _ L=>WS fun _ M=>rP 3 [] I ?_
 refine RK M<|cE U (aQ fun c=>?_) (aP fun c=>?_)
 ·refine WK L<|ax<|WS fun _ N=>bg 3 U<|rS (BI U (nM om om om))<|bg 1 U<|RK N<|ak fun _ O=>dh cu 9 kr<|dP 3 [] (mc 0 U I) ?_
  refine dS (CL (Cc x xa.1 xa.2 ((a+b)/2) asm om) (ay (show iq _ (rd xa.1 x.bx.length 3 (x.bx.map cH.cells)).holds from (cT 6 U (bT hx J (by simp [au.gW]))))<|aK) U)<|dS (SX (kE (v:=(vI ((hU x ((a+b)/2)).Hi))) U U fB Ao U) U U) ?_
  have t:=qy B (show 0≤(a+b)/2∧(a+b)/2≤90000000 by omega)
  refine dP 4 [] (mc 2 U I) ?_
  refine cK<|RK O<|cE U (aQ fun g=>?_) (aP fun g=>?_)
  ·refine an<|rP 2 [] I ?_
   refine aF<|aH ?_
   refine aT (F ⟨(a,((a+b)/2)),(by dsimp only; have hm:=kG (r:=s.Read) B (x:=(a+b)/2) om om; rcases Int.lt_or_le ((a+b)/2) (fr (gf x s.Read) 86400001) with q|q; (have C:=hm.1 q; simp only [gf,decide_eq_false_iff_not] at C; omega); (have C:=hm.2.1 q; simp only [gf,decide_eq_true_eq] at C; omega))⟩ _ _ _ rfl (by simp only []; omega) (aU rfl) (aL [0,1,2,3,4,5,6,7]))
  refine an<|rP 3 [] I ?_
  refine aF<|aH ?_
  refine aT (F ⟨((((a+b)/2)+1),b),(by dsimp only; have hm:=kG (r:=s.Read) B (x:=(a+b)/2) om om; rcases Int.lt_or_le ((a+b)/2) (fr (gf x s.Read) 86400001) with q|q; (have C:=hm.1 q; simp only [gf,decide_eq_false_iff_not] at C; omega); (have C:=hm.2.1 q; simp only [gf,decide_eq_true_eq] at C; omega))⟩ _ _ _ rfl (by simp only []; omega) (aU rfl) (aL [0,1,2,3,4,5,6,7]))
 refine bB<|ae<|ae<|aA<|KK K<|WS fun _ P=>bg 2 U<|RK P<|WS fun _ R=>rP 2 [] I ?_
 refine RK R<|ak fun _ S=>ax ?_
 have A:(-1≤((-1):Int)∧((-1):Int)≤(fr (gi x s.Read) 86400001)-1)∧((fr (gi x s.Read) 86400001)-1≤(86400000:Int)∧(86400000:Int)≤86400000):=by (have Y:=ib (p:=gi x s.Read) (n:=86400001); omega)
 refine bR (ι:={z:Int×Int // (-1≤z.1∧z.1≤(fr (gi x s.Read) 86400001)-1)∧((fr (gi x s.Read) 86400001)-1≤z.2∧z.2≤86400000)}) [2,3,4,6,10] [0,1,2,3,4,5,6,7] U U (fun z=>[(7,(vI z.1.1)),(8,(vI z.1.2))]) (fun z=>[]) (fun _=>rfl) (fun _=>rfl) (fun z=>(z.1.2-z.1.1).toNat) ⟨(((-1):Int),(86400000:Int)),A⟩ (aU U) (aL [0,1,2,3,4,5,6,7]) ?_
 clear A
 rintro ⟨⟨d,e⟩,⟨D,E⟩⟩ J20 G
 try dsimp only at D E
 try dsimp only
 have B:=hok.clock _ (aV hx)
 have Z:=ib (p:=gf x s.Read) (n:=86400001)
 have Y:=ib (p:=gi x s.Read) (n:=86400001)
 refine ak fun _ T=>WS fun _ AA=>rP 3 [] I ?_
 refine RK AA<|bS U (aP fun f=>?_) (aQ fun f=>?_)
 ·refine bB<|ae<|ae<|aA<|KK S<|WS fun _ X=>bg 2 U<|rS (SX (bj (xs:=[(0,.tmp 63),(1,.tmp 64)]) (cs:=(aa.cells (aa.mk a d))) U U (bk gv U)) U U)<|bg 3 U<|tF U cv U<|rP 1 [] I ?_
  refine RK X<|ar<|lf hQ [0] (mc 1 U I) U ?_
  have e0:cL l s=⟨a,d⟩:=by (unfold cL p9; rw [xL hy hx,show a=(fr (gf x s.Read) 86400001) by omega,show d=(fr (gi x s.Read) 86400001)-1 by omega])
  rw [e0]
 refine WK T<|ax<|WS fun _ V=>bg 4 U<|rS (BI U (nM om om om))<|bg 1 U<|RK V<|ak fun _ W=>dh cu 9 kr<|dP 3 [] (mc 0 U I) ?_
 refine dS (CL (Cc x xa.1 xa.2 (((d+e)+1)/2) asm om) (ay (show iq _ (rd xa.1 x.bx.length 3 (x.bx.map cH.cells)).holds from (cT 6 U (bT hx J (by simp [au.gW]))))<|aK) U)<|dS (SX (kE (v:=(vI ((hU x (((d+e)+1)/2)).Lo))) U U fB Ap U) U U) ?_
 have t:=qy B (show 0≤(d+e+1)/2∧(d+e+1)/2≤90000000 by omega)
 refine dP 4 [] (mc 2 U I) ?_
 refine cK<|RK W<|cE U (aQ fun h=>?_) (aP fun h=>?_)
 ·refine an<|rP 2 [] I ?_
  refine aF<|aH ?_
  refine aT (G ⟨((((d+e)+1)/2),e),(by dsimp only; have hm:=kG (r:=s.Read) B (x:=(d+e+1)/2) om om; rcases Int.lt_or_le ((d+e+1)/2) (fr (gi x s.Read) 86400001) with q|q; (have C:=hm.2.2.1 q; simp only [gi,decide_eq_false_iff_not] at C; omega); (have C:=hm.2.2.2 q; simp only [gi,decide_eq_true_eq] at C; omega))⟩ _ _ _ rfl (by simp only []; omega) (aU rfl) (aL [0,1,2,3,4,5,6,7]))
 refine an<|rP 3 [] I ?_
 refine aF<|aH ?_
 refine aT (G ⟨(d,((((d+e)+1)/2)-1)),(by dsimp only; have hm:=kG (r:=s.Read) B (x:=(d+e+1)/2) om om; rcases Int.lt_or_le ((d+e+1)/2) (fr (gi x s.Read) 86400001) with q|q; (have C:=hm.2.2.1 q; simp only [gi,decide_eq_false_iff_not] at C; omega); (have C:=hm.2.2.2 q; simp only [gi,decide_eq_true_eq] at C; omega))⟩ _ _ _ rfl (by simp only []; omega) (aU rfl) (aL [0,1,2,3,4,5,6,7]))
end
section
structure Dr (w w':bU):Prop where
 start:w'.Start=w.Start
 now:w.gj≤w'.gj
 n:w'.n=w.n
 least: ∀ b,bW w' b≤bW w b
 times:w'.uR=w.uR
 QH:w.bL≤w'.bL
 Rg:w.cy≤w'.cy
 sigs:w'.P8=w.P8
variable {w w':bU}
theorem Dr.opt (h:Dr w w') {b:Nat} {o:Int×aa} (ho:o∈ik w b): ∃ o'∈ik w' b,o'.1=o.1∧o'.2.Lo≤o.2.Lo∧o.2.Hi≤o'.2.Hi:=by
 unfold ik at ho
 rcases List.mem_cons.1 ho with rfl|ho
 ·exact ⟨(-1,⟨w'.Start,w'.gj⟩),bZ ..,U,by simp only [h.start]; omega,h.now⟩
 ·refine ⟨o,cW _ ?_,U,Int.le_refl _,Int.le_refl _⟩
  unfold sX at ho ⊢; rw [h.times]; exact ho
theorem Dr.may (h:Dr w w') {t:aC} (ht:kd w t=true):kd w' t=true:=by
 unfold kd at ht ⊢
 have:=of_decide_eq_true ht
 have A:=h.QH
 have B:=h.Rg
 have C:=h.sigs
 exact fP om
theorem Dr.fwd (h:Dr w w'): ∀ (b:Nat) (p:aC×Int),p∈fwd w b→ ∃ p'∈Go.Proofs.YtdllkkdchkhimaaGreatDoor.fwd w' b,p'.1=p.1∧p'.2≤p.2:=by
 intro b
 induction b with
 |zero=>
  intro p hp
  simp only [Go.Proofs.YtdllkkdchkhimaaGreatDoor.fwd,bX] at hp ⊢
  subst hp
  exact ⟨_,U,U,by simp only [h.start]; omega⟩
 |succ b ih=>
  intro q hq
  obtain ⟨p,hp,o,ho,e⟩:=fQ.1 hq
  obtain ⟨p',hp',A,D⟩:=ih p hp
  obtain ⟨o',ho',B,E,F⟩:=h.opt ho
  have hl:=h.least b
  have hn:=h.now
  unfold ky at e
  split at e
  ·rename_i C
   simp only [Option.some.injEq] at e
   subst e
   refine ⟨(dp p'.1 (fp o'.1),max (p'.2+bW w' b) o'.2.Lo),fQ.2 ⟨p',hp',o',ho',by unfold ky; rw [if_pos om]⟩,by simp only [A,B],by simp only; omega⟩
  ·cases e
theorem Dr.bwd (h:Dr w w'): ∀ (k:Nat) (p:aC×Int),p∈bwd w k→ ∃ p'∈Go.Proofs.YtdllkkdchkhimaaGreatDoor.bwd w' k,p'.1=p.1∧p.2≤p'.2:=by
 intro k
 induction k with
 |zero=>
  intro p hp
  simp only [Go.Proofs.YtdllkkdchkhimaaGreatDoor.bwd,bX] at hp ⊢
  subst hp
  exact ⟨_,U,U,h.now⟩
 |succ k ih=>
  intro q hq
  simp only [Go.Proofs.YtdllkkdchkhimaaGreatDoor.bwd,ew,List.mem_flatMap,List.mem_filterMap] at hq ⊢
  rcases hq with rfl|⟨p,hp,o,ho,e⟩
  ·exact ⟨_,.inl U,U,h.now⟩
  ·obtain ⟨p',hp',A,D⟩:=ih p hp
   obtain ⟨o',ho',B,E,F⟩:=h.opt ho
   have hl:=h.least (w.n-(k+1))
   rw [h.n]
   unfold nK at e
   split at e
   ·rename_i C
    simp only [Option.some.injEq] at e
    subst e
    exact ⟨(dp p'.1 (fp o'.1),min p'.2 o'.2.Hi-bW w' (w.n-(k+1))),.inr ⟨p',hp',o',ho',by unfold nK; rw [if_pos om]⟩,by simp only [A,B],by simp only; omega⟩
   ·cases e
theorem Dr.back (h:Dr w w') {b:Nat} {p:aC×Int} (hp:p∈back w b): ∃ p'∈Go.Proofs.YtdllkkdchkhimaaGreatDoor.back w' b,p'.1=p.1∧p.2≤p'.2:=by
 unfold Go.Proofs.YtdllkkdchkhimaaGreatDoor.back at hp ⊢
 rw [h.n]
 exact h.bwd _ p hp
theorem Dr.pass (h:Dr w w') {b:Nat} {q:Int×aa} (hq:q∈l3 w b): ∃ q'∈l3 w' b,q'.1=q.1∧q'.2.Lo≤q.2.Lo∧q.2.Hi≤q'.2.Hi:=by
 obtain ⟨o,ho,p,hp,u,hu,e⟩:=g9.1 hq
 obtain ⟨D,E,rfl⟩:=jm.1 e
 obtain ⟨o',ho',A,F,G⟩:=h.opt ho
 obtain ⟨p',hp',B,H⟩:=h.fwd _ p hp
 obtain ⟨u',hu',C,AA⟩:=h.back hu
 have hl:=h.least b
 simp only [jo] at D
 refine ⟨(o'.1,jo w' b p' u' o'),g9.2 ⟨o',ho',p',hp',u',hu',jm.2 ⟨?_,?_,U⟩⟩,A,?_,?_⟩
 ·simp only [jo]; omega
 ·have:=h.may E
  unfold wa at this ⊢
  rw [A,B,C]; exact this
 ·simp only [jo]; omega
 ·simp only [jo]; omega
theorem oP {k:Int}:k∈jx w↔ ∃ i:Nat,k=(i:Int)∧i≤w.n∧jh w (fwd w i)=true:=by
 unfold jx j7
 simp only [sZ,List.mem_filter,List.mem_range]
 constructor
 ·rintro ⟨i,⟨B,A⟩,rfl⟩; exact ⟨i,rfl,om,A⟩
 ·rintro ⟨i,rfl,B,A⟩; exact ⟨i,⟨om,A⟩,rfl⟩
theorem Dr.Hh (h:Dr w w') {k:Int} (hk:k∈jx w):k∈jx w':=by
 obtain ⟨i,rfl,C,A⟩:=oP.1 hk
 refine oP.2 ⟨i,U,by rw [h.n]; exact C,?_⟩
 unfold jh at A ⊢
 obtain ⟨p,hp,D⟩:=List.any_eq_true.1 A
 obtain ⟨p',hp',B,_⟩:=h.fwd _ p hp
 exact List.any_eq_true.2 ⟨p',hp',by rw [B]; exact h.may D⟩
/-- two rides, of two lines, of which one allows more -/
structure TD (l:bf) (r:cG) (l':bf) (r':cG):Prop where
 line:dx l=0
 line':dx l'=0
 ye:fm l r
 ride':fm l' r'
 w:Dr (ct l r) (ct l' r')
 O8:l'.ag.length=l.ag.length
variable {l l':bf} {r r':cG}
theorem TD.ok (h:TD l r l' r') (he:eH l r 0=0):eH l' r' 0=0:=by
 refine lD h.line' h.ride' U fun e=>?_
 obtain ⟨k,hk⟩:=List.exists_mem_of_ne_nil _ (jM he).2.2.2
 have:=h.w.Hh hk
 rw [e] at this; cases this
theorem TD.zY (h:TD l r l' r') {k:Int} (hk:k∈kW l r):k∈kW l' r':=by
 by_cases he:eH l r 0=0
 ·rw [ly he] at hk
  rw [ly (h.ok he)]
  exact h.w.Hh hk
 ·rw [uD he] at hk; cases hk
theorem HR {b:Nat} (hb:b<l.ag.length):eH l r (jw l b)=eH l r 0:=by rw [wP om]
theorem zy {b:Nat}:bW (ct l r) b=if b<l.ag.length then ei l b else 0:=by
 unfold bW ct cO
 split
 ·rename_i h
  simp [h]
 ·rename_i h
  simp [h]
theorem G0 {sg:List aO} {i:Nat} (h:i=0):my sg i=⟨-1,0⟩:=by subst h; rfl
theorem q7 {sg:List aO} {i:Nat} {y:aO} (h:0<i) (hy:sg[i-1]? =some y):my sg i=y:=by unfold my; rw [if_neg om,hy]; rfl
def Qk (l:bf):Prop:= ¬ mq l∧dx l=0
noncomputable instance (l:bf):Decidable (Qk l):=Classical.propDecidable _
end
section
/-- where a sled may be after k beams more -/
def fV (w:bU):Nat→Nat→aC×Int→List (aC×Int)
 |0,_,p=>[p]
 |k+1,b,p=>(ik w b).flatMap fun o=>match ky w b p o with
  |some q=>fV w k (b+1) q
  |none=>[]
variable {w:bU}
theorem g_ {k b:Nat} {p q:aC×Int}:q∈fV w (k+1) b p↔ ∃ o∈ik w b,∃ p',ky w b p o=some p'∧q∈fV w k (b+1) p':=by
 simp only [fV,List.mem_flatMap]
 constructor
 ·rintro ⟨o,ho,h⟩
  cases e:ky w b p o with
  |none=>rw [e] at h; cases h
  |some p'=>rw [e] at h; exact ⟨o,ho,p',e,h⟩
 ·rintro ⟨o,ho,p',e,h⟩
  exact ⟨o,ho,by rw [e]; exact h⟩
theorem qQ: ∀ (k b:Nat) (q:aC×Int),q∈fwd w (b+k)↔ ∃ p∈fwd w b,q∈fV w k b p:=by
 intro k
 induction k with
 |zero=>
  intro b q
  simp only [Nat.add_zero,fV,bX]
  exact ⟨fun h=>⟨q,h,rfl⟩,fun ⟨p,hp,e⟩=>e▸hp⟩
 |succ k ih=>
  intro b q
  rw [show b+(k+1)=(b+1)+k by omega,ih]
  constructor
  ·rintro ⟨p',hp',h⟩
   obtain ⟨p,hp,o,ho,e⟩:=fQ.1 hp'
   exact ⟨p,hp,g_.2 ⟨o,ho,p',e,h⟩⟩
  ·rintro ⟨p,hp,h⟩
   obtain ⟨o,ho,p',e,h'⟩:=g_.1 h
   exact ⟨p',fQ.2 ⟨p,hp,o,ho,e⟩,h'⟩
theorem gI {b:Nat} {p q:aC×Int} {o:Int×aa}:ky w b p o=some q↔max (p.2+bW w b) o.2.Lo≤min o.2.Hi w.gj∧q=(dp p.1 (fp o.1),max (p.2+bW w b) o.2.Lo):=by
 unfold ky
 split
 ·rename_i h
  constructor
  ·intro e; cases e; exact ⟨h,rfl⟩
  ·rintro ⟨_,rfl⟩; rfl
 ·rename_i h
  constructor
  ·intro e; cases e
  ·rintro ⟨h',_⟩; exact absurd h' h
theorem uo {b:Nat} {p q:aC×Int} {o:Int×aa}:nK w b p o=some q↔o.2.Lo≤min p.2 o.2.Hi∧q=(dp p.1 (fp o.1),min p.2 o.2.Hi-bW w b):=by
 unfold nK
 split
 ·rename_i h
  constructor
  ·intro e; cases e; exact ⟨h,rfl⟩
  ·rintro ⟨_,rfl⟩; rfl
 ·rename_i h
  constructor
  ·intro e; cases e
  ·rintro ⟨h',_⟩; exact absurd h' h
theorem Gh {b:Nat} (hb:b≤w.n):((⟨0,0⟩:aC),w.gj)∈back w b:=by
 rcases Nat.lt_or_ge b w.n with h|h
 ·exact (oR h).2 (.inl U)
 ·rw [tQ h]; simp
theorem mS (t:aC):dp t ⟨0,0⟩=t:=by cases t; simp [dp]
theorem zt (a o u:aC):dp (dp a o) u=dp a (dp u o):=by simp only [dp,aC.mk.injEq]; omega
theorem FR (hl: ∀ b,0≤bW w b): ∀ (k:Nat) (u:aC×Int),u∈bwd w k→u.2≤w.gj:=by
 intro k
 induction k with
 |zero=>intro u hu; simp only [bwd,bX] at hu; subst hu; exact Int.le_refl _
 |succ k ih=>
  intro u hu
  simp only [bwd,ew,List.mem_flatMap,List.mem_filterMap] at hu
  rcases hu with rfl|⟨p,hp,o,ho,e⟩
  ·exact Int.le_refl _
  ·obtain ⟨_,rfl⟩:=uo.1 e
   have:=ih p hp
   have:=hl (w.n-(k+1))
   simp only; omega
/-- what follows a passing is told by the way back -/
theorem N5: ∀ (k b:Nat) (p q:aC×Int),b+k≤w.n→p.2≤w.gj→q∈fV w k b p→ ∃ u∈back w b,p.2≤u.2∧q.1=dp p.1 u.1:=by
 intro k
 induction k with
 |zero=>
  intro b p q hb hp hq
  simp only [fV,bX] at hq
  subst hq
  exact ⟨_,Gh om,hp,(mS _).symm⟩
 |succ k ih=>
  intro b p q hb hp hq
  obtain ⟨o,ho,p',e,h⟩:=g_.1 hq
  obtain ⟨C,rfl⟩:=gI.1 e
  obtain ⟨u',hu',B,A⟩:=ih (b+1) _ q om (by simp only; omega) h
  simp only at B A
  refine ⟨(dp u'.1 (fp o.1),min u'.2 o.2.Hi-bW w b),(oR om).2 (.inr ⟨u',hu',o,ho,uo.2 ⟨om,U⟩⟩),by simp only; omega,?_⟩
  rw [A,zt]
theorem LV (hl: ∀ b,0≤bW w b): ∀ (d b:Nat) (p u:aC×Int),w.n=b+d→p.2≤u.2→u∈back w b→ ∃ k,b+k≤w.n∧ ∃ q∈fV w k b p,q.1=dp p.1 u.1:=by
 intro d
 induction d with
 |zero=>
  intro b p u hd hp hu
  rw [tQ om] at hu
  simp only [bX] at hu
  subst hu
  exact ⟨0,om,p,by simp [fV],(mS _).symm⟩
 |succ d ih=>
  intro b p u hd hp hu
  rcases (oR om).1 hu with rfl|⟨u',hu',o,ho,e⟩
  ·exact ⟨0,om,p,by simp [fV],(mS _).symm⟩
  ·obtain ⟨B,rfl⟩:=uo.1 e
   have hn:u'.2≤w.gj:=FR hl _ _ hu'
   simp only at hp
   obtain ⟨k,hk,q,hq,A⟩:=ih (b+1) (dp p.1 (fp o.1),max (p.2+bW w b) o.2.Lo) u' om (by simp only; omega) hu'
   refine ⟨k+1,om,q,g_.2 ⟨o,ho,_,gI.2 ⟨om,U⟩,hq⟩,?_⟩
   rw [A]; simp only; rw [zt]
end
section
section
variable {l:bf} {r:cG} {one at_:Int} {d:Nat} {f g m:Int} {rec:Int→Int→Int→Bool} {i:Int}
end
theorem qt {l:bf} {r:cG} {d:Nat} (hd:d<l.ag.length) {o:Int×aa}:o∈ik (ct l r) d↔o=(-1,⟨r.Start,r.gj⟩)∨ ∃ k,k<r.aj.length∧ ∃ s,r.aj[k]? =some s∧(s.gl=(d:Int)∧(cL l s).Lo≤(cL l s).Hi)∧o=((k:Int),cL l s):=by
 unfold ik sX
 show o∈(-1,(⟨r.Start,r.gj⟩:aa))::((eg l r.aj r.aj.length)[d]?).getD []↔_
 rw [oN hd,Option.getD_some,ew,rL]
theorem o5 {l:bf} {r:cG} {d:Nat} (hd:d<l.ag.length):bW (ct l r) d=ei l d:=by rw [zy,if_pos hd]
theorem tR {l:bf} {n d:Nat} {y:Int} (h:(cO l n)[d]? =some y):y=ei l d:=by
 unfold cO at h
 rw [fE] at h
 have hd:d<n:=by
  rcases Nat.lt_or_ge d n with q|q
  ·exact q
  ·rw [List.getElem?_eq_none (by simpa using q)] at h; cases h
 rw [List.getElem?_range hd] at h
 exact (Option.some.inj h).symm
end
section
def QI (w:bU) (b:Nat) (i:Int):Prop:= ∃ b',b'<b∧ ∃ q∈l3 w b',q.1=i
noncomputable instance (w:bU) (b:Nat) (i:Int):Decidable (QI w b i):=Classical.propDecidable _
def vM (w:bU) (b:Nat):Bool:=(l3 w b).any fun q=>decide (0≤q.1)
def zN (w:bU) (k:Nat):List Int:=((List.range k).filter fun b=> !vM w b).map fun (b:Nat)=>(b:Int)
noncomputable def vL (l:bf) (r:cG):List Int:=if eH l r 0=0 then zN (ct l r) (wD (kW l r)).toNat else []
theorem xo {l:bf} {r:cG} (h:eH l r 0=0):vL l r=zN (ct l r) (wD (kW l r)).toNat:=if_pos h
theorem xE {l:bf} {r:cG} (h: ¬ eH l r 0=0):vL l r=[]:=if_neg h
theorem RZ {l:bf} {r:cG} (h:eH l r 0=0):0≤wD (kW l r)∧wD (kW l r)≤(l.ag.length:Int):=by
 have A:=(Gf (uq h)).1
 rw [ly h] at A ⊢
 obtain ⟨i,e,hi,_⟩:=oP.1 A
 have hn:(ct l r).n=l.ag.length:=ep
 omega
end
section
/-- a truth goes on from here -/
def r9 (w:bU) (b:Nat) (p:aC×Int):Prop:= ∃ k,b+k≤w.n∧ ∃ q∈fV w k b p,kd w q.1=true
/-- a truth may have come here, or earlier -/
def C4 (w:bU) (b:Nat) (p:aC×Int):Prop:= ∃ v,(p.1,v)∈fwd w b∧v≤p.2
def Kj (n:Int) (p:aC×Int):aC×Int:=(p.1,p.2+n)
section
variable {w:bU}
theorem HN: ∀ (k j b:Nat) (p q z:aC×Int),q∈fV w k b p→z∈fV w j (b+k) q→z∈fV w (k+j) b p:=by
 intro k
 induction k with
 |zero=>
  intro j b p q z A B
  simp only [fV,bX] at A
  subst A
  rw [Nat.zero_add]; exact B
 |succ k ih=>
  intro j b p q z A B
  obtain ⟨o,ho,p',e,h⟩:=g_.1 A
  rw [show k+1+j=(k+j)+1 by omega]
  exact g_.2 ⟨o,ho,p',e,ih j (b+1) p' q z h (by rw [show b+1+k=b+(k+1) by omega]; exact B)⟩
theorem Bm: ∀ (k b:Nat) (t:aC) (x y:Int) (q:aC×Int),y≤x→q∈fV w k b (t,x)→ ∃ q'∈fV w k b (t,y),q'.1=q.1∧q'.2≤q.2:=by
 intro k
 induction k with
 |zero=>
  intro b t x y q A hq
  simp only [fV,bX] at hq ⊢
  subst hq
  exact ⟨_,U,U,A⟩
 |succ k ih=>
  intro b t x y q A hq
  obtain ⟨o,ho,p',e,h⟩:=g_.1 hq
  obtain ⟨B,rfl⟩:=gI.1 e
  simp only at B h
  obtain ⟨q',hq',C,D⟩:=ih (b+1) _ _ (max (y+bW w b) o.2.Lo) q om h
  exact ⟨q',g_.2 ⟨o,ho,_,gI.2 ⟨by simp only; omega,U⟩,hq'⟩,C,D⟩
theorem xD {b:Nat} {t:aC} {x y:Int} (h:r9 w b (t,x)) (hy:y≤x):r9 w b (t,y):=by
 obtain ⟨k,hk,q,hq,hm⟩:=h
 obtain ⟨q',hq',e,_⟩:=Bm k b t x y q hy hq
 exact ⟨k,hk,q',hq',by rw [e]; exact hm⟩
theorem uw {k b:Nat} {p q:aC×Int} (h:q∈fV w k b p) (hv:r9 w (b+k) q):r9 w b p:=by
 obtain ⟨j,hj,z,hz,hm⟩:=hv
 exact ⟨k+j,om,z,HN k j b p q z h hz,hm⟩
theorem G8 {b:Nat} {p q:aC×Int} {o:Int×aa} (h:C4 w b p) (ho:o∈ik w b) (e:ky w b p o=some q):C4 w (b+1) q:=by
 obtain ⟨v,hv,A⟩:=h
 obtain ⟨B,rfl⟩:=gI.1 e
 exact ⟨max (v+bW w b) o.2.Lo,fQ.2 ⟨_,hv,o,ho,gI.2 ⟨by simp only; omega,U⟩⟩,by simp only; omega⟩
theorem Ba {b:Nat} {p:aC×Int} (h:p∈fwd w b):C4 w b p:=⟨p.2,h,Int.le_refl _⟩
theorem yJ (hl: ∀ b,0≤bW w b): ∀ (b:Nat) (p:aC×Int),p∈fwd w b→w.Start≤p.2:=by
 intro b
 induction b with
 |zero=>intro p hp; simp only [fwd,bX] at hp; subst hp; exact Int.le_refl _
 |succ b ih=>
  intro q hq
  obtain ⟨p,hp,o,ho,e⟩:=fQ.1 hq
  obtain ⟨_,rfl⟩:=gI.1 e
  have:=ih p hp
  have:=hl b
  simp only; omega
/-- a beam is passed at a time, by a signal -/
def wN (w:bU) (b:Nat) (s t:Int):Prop:= ∃ p∈fwd w b,∃ o∈ik w b,o.1=s∧(max (p.2+bW w b) o.2.Lo≤t∧t≤min o.2.Hi w.gj)∧r9 w (b+1) (dp p.1 (fp o.1),t)
theorem zS (hl: ∀ b,0≤bW w b) {b:Nat} (hb:b<w.n) {s t:Int}:(∃ q∈l3 w b,q.1=s∧q.2.Lo≤t∧t≤q.2.Hi)↔wN w b s t:=by
 constructor
 ·rintro ⟨q,hq,hs,C,D⟩
  obtain ⟨o,ho,p,hp,u,hu,e⟩:=g9.1 hq
  obtain ⟨B,A,rfl⟩:=jm.1 e
  simp only [jo] at C D B
  have hn:u.2≤w.gj:=FR hl _ _ hu
  obtain ⟨k,hk,q,hq',E⟩:=LV hl (w.n-(b+1)) (b+1) (dp p.1 (fp o.1),t) u om (by simp only; omega) hu
  refine ⟨p,hp,o,ho,hs,⟨om,om⟩,k,hk,q,hq',?_⟩
  rw [E]
  unfold wa at A
  rw [show dp (dp p.1 (fp o.1)) u.1=dp (dp p.1 u.1) (fp o.1) by simp only [dp,aC.mk.injEq]; omega]
  exact A
 ·rintro ⟨p,hp,o,ho,hs,⟨C,D⟩,k,hk,q,hq,hm⟩
  obtain ⟨u,hu,B,A⟩:=N5 k (b+1) _ q hk (by simp only; omega) hq
  simp only at B A
  refine ⟨(o.1,jo w b p u o),g9.2 ⟨o,ho,p,hp,u,hu,jm.2 ⟨by simp only [jo]; omega,?_,U⟩⟩,hs,by simp only [jo]; omega,by simp only [jo]; omega⟩
  unfold wa
  rw [A] at hm
  rw [show dp (dp p.1 u.1) (fp o.1)=dp (dp p.1 (fp o.1)) u.1 by simp only [dp,aC.mk.injEq]; omega]
  exact hm
end
structure yb (w w':bU) (n:Int) (f:Int→Int):Prop where
 start:w'.Start=w.Start+n
 now:w'.gj=w.gj+n
 wn:w'.n=w.n
 low: ∀ b,0≤bW w b
 least: ∀ b,bW w' b=bW w b
 may: ∀ t,kd w t=true→kd w' t=true
 UL: ∀ s,0≤f s↔0≤s
 opt: ∀ (b:Nat) (p:aC×Int) (o:Int×aa),b<w.n→w.Start≤p.2→C4 w b p→o∈ik w b→max (p.2+bW w b) o.2.Lo≤min o.2.Hi w.gj→r9 w (b+1) (dp p.1 (fp o.1),max (p.2+bW w b) o.2.Lo)→
  ∃ o'∈ik w' b,o'.1=f o.1∧ ∀ t,w.Start≤t→t≤w.gj→((o.2.Lo≤t∧t≤o.2.Hi)↔(o'.2.Lo≤t+n∧t+n≤o'.2.Hi))
section
variable {w w':bU} {n:Int} {f g:Int→Int}
theorem yb.one (h:yb w w' n f) (s:Int):fp (f s)=fp s:=by
 unfold fp
 have:=h.UL s
 by_cases q:s<0
 ·rw [if_pos q,if_pos om]
 ·rw [if_neg q,if_neg om]
theorem yb.step (h:yb w w' n f) {b:Nat} {p q:aC×Int} {o:Int×aa} (hb:b<w.n) (hs:w.Start≤p.2) (hl:C4 w b p) (ho:o∈ik w b) (e:ky w b p o=some q) (hv:r9 w (b+1) q):
 ∃ o'∈ik w' b,ky w' b (Kj n p) o'=some (Kj n q):=by
 obtain ⟨E,rfl⟩:=gI.1 e
 obtain ⟨o',ho',D,A⟩:=h.opt b p o hb hs hl ho E hv
 have F:=h.low b
 have B:=A (max (p.2+bW w b) o.2.Lo) om om
 have C:=A (max (p.2+n+bW w b) o'.2.Lo-n) om
 refine ⟨o',ho',gI.2 ?_⟩
 simp only [Kj,h.least,h.now]
 rw [D,h.one]
 have G:=B.1 om
 have H:=(C om).2 om
 refine ⟨om,?_⟩
 simp only [Prod.mk.injEq,true_and]
 omega
theorem yb.reach (h:yb w w' n f): ∀ (k b:Nat) (p q:aC×Int),b+k≤w.n→w.Start≤p.2→C4 w b p→q∈fV w k b p→r9 w (b+k) q→Kj n q∈fV w' k b (Kj n p):=by
 intro k
 induction k with
 |zero=>
  intro b p q _ _ _ hq _
  simp only [fV,bX] at hq ⊢
  rw [hq]
 |succ k ih=>
  intro b p q hb hs hl hq hv
  obtain ⟨o,ho,p',e,hq'⟩:=g_.1 hq
  have hv':r9 w (b+1) p':=uw hq' (by rw [show b+1+k=b+(k+1) by omega]; exact hv)
  obtain ⟨o',ho',e'⟩:=h.step om hs hl ho e hv'
  have A:=gI.1 e
  have B:=h.low b
  exact g_.2 ⟨o',ho',_,e',ih (b+1) p' q om (by rw [A.2]; simp only; omega) (G8 hl ho e) hq' (by rw [show b+1+k=b+(k+1) by omega]; exact hv)⟩
theorem yb.P9 (h:yb w w' n f) {b:Nat} {p:aC×Int} (hs:w.Start≤p.2) (hl:C4 w b p) (hv:r9 w b p):r9 w' b (Kj n p):=by
 obtain ⟨k,hk,q,hq,hm⟩:=hv
 exact ⟨k,by rw [h.wn]; exact hk,_,h.reach k b p q hk hs hl hq ⟨0,om,q,by simp [fV],hm⟩,h.may _ hm⟩
theorem yb.fwd (h:yb w w' n f) {b:Nat} {q:aC×Int} (hb:b≤w.n) (hq:q∈fwd w b) (hv:r9 w b q):Kj n q∈Go.Proofs.YtdllkkdchkhimaaGreatDoor.fwd w' b:=by
 obtain ⟨p,hp,hr⟩:=(qQ b 0 q).1 (by rw [Nat.zero_add]; exact hq)
 have hr':=h.reach b 0 p q om (yJ h.low 0 p hp) (Ba hp) hr (by rw [Nat.zero_add]; exact hv)
 have:Kj n p∈Go.Proofs.YtdllkkdchkhimaaGreatDoor.fwd w' 0:=by
  simp only [Go.Proofs.YtdllkkdchkhimaaGreatDoor.fwd,bX] at hp ⊢
  subst hp
  rw [h.start]; rfl
 have A:=(qQ b 0 (Kj n q)).2 ⟨_,this,hr'⟩
 rwa [Nat.zero_add] at A
theorem yb.any (h:yb w w' n f) {b:Nat} (hb:b≤w.n) (hm:jh w (Go.Proofs.YtdllkkdchkhimaaGreatDoor.fwd w b)=true):jh w' (Go.Proofs.YtdllkkdchkhimaaGreatDoor.fwd w' b)=true:=by
 unfold jh at hm ⊢
 obtain ⟨p,hp,A⟩:=List.any_eq_true.1 hm
 exact List.any_eq_true.2 ⟨_,h.fwd hb hp ⟨0,om,p,by simp [fV],A⟩,h.may _ A⟩
theorem yb.pass (h:yb w w' n f) {b:Nat} (hb:b<w.n) {s t:Int} (hp:wN w b s t):wN w' b (f s) (t+n):=by
 obtain ⟨p,hp,o,ho,rfl,⟨D,G⟩,hv⟩:=hp
 have hs:=yJ h.low b p hp
 have hl:=h.low b
 have A:r9 w (b+1) (dp p.1 (fp o.1),max (p.2+bW w b) o.2.Lo):=xD hv D
 have e:ky w b p o=some (dp p.1 (fp o.1),max (p.2+bW w b) o.2.Lo):=gI.2 ⟨om,rfl⟩
 have B:r9 w b p:=uw (k:=1) (g_.2 ⟨o,ho,_,e,by simp [fV]⟩) A
 obtain ⟨o',ho',C,E⟩:=h.opt b p o hb hs (Ba hp) ho om A
 have c:=(E t om om).1 om
 refine ⟨Kj n p,h.fwd om hp B,o',ho',C,?_,?_⟩
 ·simp only [Kj,h.least,h.now]; omega
 ·have F:=h.P9 (b:=b+1) (p:=(dp p.1 (fp o.1),t)) (by simp only; omega) ⟨_,fQ.2 ⟨p,hp,o,ho,e⟩,D⟩ hv
  rw [C,h.one]; exact F
theorem LQ (h:yb w w' n f) (h':yb w' w (-n) g):jx w'=jx w:=by
 unfold jx
 rw [h.wn]
 unfold j7
 congr 1
 refine List.filter_congr fun b hb=>?_
 have hb:=List.mem_range.1 hb
 rw [Bool.eq_iff_iff]
 exact ⟨h'.any (by rw [h.wn]; omega),h.any om⟩
theorem CF (h:yb w w' n f) (hl': ∀ b,0≤bW w' b) {b:Nat} (hb:b<w.n) {s:Int} (hq: ∃ q∈l3 w b,q.1=s): ∃ q∈l3 w' b,q.1=f s:=by
 obtain ⟨q,hq,e⟩:=hq
 have A:q.2.Lo≤q.2.Hi:=mB hq
 obtain ⟨q',hq',e',_⟩:=(zS hl' (by rw [h.wn]; exact hb)).2 (h.pass hb ((zS h.low hb).1 ⟨q,hq,e,Int.le_refl _,A⟩))
 exact ⟨q',hq',e'⟩
theorem Hf (h:yb w w' n f) (h':yb w' w (-n) g) {b:Nat} (hb:b<w.n):vM w' b=vM w b:=by
 rw [Bool.eq_iff_iff]
 unfold vM
 simp only [List.any_eq_true,decide_eq_true_eq]
 constructor
 ·rintro ⟨q,hq,A⟩
  obtain ⟨q',hq',e⟩:=CF h' h.low (by rw [h.wn]; exact hb) ⟨q,hq,rfl⟩
  exact ⟨q',hq',by rw [e]; exact (h'.UL _).2 A⟩
 ·rintro ⟨q,hq,A⟩
  obtain ⟨q',hq',e⟩:=CF h h'.low hb ⟨q,hq,rfl⟩
  exact ⟨q',hq',by rw [e]; exact (h.UL _).2 A⟩
end
section
variable {l l':bf} {r r':cG} {n:Int} {f g:Int→Int}
structure vw (l:bf) (r:cG) (l':bf) (r':cG) (n:Int) (f g:Int→Int):Prop where
 line:dx l=0
 line':dx l'=0
 ye:fm l r
 ride':fm l' r'
 O8:l'.ag.length=l.ag.length
 to:yb (ct l r) (ct l' r') n f
 Vw:yb (ct l' r') (ct l r) (-n) g
theorem vw.Hh (h:vw l r l' r' n f g):jx (ct l' r')=jx (ct l r):=LQ h.to h.Vw
theorem vw.e (h:vw l r l' r' n f g) {me:Int}:eH l' r' me=eH l r me:=by
 by_cases hm:me=0
 ·by_cases q:jx (ct l r)=[]
  ·rw [o6 h.line h.ye hm q,o6 h.line' h.ride' hm (h.Hh.trans q)]
  ·rw [lD h.line h.ye hm q,lD h.line' h.ride' hm (by rw [h.Hh]; exact q)]
 ·rw [qm h.line h.ye hm,qm h.line' h.ride' hm]
theorem vw.zY (h:vw l r l' r' n f g):kW l' r'=kW l r:=by
 by_cases q:eH l r 0=0
 ·rw [ly q,ly (h.e.trans q),h.Hh]
 ·rw [uD q,uD (by rw [h.e]; exact q)]
theorem vw.vn (h:vw l r l' r' n f g) {b:Int}:jw l' b=jw l b:=by unfold jw; rw [h.O8]
theorem vw.bn (h:vw l r l' r' n f g):(ct l r).n=l.ag.length:=ep
theorem vw.eW (h:vw l r l' r' n f g):vL l' r'=vL l r:=by
 by_cases q:eH l r 0=0
 ·rw [xo q,xo (h.e.trans q),h.zY]
  have hb:=RZ q
  unfold zN
  congr 1
  refine List.filter_congr fun b A=>?_
  have A:=List.mem_range.1 A
  rw [Hf h.to h.Vw (by rw [h.bn]; omega)]
 ·rw [xE q,xE (by rw [h.e]; exact q)]
end
end
section
theorem mR {l:bf} (ht:cV l.aJ=true) (h:kR l) {i:Nat} (hi:i<l.ag.length):1≤ei l i∧ei l i≤500000000:=by
 have A:=h.QR i hi
 have B:=EW ht h.vn i
 have hf:=h.head.1
 unfold ei oZ
 refine ⟨(Int.le_ediv_iff_mul_le om).2 om,?_⟩
 have:(1000*lQ l i+l.dG-1)/l.dG≤1000*lQ l i+l.dG-1:=Int.ediv_le_self _ om
 omega
end
section
def cY (good:List Int):aC:=good.foldl (fun t g=>dp t (fp g)) ⟨0,0⟩
theorem jQ {l:List Int} {g:Int}:cY (l++[g])=dp (cY l) (fp g):=by unfold cY; rw [List.foldl_append]; rfl
def tv (r:cG) (times:List Int) (b:Nat):Int:=if b=0 then r.Start else (times[b-1]?).getD 0
theorem o4 {r:cG} {times:List Int} {b:Nat} {t:Int} (h:times[b]? =some t):tv r times (b+1)=t:=by unfold tv; rw [if_neg om,Nat.add_sub_cancel,h]; rfl
structure iu (l:bf) (r:cG) (times good:List Int):Prop where
 ye:fm l r
 len:good.length=times.length
 le:times.length≤l.ag.length
 step: ∀ (b:Nat) t,times[b]? =some t→tv r times b+ei l b≤t∧t≤r.gj
 sig: ∀ (b:Nat) t g,times[b]? =some t→good[b]? =some g→g= -1∨ ∃ (k:Nat) (s:aO),g=(k:Int)∧r.aj[k]? =some s∧s.gl=(b:Int)∧(cL l s).Lo≤t∧t≤(cL l s).Hi
 Jd:(cY good).eW≤l.bL
 RM:(r.aj.length:Int)-(cY good).right≤l.cy
section
variable {l:bf} {r:cG} {times good:List Int}
theorem iu.low (h:iu l r times good) (hl:dx l=0): ∀ b,0≤bW (ct l r) b:=fun b=>by
 obtain ⟨ht,A⟩:=gK hl
 exact ((oI ht A h.ye).bW b).1
theorem iu.least (h:iu l r times good) {b:Nat} (hb:b<times.length):bW (ct l r) b=ei l b:=by
 have:=h.le
 rw [zy,if_pos om]
theorem iu.from_ (h:iu l r times good) (hl:dx l=0): ∀ b:Nat,b≤times.length→r.Start≤tv r times b∧tv r times b≤r.gj:=by
 intro b
 induction b with
 |zero=>intro _; have:=h.ye.time; unfold tv; rw [if_pos rfl]; omega
 |succ b ih=>
  intro hb
  have ht:times[b]? =some (times[b]'om):=ff _
  have B:=ih om
  have C:=h.step b _ ht
  have A:=h.low hl b
  rw [h.least om] at A
  rw [o4 ht]
  omega
/-- what comes next, in the truth -/
theorem iu.opt (h:iu l r times good) (hl:dx l=0) {b:Nat} {t g:Int} (ht:times[b]? =some t) (hg:good[b]? =some g): ∃ o∈ik (ct l r) b,o.1=g∧o.2.Lo≤t∧t≤o.2.Hi:=by
 have hb:=(List.getElem?_eq_some_iff.1 ht).1
 have E:=h.le
 have F:=h.step b t ht
 have G:=h.from_ hl b om
 have B:=h.low hl b
 rw [h.least hb] at B
 rcases h.sig b t g ht hg with rfl|⟨k,s,rfl,hs,A,C,D⟩
 ·exact ⟨(-1,⟨r.Start,r.gj⟩),(qt om).2 (.inl U),U,by simp only; omega,by simp only; omega⟩
 ·exact ⟨((k:Int),cL l s),(qt om).2 (.inr ⟨k,(List.getElem?_eq_some_iff.1 hs).1,s,hs,⟨A,om⟩,U⟩),U,C,D⟩
theorem lE {α:Type} {l:List α} {b:Nat} {x:α} (h:l[b]? =some x):l.take (b+1)=l.take b++[x]:=by rw [List.take_add_one,h]; rfl
theorem iu.live (h:iu l r times good) (hl:dx l=0): ∀ b:Nat,b≤times.length→C4 (ct l r) b (cY (good.take b),tv r times b):=by
 intro b
 induction b with
 |zero=>intro _; exact ⟨r.Start,by simp [fwd,cY]; rfl,by unfold tv; rw [if_pos rfl]; exact Int.le_refl _⟩
 |succ b ih=>
  intro hb
  have B:=h.len
  have ht:times[b]? =some (times[b]'om):=ff _
  have hg:good[b]? =some (good[b]'om):=ff _
  obtain ⟨v,hv,A⟩:=ih om
  obtain ⟨o,ho,e,C,D⟩:=h.opt hl ht hg
  have E:=h.step b _ ht
  have F:=h.least (b:=b) om
  simp only at A hv
  rw [o4 ht,lE hg,jQ,← e]
  refine ⟨max (v+bW (ct l r) b) o.2.Lo,fQ.2 ⟨_,hv,o,ho,gI.2 ⟨?_,U⟩⟩,?_⟩
  ·have G:(ct l r).gj=r.gj:=rfl
   simp only; omega
  ·simp only; omega
theorem iu.P9 (h:iu l r times good) (hl:dx l=0): ∀ (d b:Nat),b+d=times.length→r9 (ct l r) b (cY (good.take b),tv r times b):=by
 intro d
 induction d with
 |zero=>
  intro b hb
  have hn:(ct l r).n=l.ag.length:=ep
  have C:=h.len
  have D:=h.le
  refine ⟨0,om,_,by simp [fV]; rfl,?_⟩
  rw [List.take_of_length_le om]
  unfold kd
  have A:=h.Jd
  have B:=h.RM
  exact fP ⟨A,B⟩
 |succ d ih=>
  intro b hb
  have C:=h.len
  have ht:times[b]? =some (times[b]'om):=ff _
  have hg:good[b]? =some (good[b]'om):=ff _
  obtain ⟨o,ho,e,D,A⟩:=h.opt hl ht hg
  have B:=h.step b _ ht
  have E:=h.least (b:=b) om
  have F:(ct l r).gj=r.gj:=rfl
  have hv:=ih (b+1) om
  rw [o4 ht,lE hg,jQ,← e] at hv
  exact uw (k:=1) (g_.2 ⟨o,ho,_,gI.2 ⟨by first|omega|(simp only; omega),U⟩,by simp [fV]; rfl⟩) (xD hv (by first|omega|(simp only; omega)))
theorem iu.pass (h:iu l r times good) (hl:dx l=0) {b:Nat} {t g:Int} (ht:times[b]? =some t) (hg:good[b]? =some g):wN (ct l r) b g t:=by
 have hb:=(List.getElem?_eq_some_iff.1 ht).1
 obtain ⟨v,hv,A⟩:=h.live hl b om
 obtain ⟨o,ho,e,B,C⟩:=h.opt hl ht hg
 have D:=h.step b _ ht
 have E:=h.least (b:=b) hb
 have F:(ct l r).gj=r.gj:=rfl
 have hw:=h.P9 hl (times.length-(b+1)) (b+1) om
 rw [o4 ht,lE hg,jQ,← e] at hw
 simp only at A
 exact ⟨_,hv,o,ho,e,⟨by simp only; omega,om⟩,hw⟩
theorem iu.num (h:iu l r times good) (hl:dx l=0):(times.length:Int)∈jx (ct l r):=by
 obtain ⟨v,hv,_⟩:=h.live hl times.length (Nat.le_refl _)
 have hn:(ct l r).n=l.ag.length:=ep
 have B:=h.le
 refine oP.2 ⟨times.length,U,om,?_⟩
 unfold jh
 refine List.any_eq_true.2 ⟨_,hv,?_⟩
 have A:=h.len
 rw [List.take_of_length_le om]
 unfold kd
 exact fP ⟨h.Jd,h.RM⟩
theorem iu.e (h:iu l r times good) (hl:dx l=0):eH l r 0=0:=lD hl h.ye rfl fun e=>by have:=h.num hl; rw [e] at this; cases this
theorem iu.zY (h:iu l r times good) (hl:dx l=0):(times.length:Int)∈kW l r:=by rw [ly (h.e hl)]; exact h.num hl
theorem iu.clear (h:iu l r times good) (hl:dx l=0):(DZ l r=2→l.bI<(times.length:Int))∧(DZ l r=0→(times.length:Int)≤l.bI):=by
 have hm:=h.zY hl
 have A:=(Gf (uq (h.e hl))).2 _ hm
 have B:=(Oq (uq (h.e hl))).2 _ hm
 unfold DZ
 rw [if_pos (h.e hl)]
 constructor
 ·intro q
  split at q
  ·omega
  ·split at q<;>omega
 ·intro q
  split at q
  ·omega
  ·split at q<;>omega
end
end
section
def gG (hi:Int→Int) (least:Nat→Int) (now:Int):Nat→List Int→List Int×Int
 |_,[]=>([],now)
 |b,x::xs=>((if 0≤x then min (gG hi least now (b+1) xs).2 (hi x) else (gG hi least now (b+1) xs).2)::(gG hi least now (b+1) xs).1,(if 0≤x then min (gG hi least now (b+1) xs).2 (hi x) else (gG hi least now (b+1) xs).2)-least b)
def fZ (t:Int):List Int→Int
 |[]=>t
 |x::xs=>fZ x xs
def jS (w:bU):Nat→Int→List Int→List Int→Prop
 |_,_,[],[]=>True
 |b,t,x::rs,y::fs=>(∃ o∈ik w b,o.1=x∧max (t+bW w b) o.2.Lo≤min o.2.Hi w.gj∧y=max (t+bW w b) o.2.Lo)∧jS w (b+1) y rs fs
 |_,_,_,_=>False
section
variable {w:bU} {hi:Int→Int} {least:Nat→Int} {now:Int}
theorem qE: ∀ (b:Nat) (rs:List Int),(gG hi least now b rs).1.length=rs.length
 |_,[]=>rfl
 |b,x::xs=>by simp only [gG,List.length_cons]; rw [qE]
theorem mQ: ∀ (t:Int) (fs:List Int) (y:Int),fZ t (fs++[y])=y
 |_,[],_=>rfl
 |t,x::fs,y=>mQ x fs y
theorem CZ: ∀ (t:Int) (fs:List Int) (y:Int),fs[fs.length-1]? =some y→fZ t fs=y
 |t,[],y,h=>by simp at h
 |t,[x],y,h=>by simpa [fZ] using h
 |t,x::x2::fs,y,h=>by
  show fZ x (x2::fs)=y
  exact CZ x (x2::fs) y (by simpa using h)
theorem sB: ∀ (b:Nat) (rs:List Int) (x:Int) (ss:List Int),(gG hi least now b (rs++x::ss)).1[rs.length]? =some (if 0≤x then min (gG hi least now (b+rs.length+1) ss).2 (hi x) else (gG hi least now (b+rs.length+1) ss).2)
 |b,[],x,ss=>by simp [gG]
 |b,z::rs,x,ss=>by
  have:=sB (b+1) rs x ss
  simp only [List.cons_append,gG,List.length_cons,List.getElem?_cons_succ]
  rw [this,show b+1+rs.length+1=b+(rs.length+1)+1 by omega]
theorem j0: ∀ (b:Nat) (t:Int) (rs fs:List Int),jS w b t rs fs→fs.length=rs.length
 |_,_,[],[],_=>rfl
 |b,t,x::rs,y::fs,h=>by simp [j0 _ _ rs fs h.2]
 |_,_,[],_::_,h=>h.elim
 |_,_,_::_,[],h=>h.elim
theorem qG: ∀ (b:Nat) (t:Int) (rs fs ss gs:List Int),fs.length=rs.length→(jS w b t (rs++ss) (fs++gs)↔jS w b t rs fs∧jS w (b+rs.length) (fZ t fs) ss gs)
 |b,t,[],[],ss,gs,_=>by simp [jS,fZ]
 |b,t,x::rs,y::fs,ss,gs,h=>by
  have ih:=qG (b+1) y rs fs ss gs (by simpa using h)
  simp only [List.cons_append,jS,List.length_cons,fZ]
  rw [ih,show b+1+rs.length=b+(rs.length+1) by omega,and_assoc]
 |_,_,[],_::_,_,_,h=>by simp at h
 |_,_,_::_,[],_,_,h=>by simp at h
theorem Dq (b:List Int): ∀ t:aC,b.foldl (fun t g=>dp t (fp g)) t=dp t (cY b):=by
 induction b with
 |nil=>intro t; exact (mS t).symm
 |cons x b ih=>
  intro t
  show b.foldl (fun t g=>dp t (fp g)) (dp t (fp x))=dp t (b.foldl (fun t g=>dp t (fp g)) (dp ⟨0,0⟩ (fp x)))
  rw [ih,ih]; simp only [dp,aC.mk.injEq]; omega
theorem qO (a b:List Int):cY (a++b)=dp (cY a) (cY b):=by
 show (a++b).foldl _ _=_
 rw [List.foldl_append,Dq]; rfl
theorem qY:cY []=(⟨0,0⟩:aC):=rfl
theorem pa (l:List Int):dp (⟨0,0⟩:aC) (cY l)=cY l:=by simp [dp]
theorem rM (x:Int) (l:List Int):cY (x::l)=dp (fp x) (cY l):=by
 rw [show x::l=[x]++l from rfl,qO,show cY [x]=fp x from (jQ (l:=[])).trans (by rw [qY]; simp [dp])]
theorem sP: ∀ l:List Int,0≤(cY l).right∧0≤(cY l).eW∧(cY l).right+(cY l).eW=(l.length:Int)
 |[]=>by rw [qY]; simp
 |x::l=>by
  rw [rM]
  have:=tH x
  have:=sP l
  simp only [dp,List.length_cons]
  omega
/-- chains are what the watch goes through -/
theorem jI: ∀ (k b:Nat) (p q:aC×Int),q∈fV w k b p↔ ∃ rs fs,rs.length=k∧jS w b p.2 rs fs∧q=(dp p.1 (cY rs),fZ p.2 fs):=by
 intro k
 induction k with
 |zero=>
  intro b p q
  simp only [fV,bX]
  constructor
  ·rintro rfl; exact ⟨[],[],rfl,trivial,by rw [qY,mS]; rfl⟩
  ·rintro ⟨rs,fs,A,B,rfl⟩
   have A:=jz A
   subst A
   have:=jz (j0 _ _ _ _ B)
   subst this
   rw [qY,mS]; rfl
 |succ k ih=>
  intro b p q
  rw [g_]
  constructor
  ·rintro ⟨o,ho,p',e,h⟩
   obtain ⟨A,rfl⟩:=gI.1 e
   obtain ⟨rs,fs,B,C,rfl⟩:=(ih _ _ _).1 h
   refine ⟨o.1::rs,max (p.2+bW w b) o.2.Lo::fs,by simp [B],⟨⟨o,ho,U,A,U⟩,C⟩,?_⟩
   rw [rM]
   simp only [fZ,dp,Prod.mk.injEq,aC.mk.injEq,and_true]; omega
  ·rintro ⟨rs,fs,A,B,rfl⟩
   cases rs with
   |nil=>simp at A
   |cons x rs=>
    cases fs with
    |nil=>exact B.elim
    |cons y fs=>
     obtain ⟨⟨o,ho,rfl,C,rfl⟩,D⟩:=B
     refine ⟨o,ho,_,gI.2 ⟨C,U⟩,(ih _ _ _).2 ⟨rs,fs,by simpa using A,D,?_⟩⟩
     rw [rM]
     simp only [fZ,dp,Prod.mk.injEq,aC.mk.injEq,and_true]; omega
/-- what the reference's rows of last times know -/
structure Lq (w:bU) (hi:Int→Int) (least:Nat→Int) (now:Int):Prop where
 low: ∀ b,0≤bW w b
 least: ∀ b,b<w.n→least b=bW w b
 now:now=w.gj
 hi: ∀ b o,b<w.n→o∈ik w b→0≤o.1→o.2.Hi=hi o.1
 none_: ∀ b o,b<w.n→o∈ik w b→ ¬ 0≤o.1→o.2.Hi=w.gj
theorem xz (h:Lq w hi least now): ∀ (b:Nat) (rs:List Int),b+rs.length≤w.n→(gG hi least now b rs).2≤w.gj
 |_,[],_=>by simp only [gG]; exact Int.le_of_eq h.now
 |b,x::xs,hb=>by
  simp only [List.length_cons] at hb
  have B:=xz h (b+1) xs om
  have A:=h.low b
  rw [← h.least b om] at A
  simp only [gG]
  split<;>omega
theorem qI (h:Lq w hi least now): ∀ (b:Nat) (t:Int) (rs fs:List Int),b+rs.length≤w.n→t≤w.gj→jS w b t rs fs→t≤(gG hi least now b rs).2
 |_,t,[],[],_,ht,_=>by simp only [gG]; rw [h.now]; exact ht
 |b,t,x::rs,y::fs,hb,ht,hc=>by
  simp only [List.length_cons] at hb
  obtain ⟨⟨o,ho,rfl,D,rfl⟩,A⟩:=hc
  have B:=qI h (b+1) _ rs fs om om A
  have C:=h.least b om
  simp only [gG]
  split
  ·rename_i q
   have:=h.hi b o om ho q
   omega
  ·omega
 |_,_,[],_::_,_,_,hc=>hc.elim
 |_,_,_::_,[],_,_,hc=>hc.elim
theorem wo (h:Lq w hi least now): ∀ (b:Nat) (t t':Int) (rs fs:List Int),b+rs.length≤w.n→t≤t'→t'≤(gG hi least now b rs).2→jS w b t rs fs→ ∃ gs,jS w b t' rs gs
 |_,t,_,[],[],_,_,_,_=>⟨[],trivial⟩
 |b,t,t',x::rs,y::fs,hb,ht,he,hc=>by
  simp only [List.length_cons] at hb
  obtain ⟨⟨o,ho,rfl,E,rfl⟩,A⟩:=hc
  have C:=qI h (b+1) _ rs fs om om A
  have D:=h.least b om
  have F:=xz h (b+1) rs om
  simp only [gG] at he
  have B:max (t'+bW w b) o.2.Lo≤min o.2.Hi w.gj∧max (t'+bW w b) o.2.Lo≤(gG hi least now (b+1) rs).2:=by
   split at he
   ·rename_i q
    have:=h.hi b o om ho q
    omega
   ·rename_i q
    have:=h.none_ b o om ho q
    omega
  obtain ⟨gs,hg⟩:=wo h (b+1) _ (max (t'+bW w b) o.2.Lo) rs fs om om B.2 A
  exact ⟨_::gs,⟨o,ho,U,B.1,U⟩,hg⟩
 |_,_,_,[],_::_,_,_,_,hc=>hc.elim
 |_,_,_,_::_,[],_,_,_,hc=>hc.elim
theorem CK (b:Nat) (t t':Int) (rs fs:List Int) (ht:t'≤t) (hc:jS w b t rs fs): ∃ gs,jS w b t' rs gs:=by
 have A:(dp ⟨0,0⟩ (cY rs),fZ t fs)∈fV w rs.length b (⟨0,0⟩,t):=(jI _ _ _ _).2 ⟨rs,fs,rfl,hc,rfl⟩
 clear A
 induction rs generalizing b t t' fs with
 |nil=>exact ⟨[],trivial⟩
 |cons x rs ih=>
  cases fs with
  |nil=>exact hc.elim
  |cons y fs=>
   obtain ⟨⟨o,ho,rfl,C,rfl⟩,B⟩:=hc
   obtain ⟨gs,hg⟩:=ih (b+1) _ (max (t'+bW w b) o.2.Lo) fs om B
   exact ⟨_::gs,⟨o,ho,U,om,U⟩,hg⟩
/-- a way, as it is asked for -/
structure O1 (w:bU) (hi:Int→Int) (least:Nat→Int) (now:Int) (y:db):Prop where
 chain:jS w 0 w.Start y.gD y.iE
 len:y.gD.length≤w.n
 last:y.lv=(gG hi least now 0 y.gD).1
 may:kd w (cY y.gD)=true
theorem B6 {k:Nat}:jh w (fwd w k)=true↔ ∃ rs fs,rs.length=k∧jS w 0 w.Start rs fs∧kd w (cY rs)=true:=by
 unfold jh
 rw [List.any_eq_true]
 have e:=fun q=>(qQ (w:=w) k 0 q)
 rw [Nat.zero_add] at e
 constructor
 ·rintro ⟨q,hq,hm⟩
  obtain ⟨p,hp,h⟩:=(e q).1 hq
  simp only [fwd,bX] at hp
  subst hp
  obtain ⟨rs,fs,A,B,rfl⟩:=(jI _ _ _ _).1 h
  refine ⟨rs,fs,A,B,?_⟩
  rwa [pa] at hm
 ·rintro ⟨rs,fs,A,B,C⟩
  refine ⟨_,(e _).2 ⟨((⟨0,0⟩:aC),w.Start),List.mem_singleton.2 U,(jI _ _ _ _).2 ⟨rs,fs,A,B,U⟩⟩,?_⟩
  simp only [pa]; exact C
theorem Kd (h:Lq w hi least now) (hs:w.Start≤w.gj) {b:Nat} (hb:b<w.n) {s t:Int}:wN w b s t↔ ∃ y,O1 w hi least now y∧ ∃ f e,y.gD[b]? =some s∧y.iE[b]? =some f∧y.lv[b]? =some e∧f≤t∧t≤e:=by
 have ef:=fun q=>(qQ (w:=w) b 0 q)
 rw [Nat.zero_add] at ef
 constructor
 ·rintro ⟨p,hp,o,ho,rfl,⟨C,L⟩,k,hk,q,hq,hm⟩
  obtain ⟨Y,AB,hp⟩:=(ef p).1 hp
  simp only [fwd,bX] at AB
  subst AB
  obtain ⟨rs,fs,K,D,rfl⟩:=(jI _ _ _ _).1 hp
  obtain ⟨ss,gs,AA,E,rfl⟩:=(jI _ _ _ _).1 hq
  simp only at C L D E hm
  obtain ⟨gs',J⟩:=CK (b+1) t (max (fZ w.Start fs+bW w b) o.2.Lo) ss gs C E
  have H:=j0 _ _ _ _ D
  have T:=j0 _ _ _ _ J
  have hc:jS w 0 w.Start (rs++o.1::ss) (fs++max (fZ w.Start fs+bW w b) o.2.Lo::gs'):=(qG _ _ _ _ _ _ H).2 ⟨D,by rw [Nat.zero_add,K]; exact ⟨⟨o,ho,rfl,om,rfl⟩,J⟩⟩
  have he:=qI h (b+1) t ss gs om om E
  have A:=sB (hi:=hi) (least:=least) (now:=now) 0 rs o.1 ss
  rw [Nat.zero_add,K] at A
  refine ⟨⟨rs++o.1::ss,fs++max (fZ w.Start fs+bW w b) o.2.Lo::gs',(gG hi least now 0 (rs++o.1::ss)).1⟩,⟨hc,by simp; omega,U,?_⟩,max (fZ w.Start fs+bW w b) o.2.Lo,_,?_,?_,A,C,?_⟩
  ·show kd w (cY (rs++o.1::ss))=true
   rw [show rs++o.1::ss=(rs++[o.1])++ss by simp,qO,jQ]
   rwa [pa] at hm
  ·show (rs++o.1::ss)[b]? =some o.1
   rw [List.getElem?_append_right om,K,Nat.sub_self]; rfl
  ·show (fs++_::gs')[b]? =_
   rw [List.getElem?_append_right om,H,K,Nat.sub_self]; rfl
  ·split
   ·rename_i q
    have:=h.hi b o hb ho q
    omega
   ·exact he
 ·rintro ⟨y,hy,f,e,C,L,P,Q,V⟩
  obtain ⟨R,F,La⟩:=y
  obtain ⟨hc,hn,A,hm⟩:=hy
  simp only at C L P hc hn A hm
  have N:=(List.getElem?_eq_some_iff.1 C).1
  have S:=j0 _ _ _ _ hc
  have eR:R=R.take b++s::R.drop (b+1):=by rw [← (List.getElem?_eq_some_iff.1 C).2]; exact (List.take_append_drop b R).symm.trans (by rw [List.drop_eq_getElem_cons N])
  have M:b<F.length:=by omega
  have eF:F=F.take b++f::F.drop (b+1):=by rw [← (List.getElem?_eq_some_iff.1 L).2]; exact (List.take_append_drop b F).symm.trans (by rw [List.drop_eq_getElem_cons M])
  rw [eR,eF,qG _ _ _ _ _ _ (by simp only [List.length_take]; omega)] at hc
  have O:(R.take b).length=b:=by rw [List.length_take]; omega
  rw [O,Nat.zero_add] at hc
  obtain ⟨D,⟨o,ho,rfl,W,rfl⟩,E⟩:=hc
  have B:=sB (hi:=hi) (least:=least) (now:=now) 0 (R.take b) o.1 (R.drop (b+1))
  rw [← eR,O,Nat.zero_add,← A,P] at B
  have B:=Option.some.inj B
  have G:t≤(gG hi least now (b+1) (R.drop (b+1))).2∧t≤min o.2.Hi w.gj:=by
   have X:=xz h (b+1) (R.drop (b+1)) (by rw [List.length_drop]; omega)
   split at B
   ·rename_i q
    have:=h.hi b o hb ho q
    omega
   ·rename_i q
    have:=h.none_ b o hb ho q
    omega
  obtain ⟨gs,J⟩:=wo h (b+1) _ t (R.drop (b+1)) (F.drop (b+1)) (by rw [List.length_drop]; omega) Q G.1 E
  refine ⟨(dp ⟨0,0⟩ (cY (R.take b)),fZ w.Start (F.take b)),(ef _).2 ⟨((⟨0,0⟩:aC),w.Start),List.mem_singleton.2 U,(jI _ _ _ _).2 ⟨_,_,O,D,U⟩⟩,o,ho,U,⟨Q,G.2⟩,(R.drop (b+1)).length,by rw [List.length_drop]; omega,_,(jI _ _ _ _).2 ⟨_,gs,U,J,U⟩,?_⟩
  show kd w (dp (dp (dp ⟨0,0⟩ (cY (R.take b))) (fp o.1)) (cY (R.drop (b+1))))=true
  rw [pa,← jQ,← qO,show R.take b++[o.1]++R.drop (b+1)=R from by rw [List.append_assoc]; exact eR.symm]
  exact hm
end
noncomputable def Mk (l:bf) (r:cG) (x:Int):Int:=match r.aj[x.toNat]? with
 |some s=>(cL l s).Hi
 |none=>0
theorem En {l:bf} {r:cG} {x:Int} {s:aO} (h:r.aj[x.toNat]? =some s):Mk l r x=(cL l s).Hi:=by unfold Mk; rw [h]
noncomputable def jf (l:bf) (r:cG) (rs:List Int):List Int:=(gG (Mk l r) (ei l) r.gj 0 rs).1
noncomputable def oS (l:bf) (r:cG) (n:Nat) (t i:Int):Option Int:=
 if i<0 then (if t≤r.gj then some t else none) else match r.aj[i.toNat]? with
  |some s=>if (s.gl=(n:Int)∧(cL l s).Lo≤(cL l s).Hi)∧max t (cL l s).Lo≤min r.gj (cL l s).Hi then some (max t (cL l s).Lo) else none
  |none=>none
noncomputable def gP (l:bf) (r:cG) (rs fs:List Int):List db:=if (r.aj.length:Int)-(cY rs).right≤l.cy then [⟨rs,fs,jf l r rs⟩] else []
noncomputable def g8 (l:bf) (r:cG):Nat→List Int→List Int→List db
 |0,rs,fs=>if l.bL<(cY rs).eW then [] else gP l r rs fs
 |k+1,rs,fs=>if l.bL<(cY rs).eW then [] else gP l r rs fs++(List.range (r.aj.length+1)).flatMap fun (j:Nat)=>match oS l r rs.length (fZ r.Start fs+ei l rs.length) ((j:Int)-1) with
  |some t=>g8 l r k (rs++[(j:Int)-1]) (fs++[t])
  |none=>[]
noncomputable def ED (l:bf) (r:cG) (k:Nat) (rs fs:List Int) (j:Nat):List db:=gP l r rs fs++(List.range j).flatMap fun (j:Nat)=>match oS l r rs.length (fZ r.Start fs+ei l rs.length) ((j:Int)-1) with
 |some t=>g8 l r k (rs++[(j:Int)-1]) (fs++[t])
 |none=>[]
noncomputable def hP (l:bf) (r:cG) (k:Nat) (rs fs:List Int) (j:Nat):List db:=(List.range j).flatMap fun (j:Nat)=>match oS l r rs.length (fZ r.Start fs+ei l rs.length) ((j:Int)-1) with
 |some t=>g8 l r k (rs++[(j:Int)-1]) (fs++[t])
 |none=>[]
section
variable {l:bf} {r:cG} {k j:Nat} {rs fs:List Int} {t:Int}
theorem qH:ED l r k rs fs j=gP l r rs fs++hP l r k rs fs j:=rfl
theorem mM (h:oS l r rs.length (fZ r.Start fs+ei l rs.length) ((j:Int)-1)=some t):hP l r k rs fs (j+1)=hP l r k rs fs j++g8 l r k (rs++[(j:Int)-1]) (fs++[t]):=by
 unfold hP; rw [List.range_succ,List.flatMap_append]; simp [h]
theorem qn (h:oS l r rs.length (fZ r.Start fs+ei l rs.length) ((j:Int)-1)=none):hP l r k rs fs (j+1)=hP l r k rs fs j:=by
 unfold hP; rw [List.range_succ,List.flatMap_append]; simp [h]
theorem nq (h:l.bL<(cY rs).eW):g8 l r k rs fs=[]:=by cases k<;>exact if_pos h
theorem ny (h: ¬ l.bL<(cY rs).eW):g8 l r 0 rs fs=gP l r rs fs:=if_neg h
theorem nk (h: ¬ l.bL<(cY rs).eW):g8 l r (k+1) rs fs=ED l r k rs fs (r.aj.length+1):=if_neg h
theorem Ct {n:Nat} (hn:n<l.ag.length) (hl:0≤ei l n) (ht:r.Start≤t) {i y:Int} (hi: -1≤i):oS l r n (t+ei l n) i=some y↔ ∃ o∈ik (ct l r) n,o.1=i∧max (t+bW (ct l r) n) o.2.Lo≤min o.2.Hi (ct l r).gj∧y=max (t+bW (ct l r) n) o.2.Lo:=by
 rw [o5 hn]
 have hw:(ct l r).gj=r.gj:=rfl
 unfold oS
 constructor
 ·intro h
  split at h
  ·rename_i B
   split at h
   ·cases h
    exact ⟨(-1,⟨r.Start,r.gj⟩),(qt hn).2 (.inl U),by simp only; omega,by simp only; omega,by simp only; omega⟩
   ·cases h
  ·rename_i B
   split at h
   ·rename_i s hs
    split at h
    ·rename_i q
     cases h
     exact ⟨((i.toNat:Nat),cL l s),(qt hn).2 (.inr ⟨i.toNat,(List.getElem?_eq_some_iff.1 hs).1,s,hs,q.1,U⟩),by simp only; omega,by simp only; omega,U⟩
    ·cases h
   ·cases h
 ·rintro ⟨o,ho,rfl,A,rfl⟩
  rcases (qt hn).1 ho with rfl|⟨k,hk,s,hs,q,rfl⟩
  ·simp only at A ⊢
   rw [if_pos om,if_pos om]
   congr 1; omega
  ·simp only at A ⊢
   rw [if_neg om,Int.toNat_natCast,hs]
   simp only
   rw [if_pos ⟨q,om⟩]
theorem Jr (hl: ∀ n,n<l.ag.length→0≤ei l n): ∀ (k:Nat) (rs fs:List Int) (y:db),rs.length+k=l.ag.length→fs.length=rs.length→r.Start≤fZ r.Start fs→
 (y∈g8 l r k rs fs↔ ∃ ss gs,jS (ct l r) rs.length (fZ r.Start fs) ss gs∧ss.length≤k∧y=⟨rs++ss,fs++gs,jf l r (rs++ss)⟩∧kd (ct l r) (cY (rs++ss))=true):=by
 have D: ∀ (rs fs:List Int) (y:db),¬ l.bL<(cY rs).eW→(y∈gP l r rs fs↔y=⟨rs++[],fs++[],jf l r (rs++[])⟩∧kd (ct l r) (cY (rs++[]))=true):=by
  intro rs fs y hm
  unfold gP
  rw [List.append_nil,List.append_nil]
  have e:kd (ct l r) (cY rs)=true↔(r.aj.length:Int)-(cY rs).right≤l.cy:=by
   unfold kd
   rw [decide_eq_true_eq]
   exact ⟨fun q=>q.2,fun q=>⟨by have:(ct l r).bL=l.bL:=rfl; omega,q⟩⟩
  split
  ·rename_i q
   rw [bX]
   exact ⟨fun h=>⟨h,e.2 q⟩,fun h=>h.1⟩
  ·rename_i q
   exact ⟨fun h=>(by cases h),fun h=>absurd (e.1 h.2) q⟩
 have Jd: ∀ (rs ss:List Int),l.bL<(cY rs).eW→ ¬ kd (ct l r) (cY (rs++ss))=true:=by
  intro rs ss h q
  unfold kd at q
  have:=(of_decide_eq_true q).1
  rw [qO] at this
  have C:=sP ss
  simp only [dp] at this
  have:(ct l r).bL=l.bL:=rfl
  omega
 intro k
 induction k with
 |zero=>
  intro rs fs y hn hf hs
  by_cases hm:l.bL<(cY rs).eW
  ·rw [nq hm]
   exact ⟨fun h=>(by cases h),fun ⟨ss,gs,_,_,_,q⟩=>absurd q (Jd rs ss hm)⟩
  ·rw [ny hm,D _ _ _ hm]
   constructor
   ·rintro ⟨B,C⟩; exact ⟨[],[],trivial,sm,B,C⟩
   ·rintro ⟨ss,gs,B,C,E,F⟩
    have e:=jz (Nat.le_zero.1 C)
    subst e
    have e:=jz (j0 _ _ _ _ B)
    subst e
    exact ⟨E,F⟩
 |succ k ih=>
  intro rs fs y hn hf hs
  by_cases hm:l.bL<(cY rs).eW
  ·rw [nq hm]
   exact ⟨fun h=>(by cases h),fun ⟨ss,gs,_,_,_,q⟩=>absurd q (Jd rs ss hm)⟩
  ·rw [nk hm]
   unfold ED
   rw [ku,D _ _ _ hm,List.mem_flatMap]
   have A: ∀ (x y:Int),(rs++[x]).length+k=l.ag.length∧(fs++[y]).length=(rs++[x]).length:=fun x y=>by simp; omega
   constructor
   ·rintro (⟨B,C⟩|⟨j,hj,h⟩)
    ·exact ⟨[],[],trivial,sm,B,C⟩
    ·cases e:oS l r rs.length (fZ r.Start fs+ei l rs.length) ((j:Int)-1) with
     |none=>rw [e] at h; cases h
     |some t=>
      rw [e] at h
      simp only at h
      obtain ⟨o,ho,B,C,E⟩:=(Ct om (hl _ om) hs om).1 e
      have G:r.Start≤t:=by
       have:=hl rs.length om
       rw [o5 om] at E
       omega
      obtain ⟨ss,gs,F,J,H,AA⟩:=(ih _ _ y (A _ t).1 (A _ t).2 (by rw [mQ]; exact G)).1 h
      rw [mQ,List.length_append] at F
      refine ⟨((j:Int)-1)::ss,t::gs,⟨⟨o,ho,B,C,E⟩,F⟩,by simp; omega,by simpa using H,by simpa using AA⟩
   ·rintro ⟨ss,gs,B,C,E,F⟩
    cases ss with
    |nil=>
     have e:=jz (j0 _ _ _ _ B)
     subst e
     exact .inl ⟨E,F⟩
    |cons x ss=>
     cases gs with
     |nil=>exact B.elim
     |cons t gs=>
      obtain ⟨⟨o,ho,rfl,J,H⟩,AA⟩:=B
      right
      have hx: -1≤o.1∧o.1<(r.aj.length:Int):=by
       rcases (qt om).1 ho with rfl|⟨k,hk,s,hs,q,rfl⟩
       ·simp only; omega
       ·simp only; omega
      have G:r.Start≤t:=by
       have:=hl rs.length om
       rw [o5 om] at H
       omega
      have K:((o.1+1).toNat:Int)-1=o.1:=by omega
      refine ⟨(o.1+1).toNat,List.mem_range.2 om,?_⟩
      rw [K,(Ct om (hl _ om) hs om).2 ⟨o,ho,rfl,J,H⟩]
      simp only
      refine (ih _ _ y (A _ t).1 (A _ t).2 (by rw [mQ]; exact G)).2 ⟨ss,gs,?_,?_,?_,?_⟩
      ·rw [mQ,List.length_append]; exact AA
      ·simp only [List.length_cons] at C; omega
      ·simpa using E
      ·simpa using F
end
theorem yP {l:bf} {r:cG} {rs fs:List Int} (h:(r.aj.length:Int)-(cY rs).right≤l.cy):gP l r rs fs=[⟨rs,fs,jf l r rs⟩]:=if_pos h
theorem xw {l:bf} {r:cG} {rs fs:List Int} (h: ¬ (r.aj.length:Int)-(cY rs).right≤l.cy):gP l r rs fs=[]:=if_neg h
noncomputable def eU (l:bf) (r:cG) (i:Nat):List aa:=(r.aj.take i).map (cL l)
noncomputable def fj (l:bf) (r:cG) (i:Nat):List Bool:=(r.aj.take i).map fun s=>decide ((cL l s).Lo≤(cL l s).Hi)
section
variable {l:bf} {r:cG} {i n:Nat} {s:aO} {rs:List Int}
theorem EI (h:r.aj[i]? =some s):eU l r (i+1)=eU l r i++[cL l s]:=by unfold eU; rw [List.take_add_one,h,List.map_append]; rfl
theorem Dz (h:r.aj[i]? =some s):fj l r (i+1)=fj l r i++[decide ((cL l s).Lo≤(cL l s).Hi)]:=by unfold fj; rw [List.take_add_one,h,List.map_append]; rfl
theorem qT (h:i≤r.aj.length):(eU l r i).length=i:=by unfold eU; rw [List.length_map,List.length_take]; omega
theorem uh (h:i≤r.aj.length):(fj l r i).length=i:=by unfold fj; rw [List.length_map,List.length_take]; omega
theorem KV {k:Nat} {z:aa} (hs:r.aj[k]? =some s) (hz:(eU l r r.aj.length)[k]? =some z):z=cL l s:=by
 unfold eU at hz
 rw [List.take_length,fE,hs] at hz
 exact (Option.some.inj hz).symm
theorem JI {k:Nat} {z:aa} (hz:(eU l r r.aj.length)[k]? =some z): ∃ s,r.aj[k]? =some s∧z=cL l s:=by
 unfold eU at hz
 rw [List.take_length,fE] at hz
 cases h:r.aj[k]? with
 |none=>rw [h] at hz; cases hz
 |some s=>rw [h] at hz; exact ⟨s,rfl,(Option.some.inj hz).symm⟩
theorem CR {k:Nat} {z:Bool} (hs:r.aj[k]? =some s) (hz:(fj l r r.aj.length)[k]? =some z):z=true↔(cL l s).Lo≤(cL l s).Hi:=by
 unfold fj at hz
 rw [List.take_length,fE,hs] at hz
 rw [← Option.some.inj hz]
 exact decide_eq_true_iff
theorem xK (l:bf) (s:aO):(0≤(cL l s).Lo∧(cL l s).Lo≤86400001)∧ -1≤(cL l s).Hi∧(cL l s).Hi≤86400000:=by
 have A:=ib (p:=gf (pE l s) s.Read) (n:=86400001)
 have B:=ib (p:=gi (pE l s) s.Read) (n:=86400001)
 unfold cL p9
 simp only
 omega
/-- the last times from a beam on -/
noncomputable def jC (l:bf) (r:cG) (rs:List Int) (j:Nat):List Int×Int:=gG (Mk l r) (ei l) r.gj j (rs.drop j)
noncomputable def jy (l:bf) (r:cG) (rs:List Int) (j:Nat):List Int:=List.replicate j 0++(jC l r rs j).1
noncomputable def sj (l:bf) (r:cG) (rs:List Int) (j:Nat) (x:Int):Int:=if 0≤x then min (jC l r rs j).2 (Mk l r x) else (jC l r rs j).2
theorem tM:jC l r rs rs.length=([],r.gj):=by unfold jC; rw [List.drop_length]; rfl
theorem HF:jy l r rs rs.length=List.replicate rs.length 0:=by unfold jy; rw [tM]; simp
theorem Dm:jy l r rs 0=jf l r rs:=by unfold jy jC jf; simp
theorem o1 {j:Nat} {x:Int} (hj:0<j) (hx:rs[j-1]? =some x):jC l r rs (j-1)=(sj l r rs j x::(jC l r rs j).1,sj l r rs j x-ei l (j-1)):=by
 unfold jC sj
 have hb:=(List.getElem?_eq_some_iff.1 hx).1
 rw [List.drop_eq_getElem_cons hb,(List.getElem?_eq_some_iff.1 hx).2,show j-1+1=j by omega]
 simp only [gG]
 rw [show j-1+1=j by omega]
 rfl
theorem HO {j:Nat} (h:j≤rs.length):(jy l r rs j).length=rs.length:=by unfold jy jC; rw [List.length_append,List.length_replicate,qE,List.length_drop]; omega
theorem zA {j:Nat} {x:Int} (hj:0<j) (hx:rs[j-1]? =some x):(jy l r rs j).set (j-1) (sj l r rs j x)=jy l r rs (j-1):=by
 unfold jy
 rw [o1 hj hx]
 simp only
 obtain ⟨k,rfl⟩: ∃ k,j=k+1:=⟨j-1,om⟩
 rw [Nat.add_sub_cancel,List.replicate_succ',List.append_assoc,List.set_append_right _ _ sm,List.length_replicate,Nat.sub_self]
 rfl
theorem Fc (hr:0≤r.gj∧r.gj≤86400000) (hl: ∀ b,b<rs.length→0≤ei l b∧ei l b≤500000000) (hrs: ∀ x∈rs,0≤x→x<(r.aj.length:Int)): ∀ (d j:Nat),j+d=rs.length→(-1-500000000*(d:Int))≤(jC l r rs j).2∧(jC l r rs j).2≤86400000
 |0,j,h=>by
  obtain rfl:j=rs.length:=by omega
  rw [tM]; simp only; omega
 |d+1,j,h=>by
  have ih:=Fc hr hl hrs d (j+1) om
  have hx:rs[j+1-1]? =some (rs[j]'om):=by rw [Nat.add_sub_cancel]; exact ff _
  have e:=o1 (l:=l) (r:=r) (j:=j+1) om hx
  rw [Nat.add_sub_cancel] at e
  rw [e]
  simp only
  have A:=hl j om
  unfold sj
  split
  ·rename_i q
   have B:=hrs _ (List.getElem_mem (by omega:j<rs.length)) q
   obtain ⟨s,hs⟩: ∃ s,r.aj[(rs[j]'om).toNat]? =some s:=⟨r.aj[(rs[j]'om).toNat]'om,ff _⟩
   rw [En hs]
   have C:=xK l s
   omega
  ·omega
theorem Iw {t i:Int} (hi:i<0):(t≤r.gj→oS l r n t i=some t)∧(¬ t≤r.gj→oS l r n t i=none):=by
 unfold oS; rw [if_pos hi]; exact ⟨fun h=>if_pos h,fun h=>if_neg h⟩
theorem LR {t i:Int} (hi: ¬ i<0) (hs:r.aj[i.toNat]? =some s) (hb:s.gl=(n:Int)) (hw:(cL l s).Lo≤(cL l s).Hi):(max t (cL l s).Lo≤min r.gj (cL l s).Hi→oS l r n t i=some (max t (cL l s).Lo))∧(¬ max t (cL l s).Lo≤min r.gj (cL l s).Hi→oS l r n t i=none):=by
 unfold oS; rw [if_neg hi,hs]
 exact ⟨fun h=>if_pos ⟨⟨hb,hw⟩,h⟩,fun h=>if_neg fun q=>h q.2⟩
theorem v7 {t i:Int} (hi: ¬ i<0) (hs:r.aj[i.toNat]? =some s) (hb: ¬ (s.gl=(n:Int)∧(cL l s).Lo≤(cL l s).Hi)):oS l r n t i=none:=by
 unfold oS; rw [if_neg hi,hs]
 exact if_neg fun q=>hb q.1
theorem sJ {x:Int} (hx:rs[i]? =some x):(cY (rs.take (i+1))).right=(cY (rs.take i)).right+(if 0≤x then 1 else 0):=by
 rw [lE hx,jQ]
 unfold fp
 simp only [dp]
 by_cases h:x<0
 ·rw [if_pos h,if_neg om]
 ·rw [if_neg h,if_pos om]
end
theorem wu {l:bf} {r:cG} {rs fs:List Int}:(gP l r rs fs).length≤1:=by unfold gP; split<;>simp
theorem wH {l:bf} {r:cG} (hr:r.aj.length≤10): ∀ (k:Nat) (rs fs:List Int),(g8 l r k rs fs).length≤12^(k+1)
 |0,rs,fs=>by
  unfold g8
  split
  ·simp
  ·have:=wu (l:=l) (r:=r) (rs:=rs) (fs:=fs); omega
 |k+1,rs,fs=>by
  unfold g8
  split
  ·simp
  ·rw [List.length_append]
   have B:=wu (l:=l) (r:=r) (rs:=rs) (fs:=fs)
   have A: ∀ j,(hP l r k rs fs j).length≤j*12^(k+1):=by
    intro j
    induction j with
    |zero=>simp [hP]
    |succ j ih=>
     cases e:oS l r rs.length (fZ r.Start fs+ei l rs.length) ((j:Int)-1) with
     |none=>rw [qn e,Nat.succ_mul]; exact Nat.le_trans ih (Nat.le_add_right _ _)
     |some t=>rw [mM e,List.length_append,Nat.succ_mul]; exact Nat.add_le_add ih (wH hr k (rs++[(j:Int)-1]) (fs++[t]))
   have C:=A (r.aj.length+1)
   have D:(r.aj.length+1)*12^(k+1)≤11*12^(k+1):=Nat.mul_le_mul_right _ om
   have E:0<12^(k+1):=Nat.pow_pos dc
   have F:12^(k+1+1)=12*12^(k+1):=by rw [Nat.pow_succ,Nat.mul_comm]
   show (gP l r rs fs).length+(hP l r k rs fs (r.aj.length+1)).length≤_
   omega
theorem Ic {l:bf} {r:cG} (hr:r.aj.length≤10) {k j:Nat} {rs fs:List Int} (hk:k≤5) (hj:j≤11):(hP l r k rs fs j).length≤40000000:=by
 have A: ∀ j,(hP l r k rs fs j).length≤j*12^(k+1):=by
  intro j
  induction j with
  |zero=>simp [hP]
  |succ j ih=>
   cases e:oS l r rs.length (fZ r.Start fs+ei l rs.length) ((j:Int)-1) with
   |none=>rw [qn e,Nat.succ_mul]; exact Nat.le_trans ih (Nat.le_add_right _ _)
   |some t=>rw [mM e,List.length_append,Nat.succ_mul]; exact Nat.add_le_add ih (wH hr k (rs++[(j:Int)-1]) (fs++[t]))
 have C:=A j
 have B:12^(k+1)≤12^6:=Nat.pow_le_pow_right dc om
 have D:j*12^(k+1)≤11*12^6:=Nat.mul_le_mul hj B
 omega
theorem uz {l:bf} {r:cG} (hr:r.aj.length≤10) {k:Nat} {rs fs:List Int} (hk:k≤6):(g8 l r k rs fs).length≤40000000:=by
 have A:=wH hr k rs fs (l:=l)
 have B:12^(k+1)≤12^7:=Nat.pow_le_pow_right dc om
 omega
noncomputable def pR (l:bf) (r:cG):List db:=g8 l r l.ag.length [] []
section
variable {l:bf} {r:cG}
theorem lS:(ct l r).n=l.ag.length:=ep
theorem O4 (hle:dx l=0) (hr:fm l r):Lq (ct l r) (Mk l r) (ei l) r.gj:=by
 obtain ⟨ht,B⟩:=gK hle
 refine ⟨fun b=>((oI ht B hr).bW b).1,fun b hb=>(o5 (by rw [lS] at hb; exact hb)).symm,U,fun b o hb ho A=>?_,fun b o hb ho A=>?_⟩
 ·rw [lS] at hb
  rcases (qt hb).1 ho with rfl|⟨k,hk,s,hs,q,rfl⟩
  ·simp only at A; omega
  ·exact (En (by simpa using hs)).symm
 ·rw [lS] at hb
  rcases (qt hb).1 ho with rfl|⟨k,hk,s,hs,q,rfl⟩
  ·rfl
  ·simp only at A; omega
theorem o9 (hle:dx l=0) (hr:fm l r) {y:db}:y∈pR l r↔O1 (ct l r) (Mk l r) (ei l) r.gj y:=by
 obtain ⟨ht,D⟩:=gK hle
 have hl: ∀ n,n<l.ag.length→0≤ei l n:=fun n hn=>by have:=mR ht D (i:=n) hn; omega
 unfold pR
 rw [Jr hl _ _ _ _ sm rfl (Int.le_refl _)]
 constructor
 ·rintro ⟨ss,gs,B,A,rfl,C⟩
  exact ⟨B,by rw [lS]; exact A,U,C⟩
 ·rintro ⟨B,A,E,C⟩
  rw [lS] at A
  exact ⟨y.gD,y.iE,B,A,by rw [List.nil_append,List.nil_append]; unfold jf; rw [← E],C⟩
theorem KB (hle:dx l=0) (hr:fm l r) {k:Nat} (hk:k≤l.ag.length):((pR l r).any fun y=>decide (y.gD.length=k))=jh (ct l r) (fwd (ct l r) k):=by
 rw [Bool.eq_iff_iff,B6,List.any_eq_true]
 constructor
 ·rintro ⟨y,hy,e⟩
  have h:=(o9 hle hr).1 hy
  exact ⟨y.gD,y.iE,of_decide_eq_true e,h.chain,h.may⟩
 ·rintro ⟨rs,fs,e,A,B⟩
  exact ⟨⟨rs,fs,(gG (Mk l r) (ei l) r.gj 0 rs).1⟩,(o9 hle hr).2 ⟨A,by rw [lS]; simp only; omega,U,B⟩,fP e⟩
theorem fM (hle:dx l=0) (hr:fm l r):pR l r=[]↔jx (ct l r)=[]:=by
 constructor
 ·intro h
  apply List.eq_nil_iff_forall_not_mem.2
  intro x hx
  obtain ⟨k,rfl,hk,hm⟩:=oP.1 hx
  rw [lS] at hk
  rw [← KB hle hr hk,h] at hm
  cases hm
 ·intro h
  apply List.eq_nil_iff_forall_not_mem.2
  intro y hy
  have hw:=(o9 hle hr).1 hy
  have:(y.gD.length:Int)∈jx (ct l r):=oP.2 ⟨y.gD.length,rfl,hw.len,B6.2 ⟨_,_,rfl,hw.chain,hw.may⟩⟩
  rw [h] at this; cases this
/-- the times at a beam, by all ways -/
def iK (b:Nat) (ws:List db):List (Int×aa):=ws.filterMap fun y=>match y.gD[b]?,y.iE[b]?,y.lv[b]? with
 |some s,some f,some e=>some (s,⟨f,e⟩)
 |_,_,_=>none
theorem mT {b:Nat} {ws:List db} {q:Int×aa}:q∈iK b ws↔ ∃ y∈ws,y.gD[b]? =some q.1∧y.iE[b]? =some q.2.Lo∧y.lv[b]? =some q.2.Hi:=by
 unfold iK
 rw [List.mem_filterMap]
 constructor
 ·rintro ⟨y,hy,h⟩
  cases e1:y.gD[b]? with
  |none=>rw [e1] at h; cases h
  |some s=>
   cases e2:y.iE[b]? with
   |none=>rw [e1,e2] at h; cases h
   |some f=>
    cases e3:y.lv[b]? with
    |none=>rw [e1,e2,e3] at h; cases h
    |some e=>
     rw [e1,e2,e3] at h; cases h
     exact ⟨y,hy,e1,e2,e3⟩
 ·rintro ⟨y,hy,A,B,C⟩
  exact ⟨y,hy,by rw [A,B,C]⟩
theorem wW {b:Nat} {ws:List db} {y:db} (h:y.gD.length≤b):iK b (ws++[y])=iK b ws:=by
 unfold iK; rw [List.filterMap_append]; simp [List.getElem?_eq_none h]
theorem pK {b:Nat} {ws:List db} {y:db} {s f e:Int} (h1:y.gD[b]? =some s) (h2:y.iE[b]? =some f) (h3:y.lv[b]? =some e):iK b (ws++[y])=iK b ws++[(s,⟨f,e⟩)]:=by
 unfold iK; rw [List.filterMap_append]; simp [h1,h2,h3]
theorem KS (hle:dx l=0) (hr:fm l r) {y:db} (hy:y∈pR l r):y.iE.length=y.gD.length∧y.lv.length=y.gD.length∧y.gD.length≤l.ag.length:=by
 have h:=(o9 hle hr).1 hy
 exact ⟨j0 _ _ _ _ h.chain,by rw [h.last,qE],by have:=h.len; rwa [lS] at this⟩
theorem tn (hle:dx l=0) (hr:fm l r) {b:Nat} (hb:b<l.ag.length) {s t:Int}:(∃ q∈l3 (ct l r) b,q.1=s∧q.2.Lo≤t∧t≤q.2.Hi)↔ ∃ q∈iK b (pR l r),q.1=s∧q.2.Lo≤t∧t≤q.2.Hi:=by
 have hh:=O4 hle hr
 rw [zS hh.low (by rw [lS]; exact hb),Kd hh hr.time.2.1 (by rw [lS]; exact hb)]
 constructor
 ·rintro ⟨y,hy,f,e,A,B,C,D,E⟩
  exact ⟨(s,⟨f,e⟩),mT.2 ⟨y,(o9 hle hr).2 hy,A,B,C⟩,U,D,E⟩
 ·rintro ⟨q,hq,rfl,D,E⟩
  obtain ⟨y,hy,A,B,C⟩:=mT.1 hq
  exact ⟨y,(o9 hle hr).1 hy,_,_,A,B,C,D,E⟩
/-- a way's span is none that is empty -/
theorem wE (hle:dx l=0) (hr:fm l r) {b:Nat} {q:Int×aa} (hq:q∈iK b (pR l r)):q.2.Lo≤q.2.Hi:=by
 have hh:=O4 hle hr
 obtain ⟨y,hy,C,D,H⟩:=mT.1 hq
 obtain ⟨hc,hn,B,hm⟩:=(o9 hle hr).1 hy
 obtain ⟨R,F,La⟩:=y
 simp only at C D H hc hn B
 have G:=(List.getElem?_eq_some_iff.1 C).1
 have E:=(List.getElem?_eq_some_iff.1 D).1
 have L:=j0 _ _ _ _ hc
 have eR:R=R.take b++q.1::R.drop (b+1):=by rw [← (List.getElem?_eq_some_iff.1 C).2]; exact (List.take_append_drop b R).symm.trans (by rw [List.drop_eq_getElem_cons G])
 have eF:F=F.take b++q.2.Lo::F.drop (b+1):=by rw [← (List.getElem?_eq_some_iff.1 D).2]; exact (List.take_append_drop b F).symm.trans (by rw [List.drop_eq_getElem_cons E])
 rw [eR,eF,qG _ _ _ _ _ _ (by simp only [List.length_take]; omega)] at hc
 have AA:(R.take b).length=b:=by rw [List.length_take]; omega
 rw [AA,Nat.zero_add] at hc
 obtain ⟨M,⟨o,ho,K,N,O⟩,J⟩:=hc
 have A:=sB (hi:=Mk l r) (least:=ei l) (now:=r.gj) 0 (R.take b) q.1 (R.drop (b+1))
 rw [← eR,AA,Nat.zero_add,← B,H] at A
 have A:=Option.some.inj A
 have he:=qI hh (b+1) q.2.Lo (R.drop (b+1)) (F.drop (b+1)) (by rw [List.length_drop]; omega) om J
 rw [← K] at A
 split at A
 ·rename_i z
  have:=hh.hi b o om ho z
  omega
 ·omega
theorem Ch {a b:List (Int×aa)} {h k:aa} (ha:j9 a h) (hb:j9 b k) (hab: ∀ x∈b,(∃ y∈a,y.2.Lo≤x.2.Lo)∧ ∃ y∈a,x.2.Hi≤y.2.Hi) (hba: ∀ x∈a,(∃ y∈b,y.2.Lo≤x.2.Lo)∧ ∃ y∈b,x.2.Hi≤y.2.Hi):h=k:=by
 rcases ha with ⟨rfl,rfl⟩|ha
 ·rcases hb with ⟨rfl,rfl⟩|hb
  ·rfl
  ·obtain ⟨x,hx,_⟩:=hb.lo
   obtain ⟨⟨y,hy,_⟩,_⟩:=hab x hx
   cases hy
 ·rcases hb with ⟨rfl,rfl⟩|hb
  ·obtain ⟨x,hx,_⟩:=ha.lo
   obtain ⟨⟨y,hy,_⟩,_⟩:=hba x hx
   cases hy
  ·obtain ⟨M,E,AA⟩:=ha.lo
   obtain ⟨N,F,V⟩:=ha.hi
   obtain ⟨O,G,W⟩:=hb.lo
   obtain ⟨P,H,X⟩:=hb.hi
   obtain ⟨⟨AB,A,Y⟩,_⟩:=hba M E
   obtain ⟨_,J,B,Z⟩:=hba N F
   obtain ⟨⟨K,C,c⟩,_⟩:=hab O G
   obtain ⟨_,L,D,d⟩:=hab P H
   have Q:=hb.all AB A
   have R:=hb.all J B
   have S:=ha.all K C
   have T:=ha.all L D
   apply aa.ext
   ·omega
   ·omega
theorem IV (hle:dx l=0) (hr:fm l r) {b:Nat} (hb:b<l.ag.length) {h:aa} (hh:j9 (iK b (pR l r)) h):h=mj l r b:=by
 have hk:=ur (l:=l3 (ct l r) b) (fun q hq=>mB hq)
 refine Ch hh hk (fun x hx=>?_) (fun x hx=>?_)
 ·have hle':=mB hx
  obtain ⟨y,hy,_,A,C⟩:=(tn hle hr hb (s:=x.1) (t:=x.2.Lo)).1 ⟨x,hx,rfl,Int.le_refl _,hle'⟩
  obtain ⟨z,hz,_,D,B⟩:=(tn hle hr hb (s:=x.1) (t:=x.2.Hi)).1 ⟨x,hx,rfl,hle',Int.le_refl _⟩
  exact ⟨⟨y,hy,A⟩,z,hz,B⟩
 ·have hle':=wE hle hr hx
  obtain ⟨y,hy,_,A,C⟩:=(tn hle hr hb (s:=x.1) (t:=x.2.Lo)).2 ⟨x,hx,rfl,Int.le_refl _,hle'⟩
  obtain ⟨z,hz,_,D,B⟩:=(tn hle hr hb (s:=x.1) (t:=x.2.Hi)).2 ⟨x,hx,rfl,hle',Int.le_refl _⟩
  exact ⟨⟨y,hy,A⟩,z,hz,B⟩
end
def o2 (ws:List db) (b:Nat):Int:=if uU (iK b ws)=l0 then 6 else 0
def pc (ws:List db) (b:Nat):aa:=if uU (iK b ws)=l0 then ⟨0,0⟩ else uU (iK b ws)
theorem Nf {l:List (Int×aa)} {h:aa} (hh:j9 l h) (hl: ∀ q∈l,q.2.Lo≤q.2.Hi):uU l=h:=
 Ch (ur hl) hh (fun x hx=>⟨⟨x,hx,Int.le_refl _⟩,x,hx,Int.le_refl _⟩) (fun x hx=>⟨⟨x,hx,Int.le_refl _⟩,x,hx,Int.le_refl _⟩)
theorem D0 {ws:List db} {b:Nat} (h:iK b ws=[]):o2 ws b=6∧pc ws b=⟨0,0⟩:=by
 unfold o2 pc; rw [h]; exact ⟨if_pos rfl,if_pos rfl⟩
theorem Dv {ws:List db} {b:Nat} {o:aa} (hl: ∀ q∈iK b ws,q.2.Lo≤q.2.Hi) (h:od (iK b ws) o):o2 ws b=0∧pc ws b=o:=by
 have e:=Nf (.inr h) hl
 unfold o2 pc; rw [e]; exact ⟨if_neg h.ne,if_neg h.ne⟩
/-- what was found until now -/
def m7 (b:Nat) (ws:List db) (fd:Bool) (o:aa):Prop:=(fd=false∧iK b ws=[])∨(fd=true∧od (iK b ws) o)
theorem GR {b:Nat} {o:aa}:m7 b [] false o:= .inl ⟨rfl,rfl⟩
theorem Bi {q:Int×aa} (hq:q.2.Lo≤q.2.Hi):od [q] q.2:=⟨hq,⟨q,sm,rfl⟩,⟨q,sm,rfl⟩,fun x hx=>by simp at hx; subst hx; exact ⟨Int.le_refl _,Int.le_refl _⟩⟩
theorem As {l:List (Int×aa)} {h:aa} {q:Int×aa} (hh:od l h) (hq:q.2.Lo≤q.2.Hi):od (l++[q]) ⟨min q.2.Lo h.Lo,max q.2.Hi h.Hi⟩:=by
 have:=t_ (.inr hh) hq
 unfold l5 at this
 rw [if_neg hh.ne] at this
 rcases this with ⟨e,_⟩|this
 ·simp at e
 ·exact this
theorem DV {b:Nat} {ws:List db} {fd:Bool} {o:aa} {y:db} (h:m7 b ws fd o) (hy:y.gD.length≤b):m7 b (ws++[y]) fd o:=by
 unfold m7; rw [wW hy]; exact h
theorem BW {b:Nat} {ws:List db} {fd:Bool} {o:aa} {y:db} {s f e:Int} (h:m7 b ws fd o) (hf:fd=false) (h1:y.gD[b]? =some s) (h2:y.iE[b]? =some f) (h3:y.lv[b]? =some e) (hle:f≤e):m7 b (ws++[y]) true ⟨f,e⟩:=by
 rcases h with ⟨_,q⟩|⟨q,_⟩
 ·right
  rw [pK h1 h2 h3,q]
  exact ⟨U,Bi hle⟩
 ·rw [q] at hf; cases hf
theorem DW {b:Nat} {ws:List db} {fd:Bool} {o:aa} {y:db} {s f e:Int} (h:m7 b ws fd o) (hf:fd=true) (h1:y.gD[b]? =some s) (h2:y.iE[b]? =some f) (h3:y.lv[b]? =some e) (hle:f≤e):m7 b (ws++[y]) true ⟨min f o.Lo,max e o.Hi⟩:=by
 rcases h with ⟨q,_⟩|⟨_,q⟩
 ·rw [q] at hf; cases hf
 ·right
  rw [pK h1 h2 h3]
  exact ⟨U,As q hle⟩
theorem yQ {b:Nat} {ws:List db} {fd:Bool} {o:aa} (h:m7 b ws fd o) (hl: ∀ q∈iK b ws,q.2.Lo≤q.2.Hi):(fd=false→o2 ws b=6∧pc ws b=⟨0,0⟩)∧(fd=true→o2 ws b=0∧pc ws b=o):=by
 rcases h with ⟨q,h⟩|⟨q,h⟩
 ·exact ⟨fun _=>D0 h,fun e=>(by rw [q] at e; cases e)⟩
 ·exact ⟨fun e=>(by rw [q] at e; cases e),fun _=>Dv hl h⟩
section
variable {l:bf} {r:cG}
theorem Kc (he:eH l r 0=0) {b:Nat} (hb:b<l.ag.length):o2 (pR l r) b=eV l r b∧pc (pR l r) b=e7 l r b:=by
 obtain ⟨A,hr,_,_⟩:=jM he
 have h:=IV A hr hb (ur fun q hq=>wE A hr hq)
 have ho:eH l r (jw l b)=0:=by rw [HR hb]; exact he
 unfold o2 pc
 rw [h]
 by_cases e:mj l r b=l0
 ·rw [if_pos e,if_pos e,(qB ho e).1,(qB ho e).2]; exact ⟨rfl,rfl⟩
 ·rw [if_neg e,if_neg e,(n8 ho e).1,(n8 ho e).2]; exact ⟨rfl,rfl⟩
theorem PE (hle:dx l=0) (hr:fm l r) {y:db} (hy:y∈pR l r) {b:Nat} {f e:Int} (hb:b<y.gD.length) (h2:y.iE[b]? =some f) (h3:y.lv[b]? =some e):f≤e:=
 wE hle hr (q:=(y.gD[b],⟨f,e⟩)) (mT.2 ⟨y,hy,ff _,h2,h3⟩)
theorem B8:eH l r (jw l l.bI)=eH l r 0:=by
 by_cases h:dx l=0
 ·obtain ⟨_,A⟩:=gK h
  have hh:=A.head
  unfold gr at hh
  rw [wP om]
 ·rw [nY h,nY h]
theorem vj (h: ¬ eH l r 0=0):eV l r l.bI=eH l r 0:=by
 have:=(ni (b:=l.bI) (by rw [B8]; exact h)).1
 rw [this,B8]
/-- rows of times that are those of ways -/
structure N6 (ws:List db):Prop where
 lens: ∀ y∈ws,y.iE.length=y.gD.length∧y.lv.length=y.gD.length∧y.gD.length≤6
 le: ∀ y∈ws,∀ (b:Nat) f e,b<y.gD.length→y.iE[b]? =some f→y.lv[b]? =some e→f≤e
 num:ws.length≤40000000
theorem N6.Fg {ws:List db} (h:N6 ws) {b:Nat}: ∀ q∈iK b ws,q.2.Lo≤q.2.Hi:=fun q hq=>by
 obtain ⟨y,hy,A,B,C⟩:=mT.1 hq
 exact h.le y hy b _ _ (List.getElem?_eq_some_iff.1 A).1 B C
theorem Qe (hle:dx l=0) (hr:fm l r):N6 (pR l r):=by
 obtain ⟨ht,B⟩:=gK hle
 have hh:=B.head
 unfold gr at hh
 refine ⟨fun y hy=>?_,fun y hy b f e hb A C=>PE hle hr hy hb A C,uz hr.len om⟩
 obtain ⟨D,A,C⟩:=KS hle hr hy
 exact ⟨D,A,om⟩
end
end
section
open Go.RowKit
theorem CW (l:List db) (az:List kj): ∀ v∈(List.zipWith db.cells l az).flatten,v.oneCell'=true:=by
 induction l generalizing az with
 |nil=>intro v hv; simp at hv
 |cons x l ih=>
  cases az with
  |nil=>intro v hv; simp at hv
  |cons a az=>
   intro v hv
   simp only [List.zipWith_cons_cons,List.flatten_cons,ku] at hv
   rcases hv with hv|hv
   ·simp only [db.cells,xT.cells,ew,List.not_mem_nil,or_false] at hv
    rcases hv with rfl|rfl|rfl<;>rfl
   ·exact ih az v hv
theorem Nk: ∀ (m:db) (a:kj) (w:World),(∀ X∈db.owns m a,X.holds w)→ ∀ X∈db.gW m a,X.holds w:=fun m a w h X hX=>by
 simp only [db.gW,ew,List.not_mem_nil,or_false] at hX
 have A:=mZ (h (own a.1.1 a.1.2 lH 1 (m.gD.map iC)) (by simp [db.owns]))
 have B:=mZ (h (own a.2.1.1 a.2.1.2 lH 1 (m.iE.map iC)) (by simp [db.owns]))
 have C:=mZ (h (own a.2.2.1 a.2.2.2 lH 1 (m.lv.map iC)) (by simp [db.owns]))
 rcases hX with rfl|rfl|rfl
 ·simpa using A
 ·simpa using B
 ·simpa using C
theorem o3: ∀ (l:List db) (az:List kj),(aS db.owns l az).all (·.wr)=true
 |[],_=>rfl
 |_::_,[]=>rfl
 |x::l,a::az=>by
  simp only [aS,List.all_append,cR]
  exact ⟨U,o3 l az⟩
theorem IJ (l:List db) (az:List kj):(bp (aS db.owns l az)).wr=true:=o3 l az
theorem Lj {l m:List db} {az bz:List kj} (h:az.length=l.length):List.zipWith db.cells (l++m) (az++bz)=List.zipWith db.cells l az++List.zipWith db.cells m bz:=List.zipWith_append h.symm
theorem sS {l:List db} {az:List kj} (h:az.length=l.length):(List.zipWith db.cells l az).length=l.length:=by rw [List.length_zipWith]; omega
/-- what is read of a thing that is tied, and frozen -/
theorem pd {C L:List av} {a:OA} {c e sz n:Nat} {es:List (List Value)} (i:Nat) (hC:C[i]? =some (bp L).ro) (hm:own a c e sz es∈L) (hn:es.length=n):iq C (rd a n sz es).holds:=fun w hw=>by
 subst hn
 exact mZ ((show (bp L).holds w from (hw _ (aV hC):(bp L).ro.holds w)).1 _ hm)
section
variable {E:fh} {ops:Array Oper} {Q:c_} {rest:List Oper} {D:List Deferred} {L:List (Nat×Value)} {C C1:List av}
theorem St.P7 {S:BS} {w0 w:World} {X C:List av} {A:av} (h:St S w0 (bp (X++[A])::C) w):St S w0 (A::bp X::C) w:=by
 have B:=h.ia
 have D:St S w0 (X++(A::C)) w:=by simpa using B
 exact D.tied.perm (List.Perm.swap _ _ _)
theorem St.merge {S:BS} {w0 w:World} {X Y C:List av} (h:St S w0 (bp X::bp Y::C) w):St S w0 (bp (X++Y)::C) w:=by
 have A:St S w0 (bp Y::(X++C)) w:=(h.ia).perm (List.perm_middle (a:=bp Y) (l₁:=X) (l₂:=C))
 have B:St S w0 (Y++(X++C)) w:=A.ia
 have D:St S w0 ((X++Y)++C) w:=B.perm (by rw [← List.append_assoc]; exact List.perm_append_comm.append_right _)
 exact D.tied
end
section
variable {E:fh} {ops:Array Oper} {Q:c_} {rest:List Oper} {D:List Deferred} {L:List (Nat×Value)} {C:List av}
theorem z5 {A:av} {X X':List av} (e:X++[A]=X') (h:RJ E ops Q rest D L (bp X'::C)):RJ E ops Q rest D L (A::bp X::C):=fun a w hf hs=>h a w hf (hs.tie e)
theorem yl {X:List av} {A:av} (h:RJ E ops Q rest D L (A::bp X::C)):RJ E ops Q rest D L (bp (X++[A])::C):=fun a w hf hs=>h a w hf hs.P7
theorem JW {K:Act→World→Prop} {ms ns:List db} {az bz:List kj} (hl:az.length=ms.length) (h:KJ E K D L (bp (aS db.owns (ms++ns) (az++bz))::C)):KJ E K D L (bp (aS db.owns ms az)::bp (aS db.owns ns bz)::C):=fun a w hf hs=>h a w hf (by rw [jD hl.symm]; exact hs.merge)
end
/-- the head of the ways: the way that ends here, if it may -/
def wc (l:bf) (r:cG) (rs fs:List Int) (ra fa:RA) (hz:List kj) (LA:List av):Prop:=
 ((r.aj.length:Int)-(cY rs).right≤l.cy∧ ∃ la:RA,hz=[(ra,fa,la)]∧LA=[own la.1 la.2 lH 1 ((jf l r rs).map iC)])∨(¬ (r.aj.length:Int)-(cY rs).right≤l.cy∧hz=[]∧LA=[])
theorem wc.len {l:bf} {r:cG} {rs fs:List Int} {ra fa:RA} {hz:List kj} {LA:List av} (h:wc l r rs fs ra fa hz LA):hz.length=(gP l r rs fs).length:=by
 unfold gP
 rcases h with ⟨q,la,rfl,rfl⟩|⟨q,rfl,rfl⟩
 ·rw [if_pos q]; rfl
 ·rw [if_neg q]; rfl
theorem wc.wr {l:bf} {r:cG} {rs fs:List Int} {ra fa:RA} {hz:List kj} {LA:List av} (h:wc l r rs fs ra fa hz LA):LA.all (·.wr)=true:=by
 rcases h with ⟨q,la,rfl,rfl⟩|⟨q,rfl,rfl⟩<;>rfl
theorem KT {S:BS} {w0 w:World} {l:bf} {r:cG} {rs fs:List Int} {ra fa:RA} {hz az:List kj} {LA:List av} {R:List db} {A:av} (hh:wc l r rs fs ra fa hz LA)
 (h:St S w0 [bp [own ra.1 ra.2 lH 1 (rs.map iC),own fa.1 fa.2 lH 1 (fs.map iC)],A,bp LA,bp (aS db.owns R az)] w):St S w0 [bp (aS db.owns (gP l r rs fs++R) (hz++az)++[A])] w:=by
 rw [jD hh.len.symm]
 have D:St S w0 [own ra.1 ra.2 lH 1 (rs.map iC),own fa.1 fa.2 lH 1 (fs.map iC),A,bp LA,bp (aS db.owns R az)] w:=h.ia
 rcases hh with ⟨q,la,rfl,rfl⟩|⟨q,rfl,rfl⟩
 ·unfold gP
  rw [if_pos q]
  have B:=(St.j_ [3,0,1,2,4] rfl rfl D).ia
  have E:=(St.j_ [4,1,2,0,3] rfl rfl B).ia
  have C:St S w0 (((aS db.owns [(⟨rs,fs,jf l r rs⟩:db)] [(ra,fa,la)]++aS db.owns R az)++[A])++[]) w:=by
   rw [List.append_nil]
   refine E.perm ?_
   show (aS db.owns R az++(aS db.owns [(⟨rs,fs,jf l r rs⟩:db)] [(ra,fa,la)]++[A])).Perm _
   rw [← List.append_assoc]
   exact List.perm_append_comm.append_right _
  exact C.tied
 ·unfold gP
  rw [if_neg q]
  have B:=(St.j_ [4,2] rfl rfl D).ia
  have C:St S w0 (((aS db.owns [] []++aS db.owns R az)++[A])++[]) w:=by
   rw [List.append_nil]; exact B
  exact C.tied
theorem Jz {E:fh} {K:Act→World→Prop} {D:List Deferred} {L:List (Nat×Value)} {l:bf} {r:cG} {rs fs:List Int} {ra fa:RA} {hz az z:List kj} {LA:List av} {R W:List db} {A A':av} (hh:wc l r rs fs ra fa hz LA) (hW:gP l r rs fs++R=W) (hz':hz++az=z) (hA:A=A')
 (h:KJ E K D L [bp (aS db.owns W z++[A'])]):KJ E K D L [bp [own ra.1 ra.2 lH 1 (rs.map iC),own fa.1 fa.2 lH 1 (fs.map iC)],A,bp LA,bp (aS db.owns R az)]:=fun a w hf hs=>h a w hf (by subst hW hz' hA; exact KT hh hs)
theorem Qw {E:fh} {K:Act→World→Prop} {D:List Deferred} {L:List (Nat×Value)} {X A:av} {W:List db} (h:KJ E K D L [bp (aS db.owns W []++[A])]):KJ E K D L [X,A]:=fun a w hf hs=>h a w hf (by
 have B:St E.S E.w0 [A] w:=St.j_ [1] rfl rfl hs
 have C:St E.S E.w0 (([]++[A])++[]) w:=B
 have e:aS db.owns W []=[]:=by cases W<;>rfl
 rw [e]
 exact C.tied)
theorem Hw {E:fh} {K:Act→World→Prop} {D:List Deferred} {L:List (Nat×Value)} {C:List av} (e sz:Nat) (k:KJ E K D L (own none 0 e sz []::C)):KJ E K D L C:=fun a w hf hs=>k a w hf (hs.qV e sz)
end
section
open Go.RowKit
theorem NL (l:bf) (kA:OA) (kC:Nat) (az:List RA) (cA:OA) (cC:Nat) (bA:OA) (bC:Nat) (r:cG) (sgA:OA) (sgC:Nat) (hin:eE l az) (hsl:r.aj.length≤1000000):
 d_ Tryz.prog 163 [(vA (bJ.cells (ld l kA kC cA cC bA bC))),(vA (eK.cells (mo r sgA sgC)))] [(rd kA l.aJ.length 9 (l.aJ.map ao.cells)),(rd cA l.ai.length 2 (List.zipWith au.cells l.ai az)),(fc (aS au.gW l.ai az)),(rd bA l.ag.length 4 (l.ag.map bG.cells)),(rd sgA r.aj.length 2 (r.aj.map aO.cells))] (vB (decide (fm l r))):=by
 have AC:=hin.si
 have AB:=hin.sh
 have w:=hin.nO
 have AA:=hin.sf
 refine bE kr Tryz.func163 U U fun w0 Q hQ hN=>?_
 try dsimp only
 refine WS fun _ h=>fU U fun b2=>fU U fun b3=>bg 1 U<|RK h<|ak fun _ j=>WS fun _ H=>fF 2 [] (mc 0 U I) U<|rS (CL (iw r.Start 0 86400000) (aK) U)<|rP 2 [] I ?_
 refine cw (t:=11) U (br fun X=>?_) (bq fun X=>?_)
 ·refine bg 13 U<|RK H<|aR U<|WS fun _ k=>rP 1 [] I ?_
  refine RK k<|ar<|Q1 hQ U U U ?_
  exact cB (cr fun q=>by have C:=q.time; have u:=q.len; omega).symm
 refine fF 4 [] (mc 0 U I) U<|rS (CL (iw r.gj r.Start 86400000) (aK) U)<|rP 3 [] I ?_
 refine cw (t:=19) U (br fun Z=>?_) (bq fun Z=>?_)
 ·refine bg 5 U<|RK H<|aR U<|WS fun _ m=>rP 1 [] I ?_
  refine RK m<|ar<|Q1 hQ U U U ?_
  exact cB (cr fun q=>by have C:=q.time; have u:=q.len; omega).symm
 refine rP 5 [] (mc 0 U I) ?_
 refine RK H<|cE U (aQ fun a=>?_) (aP fun a=>?_)
 ·refine WS fun _ n=>rP 1 [] I ?_
  refine RK n<|ar<|Q1 hQ U U U ?_
  exact cB (cr fun q=>by have C:=q.time; have u:=q.len; omega).symm
 refine WK j<|ak fun _ o=>WS fun _ J=>rP 1 [] I ?_
 refine RK J<|ax ?_
 have F:(0≤r.aj.length)∧(qf l r.aj 0):=by exact ⟨Nat.zero_le _,yr⟩
 refine bR (ι:={z:Nat // (z≤r.aj.length)∧(qf l r.aj z)}) [2,3] [0,1,2,3,4,5,6] U U (fun z=>[(5,(vI (z.1:Int)))]) (fun z=>[]) (fun _=>rfl) (fun _=>rfl) (fun z=>r.aj.length-z.1) ⟨0,F⟩ (aU U) (aL [0,1,2,3,4,5,6]) ?_
 clear F
 rintro ⟨i,⟨p,A⟩⟩ J11 D
 try dsimp only
 refine ak fun _ K=>WS fun _ L=>rP 5 [] (mc 0 U I) ?_
 refine RK L<|bS U (aP fun Y=>?_) (aQ fun Y=>?_)
 ·refine bB<|ae<|ae<|aA<|KK o<|WS fun _ T=>rP 1 [] I ?_
  refine RK T<|ar<|Q1 hQ U U U ?_
  exact cB (fP (Bx om om A om)).symm
 refine WK K<|ak fun _ E=>ax<|WS fun _ M=>rP 3 [] (mc 0 U I) ?_
 obtain ⟨x,hx⟩:=aM r.aj i om
 have s:=bQ aO.cells hx
 refine rS (IA i U (aB 6 U) zX dc om om)<|rS (ov i 0 (aO.cells x) U cm (aB 6 U) s U dc U U)<|AL U F1 fun v=>fW U xU U<|RK M<|ak fun _ N=>WS fun _ G=>fF 6 [0,1] (mc 0 U (mc 2 U I)) U<|rS (CL (iw x.gl 0 ((l.ag.length:Int)-1)) (aK) U)<|rP 2 [] I ?_
 refine cw (t:=45) U (br fun b=>?_) (bq fun b=>?_)
 ·refine bg 5 U<|RK G<|aR U<|WS fun _ O=>rP 1 [] I ?_
  refine RK O<|ar<|Q1 hQ U U U ?_
  exact cB (cr fun q=>by have C:=q.sig i x hx; unfold j2 kT at C; omega).symm
 refine fF 2 [] (mc 0 U I) U<|rS (CL (iw x.Read 0 86400000) (aK) U)<|rP 2 [] I ?_
 refine RK G<|cE U (br fun c=>?_) (bq fun c=>?_)
 ·refine WS fun _ P=>rP 1 [] I ?_
  refine RK P<|ar<|Q1 hQ U U U ?_
  exact cB (cr fun q=>by have C:=q.sig i x hx; unfold j2 kT at C; omega).symm
 refine WK N<|ak fun _ B=>dh cu 38 kr<|dP 3 [] I ?_
 refine jg (t:=53) U (aP fun d=>?_) (aQ fun d=>?_)
 ·refine kX 35 U<|cK<|RK B<|aX U<|cj<|aH<|KK E<|an<|rP 3 [] I ?_
  refine aF ?_
  have W:(vI (((i+1):Nat):Int))=(vI ((i:Int)+1)):=by exact cI om
  refine aT (D ⟨(i+1),⟨om,lL A hx (by unfold j2 kT; (rw [G0 om]; simp only; omega))⟩⟩ _ _ _ U os (dy.cons U<|dy.cons U<|bo U W<|dy.nil _) (aL [1,2,3,4,5,6,7]))
 refine dP 6 [0,1] (mc 0 U (mc 1 U I)) ?_
 obtain ⟨y,hy⟩:=aM r.aj (i-1) om
 have AE:=bQ aO.cells hy
 refine dS (IA (i-1) U (aB 7 U) zX dc om om)<|dS (mK ((i-1)*2) U (aB 7 U) (Nat.mul_pos om dc) fB U)<|dS (gh (i-1) 0 (vI y.gl) U cm (aB 7 U) AE U dc U)<|dP 2 [] I ?_
 refine ja (t:=64) U (aQ fun e=>?_) (aP fun e=>?_)
 ·refine kX 24 U<|cK<|RK B<|aR U<|WS fun _ R=>rP 1 [] I ?_
  refine RK R<|ar<|Q1 hQ U U U ?_
  exact cB (cr fun q=>by have C:=q.sig i x hx; unfold j2 kT at C; (rw [q7 om hy] at C; omega)).symm
 refine lJ 6 [0,1] (mc 0 U (mc 1 U I)) U<|dS (IA (i-1) U (aB 7 U) zX dc om om)<|dS (mK ((i-1)*2) U (aB 7 U) (Nat.mul_pos om dc) fB U)<|dS (gh (i-1) 0 (vI y.gl) U cm (aB 7 U) AE U dc U)<|dP 2 [] I ?_
 refine jg (t:=75) U (aP fun f=>?_) (aQ fun f=>?_)
 ·refine kX 13 U<|cK<|RK B<|aX U<|cj<|aH<|KK E<|an<|rP 3 [] I ?_
  refine aF ?_
  have V:(vI (((i+1):Nat):Int))=(vI ((i:Int)+1)):=by exact cI om
  refine aT (D ⟨(i+1),⟨om,lL A hx (by unfold j2 kT; (rw [q7 om hy]; omega))⟩⟩ _ _ _ U os (dy.cons U<|dy.cons U<|bo U V<|dy.nil _) (aL [1,2,3,4,5,6,7]))
 refine lJ 6 [0,1] (mc 0 U (mc 1 U I)) U<|dS (IA (i-1) U (aB 7 U) zX dc om om)<|dS (mK (((i-1)*2)+1) U (aB 7 U) (Nat.mul_pos om dc) fB U)<|dS (gh (i-1) 1 (vI y.Read) U cm (aB 7 U) AE U dc U)<|dP 4 [] I ?_
 refine cK<|RK B<|cE U (aQ fun g=>?_) (aP fun g=>?_)
 ·refine WS fun _ S=>rP 1 [] I ?_
  refine RK S<|ar<|Q1 hQ U U U ?_
  exact cB (cr fun q=>by have C:=q.sig i x hx; unfold j2 kT at C; (rw [q7 om hy] at C; omega)).symm
 refine cj<|aH<|KK E<|an<|rP 3 [] I ?_
 refine aF ?_
 have AD:(vI (((i+1):Nat):Int))=(vI ((i:Int)+1)):=by exact cI om
 refine aT (D ⟨(i+1),⟨om,lL A hx (by unfold j2 kT; (rw [q7 om hy]; omega))⟩⟩ _ _ _ U os (dy.cons U<|dy.cons U<|bo U AD<|dy.nil _) (aL [1,2,3,4,5,6,7]))
end
section
open Go.RowKit
theorem Nw (l:bf) (kA:OA) (kC:Nat) (az:List RA) (cA:OA) (cC:Nat) (bA:OA) (bC:Nat) (r:cG) (sgA:OA) (sgC:Nat) (hin:eE l az) (hle:dx l=0) (hr:fm l r):
 lq Tryz.prog 165 [(vA (bJ.cells (ld l kA kC cA cC bA bC))),(vA (eK.cells (mo r sgA sgC)))] [(rd kA l.aJ.length 9 (l.aJ.map ao.cells)),(rd cA l.ai.length 2 (List.zipWith au.cells l.ai az)),(fc (aS au.gW l.ai az)),(rd bA l.ag.length 4 (l.ag.map bG.cells)),(rd sgA r.aj.length 2 (r.aj.map aO.cells))] (fun (x:(OA)×Nat×(OA)×Nat×(OA)×Nat)=>(vA (il.cells (il.mk (aN.mk x.1 ((cO l l.ag.length).length) x.2.1) (aN.mk x.2.2.1 ((eU l r r.aj.length).length) x.2.2.2.1) (aN.mk x.2.2.2.2.1 ((fj l r r.aj.length).length) x.2.2.2.2.2))))) (fun (x:(OA)×Nat×(OA)×Nat×(OA)×Nat)=>True) (fun (x:(OA)×Nat×(OA)×Nat×(OA)×Nat)=>[(own x.1 x.2.1 3 1 ((cO l l.ag.length).map iC)),(own x.2.2.1 x.2.2.2.1 38 2 ((eU l r r.aj.length).map aa.cells)),(own x.2.2.2.2.1 x.2.2.2.2.2 4 1 ((fj l r r.aj.length).map pG))]):=by
 have AM:=hin.si
 have AF:=hin.sh
 have AD:=hin.nO
 have AE:=hin.sf
 obtain ⟨w,g⟩:=gK hle
 have t:=g.head
 unfold gr at t
 have AI:=hr.len
 have AK:=hr.time
 refine dv kr Tryz.func165 U U fun w0 Q hQ hN=>?_
 try dsimp only
 refine WS fun _ n=>fU U fun b2=>fU U fun b3=>AL U OZ fun b4=>RK n<|WS fun _ o=>AL U OZ fun h=>RK o<|ak fun _ p=>WS fun _ q=>rP 1 [] I ?_
 refine RK q<|ax<|fY 3 1 ?_
 have A:(0≤l.ag.length):=by exact Nat.zero_le _
 refine bR (ι:={z:Nat×(OA)×Nat // (z.1≤l.ag.length)}) [2,3,4,5] [2,3,4,5,6,7,8,9] U U (fun z=>[(6,(vI (z.1.1:Int)))]) (fun z=>[(own z.1.2.1 z.1.2.2 3 1 ((cO l z.1.1).map iC)),(b_ h 233 (il.cells (il.mk (aN.mk z.1.2.1 ((cO l z.1.1).length) z.1.2.2) (aN.mk none 0 0) (aN.mk none 0 0))))]) (fun _=>rfl) (fun _=>rfl) (fun z=>l.ag.length-z.1.1) ⟨(0,none,0),A⟩ (aU U) (aL [2,3,4,5,6,7,8,9,0,1]) ?_
 clear A
 rintro ⟨⟨b,a,c⟩,F⟩ J9 m
 try dsimp only at F
 try dsimp only
 refine ak fun _ K=>WS fun _ L=>rP 5 [] (mc 2 U I) ?_
 refine RK L<|cE U (aQ fun j=>?_) (aP fun j=>?_)
 ·refine WK K<|ak fun _ M=>ax<|dL cu [5,6,8] [1] [0] [0,1,2,3,4,5,6,7] [0,1,2,3,4,5,6,7,8,9] U U U U U<|eS U (FA 0 U fB U)<|fS U (L1 (vS a ((cO l b).length) c) 9 U cm U U)<|eS U (LW 2 U cm U U)<|eS U (MV U) ?_
  have AH:=mR w g (i:=b) om
  refine eS U (CL (IU l kA kC az cA cC bA bC (b:Int) hin asm asm om) (bh [3,4,5,6]) U)<|eS U (FA 0 U fB U)<|e9 U<|iA U fun T14 W=>cZ (xs:=[.tmp 21]) (cs:=[(vI (ei l (b:Int).toNat))]) U cJ jd U U U U (by simp [Value.cells]) U U fun y=>aF (W _ _ (aL [1,2,3,4,5,6,7,8]) (aL [1,2,3,4,5,6,7,8,9,10]) ?_)
  refine cq U fun T16 X=>?_
  refine de (es2:=(List.map iC (cO l (b+1)))) (m':=(cO l (b+1)).length) 9 U U U pT U U sm (a_ (es:=List.map iC [(ei l (b:Int).toNat)]) 0 U U (by simp [bK]) U) (j6 _) (by simp only [ep]; omega) (by simp only [maxLen,ep]; omega) (by rw [u_]; simp) sm U fun H AO=>?_
  try dsimp only
  refine aF (X _ _ (aL [1,2,3,4,5,6,7,8]) ?_)
  refine cq U fun T19 Y=>U_ (il.cells (il.mk (aN.mk H ((cO l (b+1)).length) AO) (aN.mk none 0 0) (aN.mk none 0 0))) U AJ U U<|aF (Y _ _ (aL [1,2,3,4,5,6,7,8]) ?_)
  refine fO U<|aH<|KK M<|an<|rP 3 [] I ?_
  refine aF ?_
  have e:(vI (((b+1):Nat):Int))=(vI ((b:Int)+1)):=by exact cI om
  refine aT (m ⟨((b+1),H,AO),(by first|omega|(simp only []; omega))⟩ _ _ _ U os (cP 4<|bo U e<|dy.nil _) (aL [1,2,3,4,5,6,7,8,9,10]))
 refine bB<|ae<|ae<|aA<|KK p<|ak fun _ N=>WS fun _ O=>?_
 rw [show cO l b=(cO l l.ag.length) from by rw [show b=l.ag.length by omega]]
 refine rP 1 [] I ?_
 refine RK O<|ax<|fY 38 2<|fY 4 1 ?_
 have A:(0≤r.aj.length):=by exact Nat.zero_le _
 refine bR (ι:={z:Nat×(OA)×Nat×(OA)×Nat // (z.1≤r.aj.length)}) [2,3,4,5] [2,3,4,5,6,7,8,9,10] U U (fun z=>[(7,(vI (z.1.1:Int)))]) (fun z=>[(own z.1.2.2.2.1 z.1.2.2.2.2 4 1 ((fj l r z.1.1).map pG)),(own z.1.2.1 z.1.2.2.1 38 2 ((eU l r z.1.1).map aa.cells)),(b_ h 233 (il.cells (il.mk (aN.mk a ((cO l l.ag.length).length) c) (aN.mk z.1.2.1 ((eU l r z.1.1).length) z.1.2.2.1) (aN.mk z.1.2.2.2.1 ((fj l r z.1.1).length) z.1.2.2.2.2))))]) (fun _=>rfl) (fun _=>rfl) (fun z=>r.aj.length-z.1.1) ⟨(0,none,0,none,0),A⟩ (aU U) (aL [2,3,4,5,6,7,8,9,10,0,1,11]) ?_
 clear A
 rintro ⟨⟨i,ta,tc,sa,sc⟩,G⟩ J23 J
 try dsimp only at G
 try dsimp only
 refine ak fun _ P=>WS fun _ R=>rP 5 [] (mc 1 U I) ?_
 refine RK R<|bS U (aP fun k=>?_) (aQ fun k=>?_)
 ·refine bB<|ae<|ae<|aA<|KK N<|WS fun _ V=>?_
  rw [show eU l r i=(eU l r r.aj.length) from by rw [show i=r.aj.length by omega]]
  rw [show fj l r i=(fj l r r.aj.length) from by rw [show i=r.aj.length by omega]]
  refine rP 1 [] (mc 11 U I) ?_
  refine fW U RO U<|RK V<|ar<|LX hQ (a,c,ta,tc,sa,sc) [8,10,9] [0] (mc 0 U I) U U U U ?_
  trivial
 refine WK P<|ak fun _ S=>ax<|ak fun _ T=>dL cu [10,11] [] [] [0,1,2,3,4,5,6,7,8,9,10,11] [] U U U U U<|eS U (LW 2 U cm U U)<|eS U (FA 2 U fB U)<|eS U (L1 (vS sgA r.aj.length sgC) 1 U cm U U)<|eS U (MV U) ?_
 obtain ⟨s,hs⟩:=aM r.aj i om
 have v:=bQ aO.cells hs
 refine eS U (IA i U (aB 7 U) zX dc om om)<|eS U (ov i 0 (aO.cells s) U cm (aB 7 U) v U dc U U) ?_
 have u:=(hr.sig i s hs).1
 refine eS U (CL (Mz l kA kC az cA cC bA bC s hin asm (by exact u)) (bh [3,4,5,6]) U)<|eS U (MV U)<|eS U (EX U)<|eS U (EX U)<|eS U (AG U)<|e9 U<|cq U fun T29 Z=>AL U di fun AA=>aF (Z _ _ (aL [1,2,3,4,5,6,7,8,9,10,11,12]) ?_)
 refine cq U fun T31 d=>fW U cv U<|aF (d _ _ (aL [1,2,3,4,5,6,7,8,9,10,11,12]) ?_)
 refine fO U<|KK T<|WS fun _ AN=>rP 3 [0,1] (mc 12 U (mc 0 U I)) ?_
 refine cZ (xs:=[.tmp 44]) (cs:=(aa.cells (cL l s))) U jL di U U U U (by simp [Value.cells,aa.aW]) U U fun AB=>?_
 refine de (es2:=(List.map aa.cells (eU l r (i+1)))) (m':=(eU l r (i+1)).length) 12 U U U D9 U U sm (a_ (es:=List.map aa.cells [(cL l s)]) 0 U U (by simp [aa.aW]) U) (gS _) (by rw [qT om]; omega) (by rw [qT om]; simp only [maxLen]; omega) (by rw [EI hs]; simp) sm U fun B C=>?_
 try dsimp only
 refine bg 1 U<|jl (vs:=[(vS B ((eU l r (i+1)).length) C)]) (cs':=(il.cells (il.mk (aN.mk a ((cO l l.ag.length).length) c) (aN.mk B ((eU l r (i+1)).length) C) (aN.mk sa ((fj l r i).length) sc)))) (C':=[_,_,_,_,_,_,_,_,_,_,_,_,_,(b_ h 233 (il.cells (il.mk (aN.mk a ((cO l l.ag.length).length) c) (aN.mk B ((eU l r (i+1)).length) C) (aN.mk sa ((fj l r i).length) sc))))]) 13 U U U U1 U U U U U U U<|RK AN<|an<|rP 3 [] (mc 13 U I) ?_
 refine cZ (xs:=[.tmp 50]) (cs:=[(vB (decide ((cL l s).Lo≤(cL l s).Hi)))]) U OL VG U U U U (by simp [Value.cells]) U U fun AC=>?_
 refine de (es2:=(List.map pG (fj l r (i+1)))) (m':=(fj l r (i+1)).length) 12 U U U Sp U U sm (a_ (es:=List.map pG [(decide ((cL l s).Lo≤(cL l s).Hi))]) 0 U U (by simp [Ay]) U) (Gg _) (by rw [uh om]; omega) (by rw [uh om]; simp only [maxLen]; omega) (by rw [Dz hs]; simp) sm U fun D E=>?_
 try dsimp only
 refine bg 1 U<|jl (vs:=[(vS D ((fj l r (i+1)).length) E)]) (cs':=(il.cells (il.mk (aN.mk a ((cO l l.ag.length).length) c) (aN.mk B ((eU l r (i+1)).length) C) (aN.mk D ((fj l r (i+1)).length) E)))) (C':=[_,_,_,_,_,_,_,_,_,_,_,_,_,_,(b_ h 233 (il.cells (il.mk (aN.mk a ((cO l l.ag.length).length) c) (aN.mk B ((eU l r (i+1)).length) C) (aN.mk D ((fj l r (i+1)).length) E))))]) 14 U U U Td U U U U U U U<|aF<|aH<|KK S<|an<|bg 2 U<|rP 1 [] I ?_
 refine aF ?_
 have f:(vI (((i+1):Nat):Int))=(vI ((i:Int)+1)):=by exact cI om
 refine aT (J ⟨((i+1),B,C,D,E),(by first|omega|(simp only []; omega))⟩ _ _ _ U os (cP 4<|bo U f<|dy.nil _) (aL [3,4,5,6,7,8,9,10,11,12,13,14]))
theorem Ke (r:cG) (sgA:OA) (sgC:Nat) (l:bf) (wA:OA) (wC:Nat) (tA:OA) (tC:Nat) (bA:OA) (bC:Nat) (rs:List Int) (rsA:OA) (rsC:Nat) (hle:dx l=0) (hr:fm l r) (hn:rs.length≤l.ag.length) (hrs: ∀ x∈rs,0≤x→x<(r.aj.length:Int)):
 lq Tryz.prog 167 [(vA (eK.cells (mo r sgA sgC))),(vA (il.cells (il.mk (aN.mk wA ((cO l l.ag.length).length) wC) (aN.mk tA ((eU l r r.aj.length).length) tC) (aN.mk bA ((fj l r r.aj.length).length) bC)))),(vS rsA rs.length rsC)] [(rd sgA r.aj.length 2 (r.aj.map aO.cells)),(rd wA ((cO l l.ag.length).length) 1 ((cO l l.ag.length).map iC)),(rd tA ((eU l r r.aj.length).length) 2 ((eU l r r.aj.length).map aa.cells)),(rd bA ((fj l r r.aj.length).length) 1 ((fj l r r.aj.length).map pG)),(rd rsA rs.length 1 (rs.map iC))] (fun (x:(OA)×Nat)=>(vS x.1 ((jf l r rs).length) x.2)) (fun (x:(OA)×Nat)=>True) (fun (x:(OA)×Nat)=>[(own x.1 x.2 3 1 ((jf l r rs).map iC))]):=by
 obtain ⟨J,D⟩:=gK hle
 have v:=D.head
 unfold gr at v
 have AG:=hr.len
 have AH:=hr.time
 have w:=Fc (l:=l) (rs:=rs) ⟨om,om⟩ (fun b hb=>by have:=mR J D (i:=b) om; omega) hrs
 have AE:=ep (l:=l) (n:=l.ag.length)
 have AI:=qT (l:=l) (Nat.le_refl r.aj.length)
 refine dv kr Tryz.func167 U U fun w0 Q hQ hN=>?_
 try dsimp only
 refine WS fun _ h=>fU U fun b2=>fU U fun b3=>bg 1 U<|RK h<|WS fun _ m=>rP 2 [] I ?_
 refine xG (n:=rs.length) (es:=(List.map iC (List.replicate rs.length 0))) U U U pT om om (by simp only [maxLen]; omega) (by rw [List.map_replicate]; rfl) U fun E=>?_
 try dsimp only
 refine bg 1 U<|RK m<|WS fun _ p=>fF 3 [] (mc 2 U I) U<|RK p<|ak fun _ q=>WS fun _ t=>rP 4 [] I ?_
 refine RK t<|ax ?_
 rw [show (own (some ⟨E,0,none⟩) rs.length 3 1 (List.map iC (List.replicate rs.length 0)))=(own (some ⟨E,0,none⟩) rs.length 3 1 ((jy l r rs rs.length).map iC)) from by rw [HF]]
 have B:(rs.length≤rs.length):=by exact Nat.le_refl _
 have u:(vI ((jC l r rs rs.length).2))=(vI r.gj):=by rw [tM]
 refine bR (ι:={z:Nat // (z≤rs.length)}) [2,3,4,7] [1,2,3,4,5,6,7] U U (fun z=>[(8,(vI ((jC l r rs z.1).2))),(9,(vI ((z.1:Int)-1)))]) (fun z=>[(own (some ⟨E,0,none⟩) rs.length 3 1 ((jy l r rs z.1).map iC))]) (fun _=>rfl) (fun _=>rfl) (fun z=>z.1) ⟨rs.length,B⟩ (bo U u<|aU U) (aL [1,2,3,4,5,6,7,0]) ?_
 clear B
 rintro ⟨j,AA⟩ J10 F
 try dsimp only
 have AF:=HO (l:=l) (r:=r) (rs:=rs) (j:=j) om
 refine ak fun _ L=>WS fun _ M=>rP 2 [] I ?_
 refine RK M<|bS U (aP fun g=>?_) (aQ fun g=>?_)
 ·refine bB<|ae<|ae<|aA<|KK q<|WS fun _ R=>rP 1 [] I ?_
  rw [show (Value.slice (some ⟨E,0,none⟩) rs.length rs.length)=(Value.slice (some ⟨E,0,none⟩) ((jf l r rs).length) rs.length) from by rw [show (jf l r rs).length=rs.length from qE _ _]]
  rw [show jy l r rs j=jf l r rs from by rw [show j=0 by omega]; exact Dm]
  refine rP 1 [] I ?_
  refine RK R<|ar<|LX hQ ((some ⟨E,0,none⟩),rs.length) [7] [] I U U U U ?_
  trivial
 refine WK L<|ak fun _ G=>ax<|ak fun _ H=>WS fun _ N=>rP 2 [] I ?_
 have AD:=w (rs.length-j) j om
 obtain ⟨x,hx⟩:=aM rs (j-1) om
 have d:=bQ iC hx
 refine rS (IA (j-1) U (aB 6 U) cJ dc om om)<|rS (gh (j-1) 0 (vI x) U cm (aB 6 U) d U dc U)<|rP 1 [] I ?_
 refine RK N<|bS U (aP fun A=>?_) (aQ fun A=>?_)
 ·refine WK H<|WS fun _ P=>rP 3 [] I ?_
  obtain ⟨AL,c⟩:=aM (jy l r rs j) (j-1) om
  have hx25m:=bQ iC c
  refine rS (IA (j-1) U (al (n:=rs.length) 7 U sq) cJ dc om om) ?_
  have V:((jy l r rs j).set (j-1) ((jC l r rs j).2))=(jy l r rs (j-1)):=by (rw [← zA om hx]; congr 1; unfold sj; (rw [if_neg A]; done))
  refine eG (k:=(j-1)) (o:=0) (vs:=[(vI ((jC l r rs j).2))]) (es':=(List.map iC (jy l r rs (j-1)))) (C':=[_,_,_,_,_,_,_,(own (some ⟨E,0,none⟩) rs.length 3 1 (List.map iC (jy l r rs (j-1))))]) 7 U U U AU U U U U hx25m U dc (by exact (List.map_set (f:=iC) (l:=(jy l r rs j)) (i:=(j-1)) (a:=(jC l r rs j).2)).symm.trans (congrArg _ V)) U<|RK P<|an<|rP 4 [] (mc 0 U I) ?_
  obtain ⟨y,hy⟩:=aM (cO l l.ag.length) (j-1) om
  have K:=bQ iC hy
  refine rS (IA (j-1) U (aB 3 U) cJ dc om om)<|rS (gh (j-1) 0 (vI y) U cm (aB 3 U) K U dc U) ?_
  have C:=tR hy
  have AN:=mR J D (i:=j-1) om
  rw [← C] at AN
  refine bg 2 U<|aF<|aH<|KK G<|an<|rP 3 [] I ?_
  refine aF ?_
  have W:(vI ((jC l r rs (j-1)).2))=(vI (((jC l r rs j).2)-y)):=by exact cI (by rw [o1 om hx]; simp only; unfold sj; rw [C]; (rw [if_neg A]; done))
  have X:(vI ((((j-1):Nat):Int)-1))=(vI (((j:Int)-1)-1)):=by exact cI om
  refine aT (F ⟨(j-1),(by first|omega|(simp only []; omega))⟩ _ _ _ U os (cP 4<|bo U W<|bo U X<|dy.nil _) (aL [0,1,2,3,4,5,6,7]))
 refine dh cu 12 kr<|dP 5 [] (mc 0 U I) ?_
 refine dS (IA (j-1) U (aB 6 U) cJ dc om om)<|dS (gh (j-1) 0 (vI x) U cm (aB 6 U) d U dc U) ?_
 have AJ:=hrs x (aV hx) A
 obtain ⟨z,hz⟩:=aM (eU l r r.aj.length) ((x).toNat) om
 have AC:=bQ aa.cells hz
 refine dS (IA ((x).toNat) U (aB 4 U) jL dc om om)<|dS (mK ((((x).toNat)*2)+1) U (aB 4 U) (Nat.mul_pos om dc) fB U) ?_
 obtain ⟨s,hs,e⟩:=JI hz
 have AB:=xK l s
 rw [← e] at AB
 have Y:Mk l r x=z.Hi:=by rw [En hs,e]
 refine dS (gh ((x).toNat) 1 (vI z.Hi) U cm (aB 4 U) AC U dc U)<|dS (MN U)<|kX 1 U<|cK<|RK H<|WS fun _ O=>rP 3 [] I ?_
 obtain ⟨AK,Z⟩:=aM (jy l r rs j) (j-1) om
 have hx19m:=bQ iC Z
 refine rS (IA (j-1) U (al (n:=rs.length) 7 U sq) cJ dc om om) ?_
 have S:((jy l r rs j).set (j-1) (min ((jC l r rs j).2) z.Hi))=(jy l r rs (j-1)):=by (rw [← zA om hx]; congr 1; unfold sj; (rw [if_pos A,Y]; done))
 refine eG (k:=(j-1)) (o:=0) (vs:=[(vI (min ((jC l r rs j).2) z.Hi))]) (es':=(List.map iC (jy l r rs (j-1)))) (C':=[_,_,_,_,_,_,_,(own (some ⟨E,0,none⟩) rs.length 3 1 (List.map iC (jy l r rs (j-1))))]) 7 U U U AU U U U U hx19m U dc (by exact (List.map_set (f:=iC) (l:=(jy l r rs j)) (i:=(j-1)) (a:=(min ((jC l r rs j).2) z.Hi))).symm.trans (congrArg _ S)) U<|RK O<|an<|rP 4 [] (mc 0 U I) ?_
 obtain ⟨y,hy⟩:=aM (cO l l.ag.length) (j-1) om
 have K:=bQ iC hy
 refine rS (IA (j-1) U (aB 3 U) cJ dc om om)<|rS (gh (j-1) 0 (vI y) U cm (aB 3 U) K U dc U) ?_
 have C:=tR hy
 have AN:=mR J D (i:=j-1) om
 rw [← C] at AN
 refine bg 2 U<|aF<|aH<|KK G<|an<|rP 3 [] I ?_
 refine aF ?_
 have T:(vI ((jC l r rs (j-1)).2))=(vI ((min ((jC l r rs j).2) z.Hi)-y)):=by exact cI (by rw [o1 om hx]; simp only; unfold sj; rw [C]; (rw [if_pos A,Y]; done))
 have AM:(vI ((((j-1):Nat):Int)-1))=(vI (((j:Int)-1)-1)):=by exact cI om
 refine aT (F ⟨(j-1),(by first|omega|(simp only []; omega))⟩ _ _ _ U os (cP 4<|bo U T<|bo U AM<|dy.nil _) (aL [0,1,2,3,4,5,6,7]))
end
section
open Go.RowKit
theorem Gw (l:bf) (kA:OA) (kC:Nat) (az:List RA) (cA:OA) (cC:Nat) (bA:OA) (bC:Nat) (r:cG) (sgA:OA) (sgC:Nat) (vwA:OA) (vwC:Nat) (vtA:OA) (vtC:Nat) (vbA:OA) (vbC k:Nat) (rs:List Int) (rA:OA) (rC:Nat) (fs:List Int) (fA:OA) (fC:Nat) (hin:eE l az) (hle:dx l=0) (hr:fm l r) (hk:rs.length+k=l.ag.length) (hfl:fs.length=rs.length) (hst:r.Start≤fZ r.Start fs∧fZ r.Start fs≤r.gj) (hrs: ∀ x∈rs,-1≤x∧x<(r.aj.length:Int)) (hrec: ∀ (k2:Nat) (rs2:List Int) (rA2:OA) (rC2:Nat) (fs2:List Int) (fA2:OA) (fC2:Nat),(k2<k)→(rs2.length+k2=l.ag.length)→(fs2.length=rs2.length)→(r.Start≤fZ r.Start fs2∧fZ r.Start fs2≤r.gj)→(∀ x∈rs2,-1≤x∧x<(r.aj.length:Int))→Da Tryz.prog 164 [(vA (bJ.cells (ld l kA kC cA cC bA bC))),(vA (eK.cells (mo r sgA sgC))),(vA (il.cells (il.mk (aN.mk vwA ((cO l l.ag.length).length) vwC) (aN.mk vtA ((eU l r r.aj.length).length) vtC) (aN.mk vbA ((fj l r r.aj.length).length) vbC)))),(vS rA2 rs2.length rC2),(vS fA2 fs2.length fC2)] [(rd kA l.aJ.length 9 (l.aJ.map ao.cells)),(rd cA l.ai.length 2 (List.zipWith au.cells l.ai az)),(fc (aS au.gW l.ai az)),(rd bA l.ag.length 4 (l.ag.map bG.cells)),(rd sgA r.aj.length 2 (r.aj.map aO.cells)),(rd vwA ((cO l l.ag.length).length) 1 ((cO l l.ag.length).map iC)),(rd vtA ((eU l r r.aj.length).length) 2 ((eU l r r.aj.length).map aa.cells)),(rd vbA ((fj l r r.aj.length).length) 1 ((fj l r r.aj.length).map pG))] (bp [own rA2 rC2 3 1 (rs2.map iC),own fA2 fC2 3 1 (fs2.map iC)]) (fun (x:(OA)×Nat×(List kj))=>(vS x.1 ((g8 l r k2 rs2 fs2).length) x.2.1)) (fun (x:(OA)×Nat×(List kj))=>x.2.2.length=(g8 l r k2 rs2 fs2).length) (fun (x:(OA)×Nat×(List kj))=>(bp (aS db.owns (g8 l r k2 rs2 fs2) x.2.2++[own x.1 x.2.1 236 3 (List.zipWith db.cells (g8 l r k2 rs2 fs2) x.2.2)])))):
 Da Tryz.prog 164 [(vA (bJ.cells (ld l kA kC cA cC bA bC))),(vA (eK.cells (mo r sgA sgC))),(vA (il.cells (il.mk (aN.mk vwA ((cO l l.ag.length).length) vwC) (aN.mk vtA ((eU l r r.aj.length).length) vtC) (aN.mk vbA ((fj l r r.aj.length).length) vbC)))),(vS rA rs.length rC),(vS fA fs.length fC)] [(rd kA l.aJ.length 9 (l.aJ.map ao.cells)),(rd cA l.ai.length 2 (List.zipWith au.cells l.ai az)),(fc (aS au.gW l.ai az)),(rd bA l.ag.length 4 (l.ag.map bG.cells)),(rd sgA r.aj.length 2 (r.aj.map aO.cells)),(rd vwA ((cO l l.ag.length).length) 1 ((cO l l.ag.length).map iC)),(rd vtA ((eU l r r.aj.length).length) 2 ((eU l r r.aj.length).map aa.cells)),(rd vbA ((fj l r r.aj.length).length) 1 ((fj l r r.aj.length).map pG))] (bp [own rA rC 3 1 (rs.map iC),own fA fC 3 1 (fs.map iC)]) (fun (x:(OA)×Nat×(List kj))=>(vS x.1 ((g8 l r k rs fs).length) x.2.1)) (fun (x:(OA)×Nat×(List kj))=>x.2.2.length=(g8 l r k rs fs).length) (fun (x:(OA)×Nat×(List kj))=>(bp (aS db.owns (g8 l r k rs fs) x.2.2++[own x.1 x.2.1 236 3 (List.zipWith db.cells (g8 l r k rs fs) x.2.2)]))):=by
 have Bl:=hin.si
 have Bd:=hin.sh
 have Ba:=hin.nO
 have Bb:=hin.sf
 obtain ⟨BI,Al⟩:=gK hle
 have BC:=Al.head
 unfold gr at BC
 have AD:=hr.len
 have Bi:=hr.time
 have Bh:=ep (l:=l) (n:=l.ag.length)
 have Bm:=qT (l:=l) (Nat.le_refl r.aj.length)
 have Bk:=uh (l:=l) (Nat.le_refl r.aj.length)
 have Bn:=sP rs
 refine mw kr Tryz.func164 U U fun w0 Q hQ hN=>?_
 try dsimp only
 refine Bc 0 U U fun wz Sz hz=>?_
 try dsimp only
 refine WS fun _ A6=>fU U fun b2=>fU U fun b3=>fU U fun b4=>bg 1 U<|RK A6<|WS fun _ A7=>bg 1 U<|RK A7<|WS fun _ A8=>bg 4 U<|RK A8<|ak fun _ A9=>WS fun _ A_=>rP 1 [] I ?_
 refine RK A_<|ax ?_
 have C:(0≤rs.length):=by exact Nat.zero_le _
 have BA:(vI ((cY (rs.take 0)).right))=(vI 0):=by rfl
 refine bR (ι:={z:Nat // (z≤rs.length)}) [3,4,5,6,7,11,12] [0,1,2,3,4,5,6,7,8,9,10,11] U U (fun z=>[(13,(vI ((cY (rs.take z.1)).right))),(14,(vI (z.1:Int)))]) (fun z=>[]) (fun _=>rfl) (fun _=>rfl) (fun z=>rs.length-z.1) ⟨0,C⟩ (bo U BA<|aU U) (aL [0,1,2,3,4,5,6,7,8,9,10,11]) ?_
 clear C
 rintro ⟨i,BE⟩ J10 g
 try dsimp only
 have BG:=sP (rs.take i)
 rw [List.length_take] at BG
 refine ak fun _ AH=>WS fun _ AI=>rP 3 [] I ?_
 refine RK AI<|cE U (aQ fun A0=>?_) (aP fun A0=>?_)
 ·refine WK AH<|ak fun _ h=>ax<|WS fun _ AJ=>rP 2 [] I ?_
  obtain ⟨x,hx⟩:=aM rs i om
  have BJ:=bQ iC hx
  refine rS (IA i U (show iq _ (rd rA rs.length 1 (rs.map iC)).holds from (pd (c:=rC) (e:=3) 3 U sm sm)) cJ dc om om)<|rS (gh i 0 (vI x) U cm (show iq _ (rd rA rs.length 1 (rs.map iC)).holds from (pd (c:=rC) (e:=3) 3 U sm sm)) BJ U dc U)<|rP 1 [] I ?_
  refine RK AJ<|bS U (aP fun AB=>?_) (aQ fun AB=>?_)
  ·refine cj<|aH<|KK h<|an<|rP 3 [] I ?_
   refine aF ?_
   have AZ:(vI ((cY (rs.take (i+1))).right))=(vI ((cY (rs.take i)).right)):=by exact cI (by rw [sJ hx]; (rw [if_neg AB]; exact Int.add_zero _))
   have Aa:(vI (((i+1):Nat):Int))=(vI ((i:Int)+1)):=by exact cI om
   refine aT (g ⟨(i+1),(by first|omega|(simp only []; omega))⟩ _ _ _ U os (cP 7<|bo U AZ<|bo U Aa<|dy.nil _) (aL [0,1,2,3,4,5,6,7,8,9,10,11]))
  refine an<|bg 3 U<|aF<|aH<|KK h<|an<|rP 3 [] I ?_
  refine aF ?_
  have AX:(vI ((cY (rs.take (i+1))).right))=(vI (((cY (rs.take i)).right)+1)):=by exact cI (by rw [sJ hx]; (rw [if_pos AB]; done))
  have AY:(vI (((i+1):Nat):Int))=(vI ((i:Int)+1)):=by exact cI om
  refine aT (g ⟨(i+1),(by first|omega|(simp only []; omega))⟩ _ _ _ U os (cP 7<|bo U AX<|bo U AY<|dy.nil _) (aL [0,1,2,3,4,5,6,7,8,9,10,11]))
 refine bB<|ae<|ae<|aA<|KK A9<|ak fun _ AK=>ak fun _ AL=>?_
 rw [show rs.take i=rs from List.take_of_length_le om]
 refine an<|rP 6 [] (mc 2 U I) ?_
 refine RK AL<|cE U (aQ fun A2=>?_) (aP fun A2=>?_)
 ·refine WS fun _ AM=>dM 236 3<|rP 1 [] I ?_
  refine RK AM<|ar<|Aj (C1:=[(own none 0 236 3 [])]) hz [0] U U U<|Qw (W:=g8 l r k rs fs) ?_
  rw [show (own none 0 236 3 [])=(own none 0 236 3 (List.zipWith db.cells (g8 l r k rs fs) [])) from by rw [nq om]; rfl]
  refine LM hQ (none,0,[]) 0 [] I U (by show List.all _ _=true; rw [List.all_append,o3]; rfl) U ?_ ?_
  ·exact (by rw [nq om]; rfl)
  ·rw [nq om]; rfl
 refine WK AK ?_
 refine ob (ι:={z:(OA)×Nat×(List kj)×(List av) // (wc l r rs fs (rA,rC) (fA,fC) z.2.2.1 z.2.2.2)}) [3,4,5,6,7,12] [0,1,2,3,4,5,6,7,8,9,10,11] U U (fun z=>[(11,(vS z.1.1 ((gP l r rs fs).length) z.1.2.1))]) (fun z=>[(own z.1.1 z.1.2.1 236 3 (List.zipWith db.cells (gP l r rs fs) z.1.2.2.1)),(bp z.1.2.2.2)]) (fun _=>rfl) (fun _=>rfl) ?_ fun K23 m=>?_
 ·rintro ⟨⟨oA,oC,E,LA⟩,H⟩
  try dsimp only at H
  try dsimp only
  have D:=H
  have BD:=D.len
  have Be:=wu (l:=l) (r:=r) (rs:=rs) (fs:=fs)
  refine ak fun _ V=>WS fun _ AN=>rP 4 [] (mc 2 U I) ?_
  have Bo:=uz (l:=l) (r:=r) (rs:=rs) (fs:=fs) AD (k:=k) om
  refine rP 1 [] I ?_
  refine RK AN<|cE U (aQ fun A3=>?_) (aP fun A3=>?_)
  ·refine WS fun _ AO=>bg 1 U<|rP 1 [] I ?_
   refine RK AO<|ar ?_
   obtain rfl:k=0:=by omega
   refine Eg ?_
   try dsimp only
   refine Aj (C1:=[(own oA oC 236 3 (List.zipWith db.cells (gP l r rs fs) E)),(bp LA),(bp (aS db.owns [] []))]) hz [13,14,0] U U (by simp only [fI,List.all_nil,Bool.and_true,cR]; exact ⟨U,D.wr,o3 _ _⟩) ?_
   refine Jz (ra:=(rA,rC)) (fa:=(fA,fC)) (A':=(own oA oC 236 3 (List.zipWith db.cells (g8 l r 0 rs fs) E))) D ((List.append_nil _).trans (ny om).symm) (List.append_nil _) (by rw [ny om]) ?_
   refine LM hQ (oA,oC,E) 0 [] I U (by show List.all _ _=true; rw [List.all_append,o3]; rfl) U ?_ ?_
   ·exact (by (rw [ny om]; rfl))
   ·rw [ny om]; exact BD
  refine WK V<|WS fun _ AP=>?_
  obtain ⟨B,rfl⟩: ∃ B,k=B+1:=⟨k-1,om⟩
  refine rP 3 [] (mc 1 U I) ?_
  refine RK AP ?_
  refine ob (ι:=Unit) [3,4,5,6,7,11,12] [0,1,2,3,4,5,6,7,8,9,10,11,12,13] U U (fun z=>[(15,(vI (fZ r.Start fs)))]) (fun z=>[]) (fun _=>rfl) (fun _=>rfl) ?_ fun K28 o=>?_
  ·intro _
   try dsimp only
   refine WS fun _ Z=>rP 4 [] (mc 0 U I) ?_
   obtain ⟨yls,Ao⟩:=aM (cO l l.ag.length) (rs.length) om
   have Ap:=bQ iC Ao
   refine rS (IA rs.length U (aB 9 U) cJ dc om om)<|rS (gh rs.length 0 (vI yls) U cm (aB 9 U) Ap U dc U) ?_
   have Bg:=mR BI Al (i:=rs.length) om
   rw [tR Ao]
   refine bg 2 U<|RK Z<|ak fun _ AQ=>WS fun _ AR=>rP 1 [] I ?_
   refine RK AR<|ax ?_
   rw [show (gP l r rs fs)=((gP l r rs fs)++(hP l r B rs fs 0)) from (List.append_nil _).symm]
   rw [show E=E++[] from (List.append_nil _).symm]
   refine og ?_
   try dsimp only
   have C:(0≤r.aj.length+1)∧(([]:List kj).length=(hP l r B rs fs 0).length):=by exact ⟨Nat.zero_le _,rfl⟩
   have d:(vI ((0:Int)-1))=(vI (-1)):=by exact cI om
   refine bR (ι:={z:Nat×(OA)×Nat×(List kj) // (z.1≤r.aj.length+1)∧(z.2.2.2.length=(hP l r B rs fs z.1).length)}) [3,4,5,6,7,12,15] [1,2,3,4,5,6,7,8,9,10,11,12,14] U U (fun z=>[(11,(vS z.1.2.1 (((gP l r rs fs)++(hP l r B rs fs z.1.1)).length) z.1.2.2.1)),(16,(vI ((z.1.1:Int)-1)))]) (fun z=>[(bp (aS db.owns (hP l r B rs fs z.1.1) z.1.2.2.2)),(own z.1.2.1 z.1.2.2.1 236 3 (List.zipWith db.cells ((gP l r rs fs)++(hP l r B rs fs z.1.1)) (E++z.1.2.2.2)))]) (fun _=>rfl) (fun _=>rfl) (fun z=>r.aj.length+1-z.1.1) ⟨(0,oA,oC,([]:List kj)),C⟩ (dy.cons U<|bo U d<|dy.nil _) (aL [1,2,3,4,5,6,7,8,9,10,11,12,14,0,13]) ?_
   clear C
   rintro ⟨⟨j,M,N,azW⟩,⟨f,A⟩⟩ J33 O
   try dsimp only at f A
   try dsimp only
   have BH:=Ic (l:=l) (r:=r) (k:=B) (j:=j) (rs:=rs) (fs:=fs) AD om om
   refine ak fun _ AS=>WS fun _ AT=>rP 5 [] (mc 1 U I) ?_
   refine RK AT<|bS U (aP fun A1=>?_) (aQ fun A1=>?_)
   ·refine bB<|ae<|ae<|aA<|KK AQ<|WS fun _ AW=>bg 1 U<|rP 1 [] I ?_
    refine RK AW<|ar ?_
    refine Aj (C1:=[(own M N 236 3 (List.zipWith db.cells ((gP l r rs fs)++(hP l r B rs fs j)) (E++azW))),(bp LA),(bp (aS db.owns (hP l r B rs fs j) azW))]) hz [14,12,13] U U (by simp only [fI,List.all_nil,Bool.and_true,cR]; exact ⟨U,D.wr,o3 _ _⟩) ?_
    refine Jz (ra:=(rA,rC)) (fa:=(fA,fC)) (W:=g8 l r (B+1) rs fs) (A':=(own M N 236 3 (List.zipWith db.cells (g8 l r (B+1) rs fs) (E++azW)))) D (by rw [nk om,qH,show r.aj.length+1=j by omega]) U (by rw [nk om,qH,show r.aj.length+1=j by omega]) ?_
    refine LM hQ (M,N,(E++azW)) 0 [] I U (by show List.all _ _=true; rw [List.all_append,o3]; rfl) U ?_ ?_
    ·exact (by (rw [nk om,qH,show r.aj.length+1=j by omega]; rfl))
    ·rw [nk om,qH,show r.aj.length+1=j by omega]; simp only [List.length_append]; omega
   refine WK AS<|ak fun _ P=>ax<|ak fun _ AU=>dh cu 5 kr<|dP 5 [] (mc 1 U I) ?_
   refine cK<|RK AU ?_
   refine ob (ι:={z:Int×Int // ((z.1≤z.2→oS l r rs.length (fZ r.Start fs+ei l rs.length) ((j:Int)-1)=some z.1)∧(¬ z.1≤z.2→oS l r rs.length (fZ r.Start fs+ei l rs.length) ((j:Int)-1)=none))∧(r.Start≤z.1∧z.2≤r.gj)}) [3,4,5,6,7,11,12,15,16] [0,1,2,3,4,5,6,7,8,9,10,11,12,13,14] U U (fun z=>[(17,(vI z.1.1)),(18,(vI z.1.2))]) (fun z=>[]) (fun _=>rfl) (fun _=>rfl) ?_ fun K39 p=>?_
   ·rintro ⟨⟨tt,ee⟩,⟨BO,J⟩⟩
    try dsimp only at BO J
    try dsimp only
    have Ak:=BO
    have Bf:=J
    refine WS fun _ a=>rP 3 [] I ?_
    refine RK a<|bS U (aP fun BN=>?_) (aQ fun BN=>?_)
    ·refine cj<|aH<|KK P<|an<|rP 3 [] I ?_
     refine aF ?_
     have L:(hP l r B rs fs (j+1))=(hP l r B rs fs j):=by exact qn (Ak.2 BN)
     rw [← L]
     have Ah:(vI ((((j+1):Nat):Int)-1))=(vI (((j:Int)-1)+1)):=by exact cI om
     refine aT (O ⟨((j+1),M,N,azW),⟨om,by dsimp only; (rw [L]; exact A)⟩⟩ _ _ _ U os (cP 8<|bo U Ah<|dy.nil _) (aL [0,1,2,3,4,5,6,7,8,9,10,11,12,13,14]))
    refine RB (L':=[(3,(vS rA rs.length rC)),(4,(vS fA fs.length fC)),(5,(vP b2)),(6,(vP b3)),(7,(vP b4)),(11,(vS M (((gP l r rs fs)++(hP l r B rs fs j)).length) N)),(12,(vI (rs.length:Int))),(15,(vI ((fZ r.Start fs)+(ei l rs.length)))),(16,(vI ((j:Int)-1))),(17,(vI tt)),(18,(vI ee)),(123,(vI tt)),(124,(vI ee)),(125,(vB (decide (tt≤ee))))]) rfl<|pq cu [0,1,2,3,5,7,11,13] [4,6,8,9,10,12,14,15,16,17,18] [false,false,false,false,false,false,false,false] [] [(b_ b4 233 (il.cells (il.mk (aN.mk vwA ((cO l l.ag.length).length) vwC) (aN.mk vtA ((eU l r r.aj.length).length) vtC) (aN.mk vbA ((fj l r r.aj.length).length) vbC)))),(b_ b3 44 (eK.cells (mo r sgA sgC))),(b_ b2 28 (bJ.cells (ld l kA kC cA cC bA bC))),(bp [own rA rC 3 1 (rs.map iC),own fA fC 3 1 (fs.map iC)]).ro,(rd kA l.aJ.length 9 (l.aJ.map ao.cells)).ro,(rd cA l.ai.length 2 (List.zipWith au.cells l.ai az)).ro,(fc (aS au.gW l.ai az)).ro,(rd bA l.ag.length 4 (l.ag.map bG.cells)).ro,(rd sgA r.aj.length 2 (r.aj.map aO.cells)).ro,(rd vwA ((cO l l.ag.length).length) 1 ((cO l l.ag.length).map iC)).ro,(rd vtA ((eU l r r.aj.length).length) 2 ((eU l r r.aj.length).map aa.cells)).ro,(rd vbA ((fj l r r.aj.length).length) 1 ((fj l r r.aj.length).map pG)).ro,(bp LA),(bp (aS db.owns (hP l r B rs fs j) azW))] [] kr (aL [0,1,2,3,4,5,6,7,8,9,10,11,12,13]) (aL [])<|eS rfl (MV rfl)<|eS rfl (LW 2 rfl cm rfl rfl)<|eS rfl (LW 1 rfl cm rfl rfl)<|eS rfl (LW 0 rfl cm rfl rfl)<|eS rfl (MV rfl)<|eS rfl (MV rfl)<|eS rfl (MV rfl)<|eS rfl (MV rfl)<|e9 rfl<|Na [.take 4,.op 6,.take 8,.op 9,.take 10,.op 12,.take 14,.op 15,.op 16,.op 17,.op 18] [(133,(vI ((j:Int)-1))),(139,(vI tt))] (fun i=>match i with |4=>130|8=>134|10=>136|14=>140|_=>0) (fun i b=>match i with |4=> .slice (some ⟨b,0,none⟩) 0 0|8=> .slice (some ⟨b,0,none⟩) 1 1|10=> .slice (some ⟨b,0,none⟩) 0 0|14=> .slice (some ⟨b,0,none⟩) 1 1|_=>undef) (fun i b=>match i with |4=>b_ b 3 []|8=>b_ b 3 [(vI ((j:Int)-1))]|10=>b_ b 3 []|14=>b_ b 3 [(vI tt)]|_=>b_ b 0 []) rfl rfl rfl kr rfl rfl (aL [0,1,2,3,4,5,6,7,8,9,10,11,12,13]) (vz (IY rfl cJ rfl rfl (fun _=>rfl) fun _=>rfl)<|xQ<|vz (OI (xs:=[.tmp 133]) (cs:=[(vI ((j:Int)-1))]) rfl cJ jd rfl rfl rfl rfl (by simp [Value.cells]) rfl rfl rfl (fun _=>rfl) fun _=>rfl)<|xQ<|vz (IY rfl cJ rfl rfl (fun _=>rfl) fun _=>rfl)<|xQ<|vz (OI (xs:=[.tmp 139]) (cs:=[(vI tt)]) rfl cJ jd rfl rfl rfl rfl (by simp [Value.cells]) rfl rfl rfl (fun _=>rfl) fun _=>rfl)<|xQ<|xQ<|xQ<|xQ<|Po) ?_
    intro Av
    try dsimp only
    refine wb U fun Y X K hT=>dY (es:=(List.map iC [])) (C':=[own (some ⟨Av,0,none⟩) 0 3 1 (List.map iC []),_,_,_,_,_,_,_,_,_,_,_,_,_,_,_]++X) 0 U sm U (by simp [maxLen]) U ?_
    refine de (es2:=(List.map iC rs)) (m':=rs.length) 0 U U U pT U U sm (show iq _ (rd rA rs.length 1 (rs.map iC)).holds from (pd (c:=rC) (e:=3) 4 U sm sm)) (j6 _) (by first|omega|(simp; done)|(simp; omega)) (by (simp only [maxLen]; omega)) sm sm U fun BT BY=>?_
    try dsimp only
    refine rV hT 24 16 U U (fun w hs=>St.j_ [1,2,3,4,5,6,7,8,9,10,11,12,13,14] U U hs) U U ?_
    try dsimp only [List.take]
    intro BW
    try dsimp only
    refine wb U fun Y X K hT=>?_
    refine de (es2:=(List.map iC (rs++[(j:Int)-1]))) (m':=(rs++[(j:Int)-1]).length) 1 U U U pT U U sm (a_ (es:=List.map iC [((j:Int)-1)]) 0 U U (by simp [bK]) U) (j6 _) (by first|omega|(simp; done)|(simp; omega)) (by (simp only [maxLen]; omega)) sm sm U fun As Ax=>?_
    try dsimp only
    refine rV hT 26 17 U U (fun w hs=>St.j_ [2,3,4,5,6,7,8,9,10,11,12,13,14,15] U U hs) U U ?_
    try dsimp only [List.take]
    intro Aw
    try dsimp only
    refine wb U fun Y X K hT=>dY (es:=(List.map iC [])) (C':=[own (some ⟨Aw,0,none⟩) 0 3 1 (List.map iC []),_,_,_,_,_,_,_,_,_,_,_,_,_,_,_,_,_]++X) 0 U sm U (by simp [maxLen]) U ?_
    refine de (es2:=(List.map iC fs)) (m':=fs.length) 0 U U U pT U U sm (show iq _ (rd fA fs.length 1 (fs.map iC)).holds from (pd (c:=fC) (e:=3) 6 U sm sm)) (j6 _) (by first|omega|(simp; done)|(simp; omega)) (by (simp only [maxLen]; omega)) sm sm U fun BU BZ=>?_
    try dsimp only
    refine rV hT 28 18 U U (fun w hs=>St.j_ [3,4,5,6,7,8,9,10,11,12,13,14,15,16] U U hs) U U ?_
    try dsimp only [List.take]
    intro BX
    try dsimp only
    refine wb U fun Y X K hT=>?_
    refine de (es2:=(List.map iC (fs++[tt]))) (m':=(fs++[tt]).length) 1 U U U pT U U sm (a_ (es:=List.map iC [tt]) 0 U U (by simp [bK]) U) (j6 _) (by first|omega|(simp; done)|(simp; omega)) (by (simp only [maxLen]; omega)) sm sm U fun At Ay=>?_
    try dsimp only
    refine rV hT 30 19 U U (fun w hs=>St.j_ [4,5,6,7,8,9,10,11,12,13,14,15,16,17] U U hs) U U ?_
    try dsimp only [List.take]
    refine wb U fun Y X K hT=>?_
    have R:=Ak.1 BN
    refine xN<|qN 4 U ?_
    try dsimp only [List.eraseIdx]
    refine z5 U<|qN 2 U ?_
    try dsimp only [List.eraseIdx]
    refine z5 U ?_
    try dsimp only
    refine iN 0 rfl rfl rfl rfl (hrec B (rs++[(j:Int)-1]) As Ax (fs++[tt]) At Ay om (by simp only [List.length_append,List.length_singleton]; omega) (by simp only [List.length_append,List.length_singleton]; omega) (by rw [mQ]; omega) (by intro x hx; rcases List.mem_append.1 hx with hx|hx; exact hrs x hx; rw [List.mem_singleton.1 hx]; omega)) rfl (ed 7 rfl rfl (dC (bV _)) (ed 8 rfl rfl (dC (bV _)) (ed 9 rfl rfl (dC (bV _)) (ed 10 rfl rfl (dC (bV _)) (ed 11 rfl rfl (dC (bV _)) (ed 12 rfl rfl (dC (bV _)) (ed 13 rfl rfl (dC (bV _)) (ed 14 rfl rfl (dC (bV _)) j8)))))))) rfl (fun BM AE=>?_)
    obtain ⟨BR,BS,v⟩:=BM
    try dsimp only
    dsimp only at AE
    refine rV hT 31 18 U U (fun w hs=>St.j_ [3,4,5,6,7,8,9,10,11,12,13,14,15,16] U U hs) U U ?_
    try dsimp only [List.take]
    refine wb U fun Y X K hT=>qN 0 U ?_
    try dsimp only [List.eraseIdx]
    refine yl ?_
    have Bp:=uz (l:=l) (r:=r) (k:=B) (rs:=(rs++[(j:Int)-1])) (fs:=(fs++[tt])) AD om
    refine de (es2:=(List.zipWith db.cells ((gP l r rs fs)++(hP l r B rs fs (j+1))) (E++(azW++v)))) (m':=((gP l r rs fs)++(hP l r B rs fs (j+1))).length) 18 U U U OQ U U (sS (by simp only [List.length_append]; omega)).symm (al (n:=(g8 l r B (rs++[(j:Int)-1]) (fs++[tt])).length) 0 U (sS AE)) (CW _ _) (by simp only [List.length_append]; omega) (by simp only [List.length_append,maxLen]; omega) (by rw [mM R,← List.append_assoc,← List.append_assoc]; exact (Lj (by simp only [List.length_append]; omega)).symm) (sS (by rw [mM R]; simp only [List.length_append]; omega)) U fun Au Az=>?_
    try dsimp only
    refine rV hT 32 19 U U (fun w hs=>St.j_ [4,5,6,7,8,9,10,11,12,13,14,15,16,17] U U hs) U U ?_
    try dsimp only [List.take]
    refine wb U fun Y X K hT=>rS (AG U)<|rV hT 33 19 U U (fun w hs=>St.j_ [4,5,6,7,8,9,10,11,12,13,14,15,16,17] U U hs) U U ?_
    try dsimp only [List.take]
    refine aH<|KK P<|an<|rP 3 [] I ?_
    refine aF<|FK 1 U ?_
    try dsimp only [List.eraseIdx]
    refine FK 17 U ?_
    try dsimp only [List.eraseIdx]
    refine JW A ?_
    rw [← mM R]
    try dsimp only
    have Ag:(vI ((((j+1):Nat):Int)-1))=(vI (((j:Int)-1)+1)):=by exact cI om
    refine aT (O ⟨((j+1),Au,Az,(azW++v)),⟨om,by dsimp only; (rw [mM R,List.length_append,List.length_append,A,AE])⟩⟩ _ _ _ U os (cP 8<|bo U Ag<|dy.nil _) (aL [4,5,6,7,8,9,10,11,12,13,14,15,16,0,17]))
   refine WS fun _ a=>rP 2 [] I ?_
   refine RK a<|bS U (aP fun A5=>?_) (aQ fun A5=>?_)
   ·refine cj ?_
    refine aT (jA (aU U) (aL [0,1,2,3,4,5,6,7,8,9,10,11,12,13,14]) (p ⟨(((fZ r.Start fs)+(ei l rs.length)),r.gj),⟨by exact Iw om,om⟩⟩))
   refine ak fun _ AV=>WS fun _ u=>rP 3 [] (mc 1 U I) ?_
   obtain ⟨s,hs⟩:=aM r.aj ((((j:Int)-1)).toNat) om
   have BF:=bQ aO.cells hs
   refine rS (IA ((((j:Int)-1)).toNat) U (aB 8 U) zX dc om om)<|rS (mK (((((j:Int)-1)).toNat)*2) U (aB 8 U) (Nat.mul_pos om dc) fB U)<|rS (gh ((((j:Int)-1)).toNat) 0 (vI s.gl) U cm (aB 8 U) BF U dc U) ?_
   have Bj:=(hr.sig _ s hs).1
   refine rP 3 [] I ?_
   refine cw (t:=99) U (br fun AF=>?_) (bq fun AF=>?_)
   ·refine bg 7 U<|RK u<|aR U<|bB<|ae<|ae<|aA<|KK P<|an<|rP 3 [] I ?_
    refine aF ?_
    have L:(hP l r B rs fs (j+1))=(hP l r B rs fs j):=by exact qn (v7 om hs (fun q=>AF om))
    rw [← L]
    have Ae:(vI ((((j+1):Nat):Int)-1))=(vI (((j:Int)-1)+1)):=by exact cI om
    refine aT (O ⟨((j+1),M,N,azW),⟨om,by dsimp only; (rw [L]; exact A)⟩⟩ _ _ _ U os (cP 8<|bo U Ae<|dy.nil _) (aL [0,1,2,3,4,5,6,7,8,9,10,11,12,13,14]))
   refine rP 3 [] (mc 0 U I) ?_
   obtain ⟨bs,AC⟩:=aM (fj l r r.aj.length) ((((j:Int)-1)).toNat) om
   have Ai:=bQ pG AC
   refine rS (IA ((((j:Int)-1)).toNat) U (aB 11 U) OL dc om om)<|rS (gh ((((j:Int)-1)).toNat) 0 (vB bs) U cm (aB 11 U) Ai U dc U)<|rP 2 [] I ?_
   refine RK u<|cE U (fun F=>?_) (fun F=>?_)
   ·rw [Bool.not_eq_true'] at F
    refine bB<|ae<|ae<|aA<|KK P<|an<|rP 3 [] I ?_
    refine aF ?_
    have L:(hP l r B rs fs (j+1))=(hP l r B rs fs j):=by exact qn (v7 om hs (fun q=>by rw [(CR hs AC).2 q.2] at F; cases F))
    rw [← L]
    have Af:(vI ((((j+1):Nat):Int)-1))=(vI (((j:Int)-1)+1)):=by exact cI om
    refine aT (O ⟨((j+1),M,N,azW),⟨om,by dsimp only; (rw [L]; exact A)⟩⟩ _ _ _ U os (cP 8<|bo U Af<|dy.nil _) (aL [0,1,2,3,4,5,6,7,8,9,10,11,12,13,14]))
   rw [Bool.not_eq_false'] at F
   refine WK AV<|dh cu 18 kr<|dP 4 [] (mc 0 U I) ?_
   obtain ⟨z,hz⟩:=aM (eU l r r.aj.length) ((((j:Int)-1)).toNat) om
   have Aq:=bQ aa.cells hz
   refine dS (IA ((((j:Int)-1)).toNat) U (aB 10 U) jL dc om om)<|dS (mK (((((j:Int)-1)).toNat)*2) U (aB 10 U) (Nat.mul_pos om dc) fB U) ?_
   have Ar:=KV hs hz
   have BK:=xK l s
   rw [← Ar] at BK
   have BB:(cL l s).Lo≤(cL l s).Hi:=(CR hs AC).1 F
   refine dS (gh ((((j:Int)-1)).toNat) 0 (vI z.Lo) U cm (aB 10 U) Aq U dc U)<|dS (MX U)<|lJ 4 [] (mc 0 U I) U<|dS (IA ((((j:Int)-1)).toNat) U (aB 10 U) jL dc om om)<|dS (mK ((((((j:Int)-1)).toNat)*2)+1) U (aB 10 U) (Nat.mul_pos om dc) fB U)<|dS (gh ((((j:Int)-1)).toNat) 1 (vI z.Hi) U cm (aB 10 U) Aq U dc U)<|dS (MN U)<|dP 2 [] I ?_
   refine cK<|aF ?_
   refine aT (jA (aU U) (aL [0,1,2,3,4,5,6,7,8,9,10,11,12,13,14]) (p ⟨((max ((fZ r.Start fs)+(ei l rs.length)) z.Lo),(min r.gj z.Hi)),⟨by (rw [Ar]; exact LR om hs om BB),om⟩⟩))
  refine WS fun _ Z=>rP 2 [] I ?_
  refine RK Z<|bS U (aP fun A4=>?_) (aQ fun A4=>?_)
  ·refine cj ?_
   have Ac:(vI (fZ r.Start fs))=(vI r.Start):=by exact cI (by have e:fs=[]:=jz om; rw [e]; rfl)
   refine aT (jA (cP 7<|bo U Ac<|dy.nil _) (aL [0,1,2,3,4,5,6,7,8,9,10,11,12,13]) (o ()))
  refine an<|rP 3 [] I ?_
  obtain ⟨xf,Am⟩:=aM fs (rs.length-1) om
  have An:=bQ iC Am
  refine rS (IA (rs.length-1) U (show iq _ (rd fA fs.length 1 (fs.map iC)).holds from (pd (c:=fC) (e:=3) 3 U sm sm)) cJ dc om om)<|rS (gh (rs.length-1) 0 (vI xf) U cm (show iq _ (rd fA fs.length 1 (fs.map iC)).holds from (pd (c:=fC) (e:=3) 3 U sm sm)) An U dc U)<|rP 1 [] I ?_
  refine aF ?_
  have Ab:(vI (fZ r.Start fs))=(vI xf):=by exact cI (CZ _ _ _ (by rw [hfl]; exact Am))
  refine aT (jA (cP 7<|bo U Ab<|dy.nil _) (aL [0,1,2,3,4,5,6,7,8,9,10,11,12,13]) (o ()))
 refine WS fun _ V=>rP 8 [0,1] (mc 1 U (mc 2 U I)) ?_
 refine RK V<|bS U (aP fun G=>?_) (aQ fun G=>?_)
 ·refine cj<|Eg<|Hw 236 3 ?_
  rw [show (own none 0 236 3 [])=(own none 0 236 3 (List.zipWith db.cells (gP l r rs fs) [])) from by rw [xw G]; rfl]
  have Ad:(vS none ((gP l r rs fs).length) 0)=(vS none 0 0):=by first|rfl|(rw [xw G]; rfl)
  refine aT (jA (cP 6<|bo U Ad<|dy.nil _) (aL [2,3,4,5,6,7,8,9,10,11,12,13,0,1]) (m ⟨(none,0,[],[]),(by exact .inr ⟨G,U,U⟩)⟩))
 refine an<|rP 6 [0,1] (mc 1 U (mc 0 U I)) ?_
 refine cX (Ke r sgA sgC l vwA vwC vtA vtC vbA vbC rs rA rC hle hr om (by exact fun x hx h0=>(hrs x hx).2)) (lz [8,9,10,11]<|ay (show iq _ (rd rA rs.length 1 (rs.map iC)).holds from (pd (c:=rC) (e:=3) 3 U sm sm))<|aK) U fun BL BQ=>?_
 obtain ⟨S,T⟩:=BL
 try dsimp only
 refine rS (SX (bj (xs:=[(0,.tmp 48),(1,.tmp 49),(2,.tmp 53)]) (cs:=(xT.cells (xT.mk (aN.mk rA rs.length rC) (aN.mk fA fs.length fC) (aN.mk S ((jf l r rs).length) T)))) U U (bk SU U)) U U)<|cZ (xs:=[.tmp 54]) (cs:=(xT.cells (xT.mk (aN.mk rA rs.length rC) (aN.mk fA fs.length fC) (aN.mk S ((jf l r rs).length) T)))) U Ge Sf U U U U (by simp [Value.cells,xT.aW]) U U fun BV=>dM 236 3 ?_
 refine de (es2:=(List.zipWith db.cells (gP l r rs fs) ([((rA,rC),(fA,fC),(S,T))]))) (m':=(gP l r rs fs).length) 0 rfl rfl rfl OQ rfl rfl rfl (a_ (es:=List.zipWith db.cells [(db.mk rs fs (jf l r rs))] [((rA,rC),(fA,fC),(S,T))]) 1 rfl rfl (by intro e he; simp at he; subst he; rfl) rfl) (CW _ _) dc dc (by rw [yP G]; rfl) (by rw [yP G]; rfl) rfl fun y AA=>?_
 try dsimp only
 refine xN<|Ox 0 3 U U U ?_
 try dsimp only
 refine rP 1 [] I ?_
 refine aF ?_
 have d:(vS y ((gP l r rs fs).length) AA)=(vS y ((gP l r rs fs).length) AA):=by first|rfl|(rw [xw G]; rfl)
 refine aT (jA (cP 6<|bo U d<|dy.nil _) (aL [3,4,5,6,7,8,9,10,11,12,13,14,1,0]) (m ⟨(y,AA,[((rA,rC),(fA,fC),(S,T))],[(own S T 3 1 ((jf l r rs).map iC))]),(by exact .inl ⟨G,_,U,U⟩)⟩))
theorem Qy (l:bf) (kA:OA) (kC:Nat) (az:List RA) (cA:OA) (cC:Nat) (bA:OA) (bC:Nat) (r:cG) (sgA:OA) (sgC:Nat) (vwA:OA) (vwC:Nat) (vtA:OA) (vtC:Nat) (vbA:OA) (vbC k:Nat) (rs:List Int) (rA:OA) (rC:Nat) (fs:List Int) (fA:OA) (fC:Nat) (hin:eE l az) (hle:dx l=0) (hr:fm l r) (hk:rs.length+k=l.ag.length) (hfl:fs.length=rs.length) (hst:r.Start≤fZ r.Start fs∧fZ r.Start fs≤r.gj) (hrs: ∀ x∈rs,-1≤x∧x<(r.aj.length:Int)):
 Da Tryz.prog 164 [(vA (bJ.cells (ld l kA kC cA cC bA bC))),(vA (eK.cells (mo r sgA sgC))),(vA (il.cells (il.mk (aN.mk vwA ((cO l l.ag.length).length) vwC) (aN.mk vtA ((eU l r r.aj.length).length) vtC) (aN.mk vbA ((fj l r r.aj.length).length) vbC)))),(vS rA rs.length rC),(vS fA fs.length fC)] [(rd kA l.aJ.length 9 (l.aJ.map ao.cells)),(rd cA l.ai.length 2 (List.zipWith au.cells l.ai az)),(fc (aS au.gW l.ai az)),(rd bA l.ag.length 4 (l.ag.map bG.cells)),(rd sgA r.aj.length 2 (r.aj.map aO.cells)),(rd vwA ((cO l l.ag.length).length) 1 ((cO l l.ag.length).map iC)),(rd vtA ((eU l r r.aj.length).length) 2 ((eU l r r.aj.length).map aa.cells)),(rd vbA ((fj l r r.aj.length).length) 1 ((fj l r r.aj.length).map pG))] (bp [own rA rC 3 1 (rs.map iC),own fA fC 3 1 (fs.map iC)]) (fun (x:(OA)×Nat×(List kj))=>(vS x.1 ((g8 l r k rs fs).length) x.2.1)) (fun (x:(OA)×Nat×(List kj))=>x.2.2.length=(g8 l r k rs fs).length) (fun (x:(OA)×Nat×(List kj))=>(bp (aS db.owns (g8 l r k rs fs) x.2.2++[own x.1 x.2.1 236 3 (List.zipWith db.cells (g8 l r k rs fs) x.2.2)]))):=by
 induction k using Nat.strongRecOn generalizing rs rA rC fs fA fC with
 |ind k ih=>exact Gw l kA kC az cA cC bA bC r sgA sgC vwA vwC vtA vtC vbA vbC k rs rA rC fs fA fC hin hle hr hk hfl hst hrs (fun L F D E C A B G H AA J K=>ih L G F D E C A B H AA J K)
end
section
open Go.RowKit
theorem Oa (l:bf) (kA:OA) (kC:Nat) (az:List RA) (cA:OA) (cC:Nat) (bA:OA) (bC:Nat) (r:cG) (sgA:OA) (sgC:Nat) (hin:eE l az) (hsl:r.aj.length≤1000000):
 lq Tryz.prog 154 [(vA (bJ.cells (ld l kA kC cA cC bA bC))),(vA (eK.cells (mo r sgA sgC)))] [(rd kA l.aJ.length 9 (l.aJ.map ao.cells)),(rd cA l.ai.length 2 (List.zipWith au.cells l.ai az)),(fc (aS au.gW l.ai az)),(rd bA l.ag.length 4 (l.ag.map bG.cells)),(rd sgA r.aj.length 2 (r.aj.map aO.cells))] (fun (x:Bool×Int×(OA)×Nat×(List kj))=>bif x.1 then (vT [(vS x.2.2.1 ((pR l r).length) x.2.2.2.1),(vI 0)]) else (vT [(vS none 0 0),(vI x.2.1)])) (fun (x:Bool×Int×(OA)×Nat×(List kj))=>(x.1=true→(eH l r 0=0∧x.2.2.2.2.length=(pR l r).length))∧(x.1=false→(x.2.1=eH l r 0∧ ¬ eH l r 0=0))) (fun (x:Bool×Int×(OA)×Nat×(List kj))=>bif x.1 then [(own x.2.2.1 x.2.2.2.1 236 3 (List.zipWith db.cells (pR l r) x.2.2.2.2)),(bp (aS db.owns (pR l r) x.2.2.2.2))] else []):=by
 have k:=hin.si
 have j:=hin.sh
 have h:=hin.nO
 have i:=hin.sf
 refine dv kr Tryz.func154 U U fun o Q hQ hN=>?_
 try dsimp only
 refine WS fun _ X=>fU U fun m=>fU U fun n=>bg 2 U<|RK X<|ak fun _ Y=>WS fun _ Z=>fF 1 [] (mc 1 U I) U<|rS (CL (Bp l kA kC az cA cC bA bC hin) (bh [2,3,4,5]) U)<|bg 1 U<|RK Z<|WS fun _ a=>rP 2 [] I ?_
 refine RK a<|cE U (br fun A=>?_) (bq fun A=>?_)
 ·refine WS fun _ b=>rP 3 [] I ?_
  refine RK b<|ar<|LX hQ (false,(dx l),none,0,[]) [] [] I U (by rfl) U U ?_
  exact rf<|Jj (nY (r:=r) (me:=0) A) A
 refine WK Y<|ak fun _ c=>WS fun _ d=>fF 2 [0,1] (mc 1 U (mc 0 U I)) U<|rS (CL (NL l kA kC az cA cC bA bC r sgA sgC hin (by exact hsl)) (bh [2,3,4,5,6]) U)<|rP 1 [] I ?_
 refine RK d<|cE U (br fun B=>?_) (bq fun B=>?_)
 ·refine WS fun _ D=>rP 2 [] I ?_
  refine RK D<|ar<|LX hQ (false,51,none,0,[]) [] [] I U (by rfl) U U ?_
  exact rf<|pO (jc (me:=0) A B)
 refine WK c<|ak fun _ E=>dL cu [4,5,6] [] [] [0,1,2,3,4,5,6] [] U U U U U<|eS U (LW 1 U cm U U)<|eS U (LW 0 U cm U U)<|eS U (LW 1 U cm U U)<|eS U (LW 0 U cm U U)<|e9 U<|cq U fun T12 J=>cX (Nw l kA kC az cA cC bA bC r sgA sgC hin (by exact A) (by exact B)) (bh [2,3,4,5,6]) U fun e g=>?_
 obtain ⟨V,W,T,AA,R,S⟩:=e
 try dsimp only
 refine aF (J _ _ (aL [3,4,5,6,7,8,9]) ?_)
 refine cq U fun T21 K=>dM 3 1<|dM 3 1<|xN<|qN 1 U ?_
 try dsimp only [List.eraseIdx]
 refine z5 U<|qN 1 U ?_
 try dsimp only [List.eraseIdx]
 refine z5 U ?_
 try dsimp only
 refine iN 0 rfl rfl rfl rfl (Qy l kA kC az cA cC bA bC r sgA sgC V W T AA R S l.ag.length ([]:List Int) none 0 ([]:List Int) none 0 hin (by exact A) (by exact B) sm (by rfl) (by exact ⟨Int.le_refl _,B.time.2.1⟩) (by intro x hx; cases hx)) rfl (ed 6 rfl rfl (dC (bV _)) (ed 7 rfl rfl (dC (bV _)) (ed 8 rfl rfl (dC (bV _)) (ed 9 rfl rfl (dC (bV _)) (ed 10 rfl rfl (dC (bV _)) (ed 1 rfl rfl (jY sm) (ed 2 rfl rfl (jY sm) (ed 3 rfl rfl (jY sm) j8)))))))) rfl (fun f M=>?_)
 obtain ⟨N,O,P⟩:=f
 try dsimp only
 refine aF (K _ _ (aL [4,5,6,7,8,9,10]) ?_)
 refine cq U fun T26 L=>qN 0 U ?_
 try dsimp only [List.eraseIdx]
 refine yl ?_
 dsimp only at M
 refine rS (AG U)<|aF (L _ _ (aL [5,6,7,8,9,10,11]) ?_)
 refine fO U<|KK E<|ak fun _ F=>WS fun _ G=>rP 3 [] I ?_
 refine RK G<|bS U (aP fun C=>?_) (aQ fun C=>?_)
 ·refine WK F<|WS fun _ AB=>rP 3 [] I ?_
  refine RK AB<|ar ?_
  refine LX hQ (true,0,N,O,P) [0,1] [] I U (by (show List.all _ _=true; simp only [cond_true,fI,List.all_nil,IJ,Bool.and_true]; rfl)) U U ?_
  exact ⟨fun _=>⟨lD A B U fun q=>C (by rw [show g8 l r l.ag.length [] []=[] from (fM A B).2 q]; rfl),M⟩,Nh⟩
 refine WS fun _ H=>rP 2 [] I ?_
 refine RK H<|ar<|LX hQ (false,8,none,0,[]) [] [] I U (by rfl) U U ?_
 exact rf<|pO (o6 (me:=0) A B U ((fM A B).1 (jz (Int.natCast_eq_zero.1 C))))
theorem Hv (ws:List db) (wz:List kj) (wA:OA) (wC b:Nat) (hws:N6 ws) (hwz:wz.length=ws.length) (hb:b≤6):
 d_ Tryz.prog 155 [(vS wA ws.length wC),(vI (b:Int))] [(rd wA ws.length 3 (List.zipWith db.cells ws wz)),(fc (aS db.gW ws wz))] (vT [(vA (aa.cells (pc ws b))),(vI (o2 ws b))]):=by
 have u:=hws.num
 refine bE kr Tryz.func155 U U fun x Q hQ hN=>?_
 try dsimp only
 refine WS fun _ g=>AL U di fun w=>bg 1 U<|RK g<|WS fun _ h=>AL U di fun t=>RK h<|WS fun _ j=>bg 1 U<|RK j<|ak fun _ k=>WS fun _ l=>rP 1 [] I ?_
 refine RK l<|ax ?_
 have D:(0≤ws.length)∧(m7 b (ws.take 0) false (aa.mk 0 0)):=by exact ⟨Nat.zero_le _,GR⟩
 refine bR (ι:={z:Nat×Bool×aa // (z.1≤ws.length)∧(m7 b (ws.take z.1) z.2.1 z.2.2)}) [0,1,4,5,6] [1,2,3] U U (fun z=>[(7,(vB z.1.2.1)),(8,(vI (z.1.1:Int)))]) (fun z=>[(b_ t 38 (aa.cells z.1.2.2))]) (fun _=>rfl) (fun _=>rfl) (fun z=>ws.length-z.1.1) ⟨(0,false,(aa.mk 0 0)),D⟩ (aU U) (aL [1,2,3,0]) ?_
 clear D
 rintro ⟨⟨i,fd,o⟩,⟨J,A⟩⟩ J8 H
 try dsimp only at J A
 try dsimp only
 refine ak fun _ m=>WS fun _ L=>rP 4 [] I ?_
 refine RK L<|bS U (aP fun c=>?_) (aQ fun c=>?_)
 ·refine bB<|ae<|ae<|aA<|KK k<|ak fun _ R=>WS fun _ S=>rP 2 [] I ?_
  refine RK S<|bS U (fun B=>?_) (fun B=>?_)
  ·rw [Bool.not_eq_false'] at B
   refine WK R<|WS fun _ AA=>fF 1 [] (mc 3 U I) U<|fW U cv U<|rP 1 [] I ?_
   refine RK AA<|ar<|lf hQ [0] (mc 0 U I) U ?_
   have AB:=yQ (by have q:=A; rwa [List.take_of_length_le om] at q) hws.Fg
   (have q:=AB.2 B; rw [q.1,q.2]; done)
  rw [Bool.not_eq_true'] at B
  refine WS fun _ T=>rS (SX (bj (xs:=[]) (cs:=(aa.cells (aa.mk 0 0))) U U (bk gv U)) U U)<|fW U cv U<|rP 1 [] I ?_
  refine RK T<|ar<|lf hQ [0] (mc 0 U I) U ?_
  have AB:=yQ (by have q:=A; rwa [List.take_of_length_le om] at q) hws.Fg
  (have q:=AB.1 B; rw [q.1,q.2]; done)
 refine WK m<|ak fun _ C=>ax<|ak fun _ M=>WS fun _ N=>rP 2 [] I ?_
 obtain ⟨y,hy⟩:=aM ws i om
 obtain ⟨ya,E⟩:=aM wz i om
 have K:(List.zipWith db.cells ws wz)[i]? =some (db.cells y ya):=dB hy E
 refine rS (IA i U (aB 1 U) Ge dc om om)<|rS (mK (i*3) U (aB 1 U) (Nat.mul_pos om dc) fB U)<|rS (gh i 0 (vS ya.1.1 y.gD.length ya.1.2) U cm (aB 1 U) K U dc U)<|rP 3 [] I ?_
 refine RK N<|cE U (aQ fun d=>?_) (aP fun d=>?_)
 ·refine bB<|ae<|aA<|KK C<|an<|rP 3 [] I ?_
  refine aF ?_
  have X:(vI (((i+1):Nat):Int))=(vI ((i:Int)+1)):=by exact cI om
  refine aT (H ⟨((i+1),fd,o),⟨om,by dsimp only; rw [lE hy]; exact DV A om⟩⟩ _ _ _ U os (cP 6<|bo U X<|dy.nil _) (aL [0,1,2,3]))
 refine WK M<|ak fun _ O=>dL cu [17,18] [] [] [0,1,2,3] [] U U U U U ?_
 have v:=hws.lens y (aV hy)
 obtain ⟨s,hs⟩: ∃ s,y.gD[b]? =some s:=⟨y.gD[b]'om,ff _⟩
 refine eS U (MV U)<|eS U (MV U)<|eS U (IA i U (aB 1 U) Ge dc om om)<|eS U (mK ((i*3)+1) U (aB 1 U) (Nat.mul_pos om dc) fB U)<|eS U (gh i 1 (vS ya.2.1.1 y.iE.length ya.2.1.2) U cm (aB 1 U) K U dc U)<|eS U (MV U) ?_
 obtain ⟨f,hf⟩:=aM y.iE b om
 have p:=bQ iC hf
 refine eS U (IA b U (show iq _ (rd ya.2.1.1 y.iE.length 1 (y.iE.map iC)).holds from (cT 2 U (bT hy E (by simp [db.gW])))) cJ dc om om)<|eS U (gh b 0 (vI f) U cm (show iq _ (rd ya.2.1.1 y.iE.length 1 (y.iE.map iC)).holds from (cT 2 U (bT hy E (by simp [db.gW])))) p U dc U)<|eS U (MV U)<|eS U (MV U)<|eS U (IA i U (aB 1 U) Ge dc om om)<|eS U (mK ((i*3)+2) U (aB 1 U) (Nat.mul_pos om dc) fB U)<|eS U (gh i 2 (vS ya.2.2.1 y.lv.length ya.2.2.2) U cm (aB 1 U) K U dc U)<|eS U (MV U) ?_
 obtain ⟨e,he⟩:=aM y.lv b om
 have n:=bQ iC he
 refine eS U (IA b U (show iq _ (rd ya.2.2.1 y.lv.length 1 (y.lv.map iC)).holds from (cT 2 U (bT hy E (by simp [db.gW])))) cJ dc om om)<|eS U (gh b 0 (vI e) U cm (show iq _ (rd ya.2.2.1 y.lv.length 1 (y.lv.map iC)).holds from (cT 2 U (bT hy E (by simp [db.gW])))) n U dc U)<|eS U (SX (bj (xs:=[(0,.tmp 31),(1,.tmp 39)]) (cs:=(aa.cells (aa.mk f e))) U U (bk gv U)) U U)<|e9 U<|cq U fun T17 V=>AL U di fun r=>aF (V _ _ (aL [1,2,3,4]) ?_)
 refine cq U fun T19 W=>fW U cv U<|aF (W _ _ (aL [1,2,3,4]) ?_)
 refine fO U<|KK O<|ak fun _ F=>WS fun _ P=>?_
 have a:=hws.le y (aV hy) b f e om hf he
 refine rP 1 [] I ?_
 refine RK P<|bS U (fun G=>?_) (fun G=>?_)
 ·refine WK F<|an<|fF 1 [] (mc 0 U I) U<|O5 U cv U<|bg 1 U<|aF<|aH<|KK C<|an<|rP 3 [] I ?_
  refine aF ?_
  have Z:(vI (((i+1):Nat):Int))=(vI ((i:Int)+1)):=by exact cI om
  refine aT (H ⟨((i+1),true,(aa.mk f e)),⟨om,by dsimp only; rw [lE hy]; exact BW A G hs hf he a⟩⟩ _ _ _ U os (cP 6<|bo U Z<|dy.nil _) (aL [1,2,3,4]))
 refine an<|fF 4 [0,1] (mc 0 U (mc 4 U I)) U<|rS (MN U)<|fF 4 [0,1] (mc 0 U (mc 4 U I)) U<|rS (MX U)<|rS (SX (bj (xs:=[(0,.tmp 46),(1,.tmp 51)]) (cs:=(aa.cells (aa.mk (min f o.Lo) (max e o.Hi)))) U U (bk gv U)) U U)<|fW U cv U<|RK F<|an<|fF 1 [] (mc 0 U I) U<|O5 U cv U<|bg 1 U<|aF<|aH<|KK C<|an<|rP 3 [] I ?_
 refine aF ?_
 have Y:(vI (((i+1):Nat):Int))=(vI ((i:Int)+1)):=by exact cI om
 refine aT (H ⟨((i+1),true,(aa.mk (min f o.Lo) (max e o.Hi))),⟨om,by dsimp only; rw [lE hy]; exact DW A G hs hf he a⟩⟩ _ _ _ U os (cP 6<|bo U Y<|dy.nil _) (aL [1,2,3,4]))
end
section
open Go.RowKit
theorem PR (l:bf) (kA:OA) (kC:Nat) (az:List RA) (cA:OA) (cC:Nat) (bA:OA) (bC:Nat) (r:cG) (sgA:OA) (sgC:Nat) (hin:eE l az) (hsl:r.aj.length≤1000000):
 d_ Tryz.prog 138 [(vA (bJ.cells (bJ.mk (aZ.mk (aN.mk kA l.aJ.length kC)) l.dG (aN.mk cA l.ai.length cC) (aN.mk bA l.ag.length bC) l.bI l.cy l.bL))),(vA (eK.cells (mo r sgA sgC)))] [(rd kA l.aJ.length 9 (l.aJ.map ao.cells)),(rd cA l.ai.length 2 (List.zipWith au.cells l.ai az)),(fc (aS au.gW l.ai az)),(rd bA l.ag.length 4 (l.ag.map bG.cells)),(rd sgA r.aj.length 2 (r.aj.map aO.cells))] (vT [(vA (aa.cells (Aw l r))),(vI (eV l r l.bI))]):=by
 have q:=hin.si
 have j:=hin.sh
 have h:=hin.nO
 have i:=hin.sf
 refine bE kr Tryz.func138 U U fun y Q hQ hN=>?_
 try dsimp only
 refine WS fun _ Z=>fU U fun v=>fU U fun w=>AL U di fun x=>bg 1 U<|RK Z<|WS fun _ P=>rP 2 [0,1] (mc 2 U (mc 1 U I)) ?_
 refine cX (Oa l kA kC az cA cC bA bC r sgA sgC hin hsl) (bh [3,4,5,6,7]) U fun u V=>?_
 obtain ⟨W,g,e,Y,X⟩:=u
 cases W
 ·obtain ⟨R,he⟩:=V.2 rfl
  try dsimp only at R he
  subst R
  try dsimp only [cond_true,cond_false,List.cons_append,List.nil_append]
  refine bg 5 U<|RK P<|ak fun _ d=>WS fun _ G=>rP 2 [] I ?_
  refine RK G<|bS U (bq fun F=>?_) (br fun F=>?_)
  ·exact absurd F he
  refine WS fun _ H=>rS (SX (bj (xs:=[]) (cs:=(aa.cells (aa.mk 0 0))) U U (bk gv U)) U U)<|bg 1 U<|fW U cv U<|rP 1 [] I ?_
  refine RK H<|ar<|lf hQ [0] (mc 0 U I) U ?_
  (rw [Er (fun z=>he ((vj he).symm.trans z)),vj he]<;>rfl)
 obtain ⟨he,C⟩:=V.1 rfl
 try dsimp only [cond_true,cond_false,List.cons_append,List.nil_append]
 try dsimp only at he C
 obtain ⟨T,E,_,k⟩:=jM he
 obtain ⟨s,c⟩:=gK T
 have a:=c.head
 unfold gr at a
 have AA:=Qe T E
 have t:=AA.num
 have o:=E.len
 have p:=E.time
 refine bg 5 U<|RK P<|ak fun _ AB=>WS fun _ J=>rP 1 [] I ?_
 refine rS (SX (cb (r:= .bool false) U U U lj) U U)<|RK J<|aX U<|WK AB<|ak fun _ K=>?_
 obtain ⟨b,S⟩: ∃ b:Nat,l.bI=(b:Int):=⟨l.bI.toNat,om⟩
 have A:=Kc he (b:=b) om
 rw [← S] at A
 rw [S]
 refine an<|fF 3 [] (mc 4 U I) U<|rS (CL (Hv (pR l r) X e Y b (by exact AA) (by exact C) om) (ay (al (n:=(pR l r).length) 0 U (sS C))<|ay (dR 1 U Nk)<|aK) U)<|bg 3 U<|AL U di fun f=>fW U cv U<|bg 1 U<|RK K<|ak fun _ L=>WS fun _ M=>rP 2 [] I ?_
 refine RK M<|cE U (br fun B=>?_) (bq fun B=>?_)
 ·refine WS fun _ N=>rS (SX (bj (xs:=[]) (cs:=(aa.cells (aa.mk 0 0))) U U (bk gv U)) U U)<|bg 1 U<|Ty U cv U<|rP 1 [] I ?_
  refine RK N<|ar<|lf hQ [0] (mc 3 U I) U ?_
  (rw [Er (fun z=>B (A.1.trans z)),← A.1]<;>rfl)
 refine WK L<|ak fun _ O=>?_
 have D:eV l r l.bI=0:=A.1.symm.trans B
 have m:=wV D
 rw [A.2]
 refine an<|fF 10 [0,1,0,1] (mc 0 U (mc 4 U I)) U<|rS (SX (bj (xs:=[(0,.tmp 34),(1,.tmp 39)]) (cs:=(aa.cells (aa.mk (((e7 l r l.bI).Lo)-r.Start) (((e7 l r l.bI).Hi)-r.Start)))) U U (bk gv U)) U U)<|Ty U cv U<|rP 1 [] I ?_
 refine RK O<|ar<|lf hQ [0] (mc 3 U I) U ?_
 (rw [AK D,D])
end
section
open Go.RowKit
theorem DO (l:bf) (kA:OA) (kC:Nat) (az:List RA) (cA:OA) (cC:Nat) (bA:OA) (bC:Nat) (d:aw) (sgA:OA) (sgC:Nat) (hin:eE l az) (hle:dx l=0) (hsl:d.cz.aj.length≤1000000) (hk:d.Out=true):
 d_ Tryz.prog 107 [(vA (bJ.cells (ld l kA kC cA cC bA bC))),(vA (bw.cells (bw.mk d.Out d.eO d.Time (mo d.cz sgA sgC))))] [(rd kA l.aJ.length 9 (l.aJ.map ao.cells)),(rd cA l.ai.length 2 (List.zipWith au.cells l.ai az)),(fc (aS au.gW l.ai az)),(rd bA l.ag.length 4 (l.ag.map bG.cells)),(rd sgA d.cz.aj.length 2 (d.cz.aj.map aO.cells))] (vT [(vA (aa.cells (oT l d))),(vB (decide (ic l d)))]):=by
 have K:=hin.si
 have J:=hin.sh
 have H:=hin.nO
 have AA:=hin.sf
 refine bE kr Tryz.func107 U U fun O Q hQ hN=>?_
 try dsimp only
 refine WS fun _ B=>fU U fun L=>fU U fun M=>AL U di fun N=>bg 1 U<|RK B<|ak fun _ E=>ax<|WS fun _ C=>rP 3 [] (mc 1 U I) ?_
 refine RK C<|bS U (fun G=>?_) (fun G=>?_)
 ·exact absurd ((hk).symm.trans G) dc
 refine WS fun _ A=>rS (SX (bj (xs:=[]) (cs:=(aa.cells (aa.mk 0 0))) U U (bk gv U)) U U)<|rP 4 [] (mc 1 U I) ?_
 refine cf (t:=15) U (fun D=>?_) (fun D=>?_)
 ·rw [Bool.not_eq_false'] at D
  refine bg 10 U<|fW U cv U<|rP 1 [] I ?_
  refine RK A<|ar<|lf hQ [0] (mc 0 U I) U ?_
  clear hQ hN A C E B
  rw [Au hk]
  simp only [pW hk]
  refine congrArg (fun z=>Value.tuple #[_,vB z]) ?_
  first|rfl|(simp_all [dA]; done)
 rw [Bool.not_eq_true'] at D
 refine bg 1 U<|rS (LP (aa.cells d.Time) 1 U cm U U U)<|rS (SX (bj (xs:=[]) (cs:=(aa.cells (aa.mk 0 0))) U U (bk gv U)) U U)<|rS (BI U (sT _ _ d.Time (aa.mk 0 0)))<|rP 2 [] I ?_
 refine cf (t:=21) U (aP fun F=>?_) (aQ fun F=>?_)
 ·refine bg 4 U<|fW U cv U<|rP 1 [] I ?_
  refine RK A<|ar<|lf hQ [0] (mc 0 U I) U ?_
  clear hQ hN A C E B
  rw [Au hk]
  simp only [pW hk]
  refine congrArg (fun z=>Value.tuple #[_,vB z]) ?_
  first|rfl|(simp_all [dA]; done)
 refine bg 1 U<|rS (LP (eK.cells (mo d.cz sgA sgC)) 1 U cm U U U)<|rS (CL (FG d.cz sgA sgC) (bh [7]) U)<|bg 1 U<|fW U cv U<|rP 1 [] I ?_
 refine RK A<|ar<|lf hQ [0] (mc 0 U I) U ?_
 clear hQ hN A C E B
 rw [Au hk]
 simp only [pW hk]
 refine congrArg (fun z=>Value.tuple #[_,vB z]) ?_
 first|rfl|(simp_all [dA]; done)
theorem De (l:bf) (kA:OA) (kC:Nat) (az:List RA) (cA:OA) (cC:Nat) (bA:OA) (bC:Nat) (d:aw) (sgA:OA) (sgC:Nat) (hin:eE l az) (hle:dx l=0) (hsl:d.cz.aj.length≤1000000) (hk:d.Out=false∧d.eO=true):
 d_ Tryz.prog 107 [(vA (bJ.cells (ld l kA kC cA cC bA bC))),(vA (bw.cells (bw.mk d.Out d.eO d.Time (mo d.cz sgA sgC))))] [(rd kA l.aJ.length 9 (l.aJ.map ao.cells)),(rd cA l.ai.length 2 (List.zipWith au.cells l.ai az)),(fc (aS au.gW l.ai az)),(rd bA l.ag.length 4 (l.ag.map bG.cells)),(rd sgA d.cz.aj.length 2 (d.cz.aj.map aO.cells))] (vT [(vA (aa.cells (oT l d))),(vB (decide (ic l d)))]):=by
 have N:=hin.si
 have M:=hin.sh
 have K:=hin.nO
 have L:=hin.sf
 refine bE kr Tryz.func107 U U fun S Q hQ hN=>?_
 try dsimp only
 refine WS fun _ D=>fU U fun O=>fU U fun P=>AL U di fun R=>bg 1 U<|RK D<|ak fun _ H=>ax<|WS fun _ E=>rP 3 [] (mc 1 U I) ?_
 refine RK E<|cE U (fun J=>?_) (fun J=>?_)
 ·exact absurd ((hk.1).symm.trans J) dc
 refine WS fun _ F=>rP 3 [] (mc 1 U I) ?_
 refine RK F<|bS U (fun G=>?_) (fun G=>?_)
 ·exact absurd ((hk.2).symm.trans G) dc
 refine ak fun _ B=>dL cu [10] [] [] [1,2,3,4,5,6,7] [] U U U U U<|eS U (FA 2 U fB U)<|eS U (LP (aa.cells d.Time) 0 U cm U U U)<|eS U (FA 2 U fB U)<|eS U (LP (aa.cells d.Time) 0 U cm U U U)<|eS U (CL (N3 d.Time) (aK) U)<|eS U (MV U)<|qM (t:=34) U (fun A=>?_) (fun A=>?_)
 rotate_left 1
 ·replace A:=DF A
  refine eS U (OX U)<|eS U (OX U)<|eS U (OX U)<|eS U (PK U)<|eS U (AG U)<|e9 U<|cq U fun T10 C=>fW U cv U<|aF (C _ _ (aL [1,2,3,4,5,6,7]) ?_)
  refine fO U<|KK B<|ar<|lf hQ [0] (mc 0 U I) U ?_
  clear hQ hN C T10 B F E H D
  rw [FZ hk]
  simp only [sQ hk]
  refine congrArg (fun z=>Value.tuple #[_,vB z]) ?_
  first|rfl|(simp_all; done)
 replace A:=DT A
 refine eS U (FA 4 U fB U)<|eS U (LP (eK.cells (mo d.cz sgA sgC)) 0 U cm U U U)<|eS U (CL (FG d.cz sgA sgC) (bh [6]) U)<|eS U (PK U)<|eS U (AG U)<|e9 U<|cq U fun T9 AA=>fW U cv U<|aF (AA _ _ (aL [1,2,3,4,5,6,7]) ?_)
 refine fO U<|KK B<|ar<|lf hQ [0] (mc 0 U I) U ?_
 clear hQ hN AA T9 B F E H D
 rw [FZ hk]
 simp only [sQ hk]
 refine congrArg (fun z=>Value.tuple #[_,vB z]) ?_
 first|rfl|(simp_all; done)
theorem Ef (l:bf) (kA:OA) (kC:Nat) (az:List RA) (cA:OA) (cC:Nat) (bA:OA) (bC:Nat) (d:aw) (sgA:OA) (sgC:Nat) (hin:eE l az) (hle:dx l=0) (hsl:d.cz.aj.length≤1000000) (hk:d.Out=false∧d.eO=false):
 d_ Tryz.prog 107 [(vA (bJ.cells (ld l kA kC cA cC bA bC))),(vA (bw.cells (bw.mk d.Out d.eO d.Time (mo d.cz sgA sgC))))] [(rd kA l.aJ.length 9 (l.aJ.map ao.cells)),(rd cA l.ai.length 2 (List.zipWith au.cells l.ai az)),(fc (aS au.gW l.ai az)),(rd bA l.ag.length 4 (l.ag.map bG.cells)),(rd sgA d.cz.aj.length 2 (d.cz.aj.map aO.cells))] (vT [(vA (aa.cells (oT l d))),(vB (decide (ic l d)))]):=by
 have O:=hin.si
 have N:=hin.sh
 have L:=hin.nO
 have M:=hin.sf
 refine bE kr Tryz.func107 U U fun AA Q hQ hN=>?_
 try dsimp only
 refine WS fun _ E=>fU U fun P=>fU U fun R=>AL U di fun S=>bg 1 U<|RK E<|ak fun _ F=>ax<|WS fun _ G=>rP 3 [] (mc 1 U I) ?_
 refine RK G<|cE U (fun K=>?_) (fun K=>?_)
 ·exact absurd ((hk.1).symm.trans K) dc
 refine WS fun _ H=>rP 3 [] (mc 1 U I) ?_
 refine RK H<|cE U (fun J=>?_) (fun J=>?_)
 ·exact absurd ((hk.2).symm.trans J) dc
 refine cj<|aH<|KK F<|WS fun _ AB=>fF 2 [] (mc 2 U I) U<|rS (LP (eK.cells (mo d.cz sgA sgC)) 1 U cm U U U)<|rS (CL (PR l kA kC az cA cC bA bC d.cz sgA sgC hin hsl) (bh [3,4,5,6,7]) U)<|bg 3 U<|AL U di fun T=>fW U cv U<|rP 1 [] I ?_
 refine RK AB<|ak fun _ A=>dL cu [9] [] [] [0,2,3,4,5,6,7,8] [] U U U U U<|eS U (LW 0 U cm U U)<|eS U (MV U)<|eS U (BI U l8)<|eS U (MV U)<|qM (t:=49) U (fun B=>?_) (fun B=>?_)
 rotate_left 1
 ·replace B:=DF B
  refine eS U (OX U)<|eS U (OX U)<|eS U (OX U)<|eS U (OX U)<|eS U (PK U)<|eS U (AG U)<|e9 U<|cq U fun T12 D=>tF U cv U<|aF (D _ _ (aL [0,2,3,4,5,6,7,8]) ?_)
  refine fO U<|KK A<|ar<|lf hQ [0] (mc 1 U I) U ?_
  clear hQ hN D T12 A AB H G F E
  rw [F3 hk]
  simp only [sK hk]
  refine congrArg (fun z=>Value.tuple #[_,vB z]) ?_
  first|rfl|(simp_all [dA]; done)
 replace B:=DT B
 refine eS U (FA 2 U fB U)<|eS U (LP (aa.cells d.Time) 1 U cm U U U)<|eS U (SX (bj (xs:=[]) (cs:=(aa.cells (aa.mk 0 0))) U U (bk gv U)) U U)<|eS U (BI U (sT _ _ d.Time (aa.mk 0 0)))<|eS U (PK U)<|eS U (AG U)<|e9 U<|cq U fun T11 C=>tF U cv U<|aF (C _ _ (aL [0,2,3,4,5,6,7,8]) ?_)
 refine fO U<|KK A<|ar<|lf hQ [0] (mc 1 U I) U ?_
 clear hQ hN C T11 A AB H G F E
 rw [F3 hk]
 simp only [sK hk]
 refine congrArg (fun z=>Value.tuple #[_,vB z]) ?_
 first|rfl|(simp_all [dA]; done)
theorem HM (l:bf) (kA:OA) (kC:Nat) (az:List RA) (cA:OA) (cC:Nat) (bA:OA) (bC:Nat) (d:aw) (sgA:OA) (sgC:Nat) (hin:eE l az) (hle:dx l=0) (hsl:d.cz.aj.length≤1000000):
 d_ Tryz.prog 107 [(vA (bJ.cells (ld l kA kC cA cC bA bC))),(vA (bw.cells (bw.mk d.Out d.eO d.Time (mo d.cz sgA sgC))))] [(rd kA l.aJ.length 9 (l.aJ.map ao.cells)),(rd cA l.ai.length 2 (List.zipWith au.cells l.ai az)),(fc (aS au.gW l.ai az)),(rd bA l.ag.length 4 (l.ag.map bG.cells)),(rd sgA d.cz.aj.length 2 (d.cz.aj.map aO.cells))] (vT [(vA (aa.cells (oT l d))),(vB (decide (ic l d)))]):=by
 by_cases ho:d.Out=true
 ·exact DO l kA kC az cA cC bA bC d sgA sgC hin hle hsl ho
 by_cases hf:d.eO=true
 ·exact De l kA kC az cA cC bA bC d sgA sgC hin hle hsl ⟨by simpa using ho,hf⟩
 ·exact Ef l kA kC az cA cC bA bC d sgA sgC hin hle hsl ⟨by simpa using ho,by simpa using hf⟩
end
section
open Go.RowKit
theorem Dg (r:cd) (kA:OA) (kC:Nat) (az:List RA) (cA:OA) (cC:Nat) (bA:OA) (bC:Nat) (slA:OA) (slC:Nat) (drA:OA) (drC:Nat) (ha:List cS) (heA:OA) (heC:Nat) (hin:fy r az ha) (hle:dx r.ah=0):
 lq Tryz.prog 73 [(vA (bu.cells (ou r kA kC cA cC bA bC slA slC drA drC heA heC)))] [(rd kA r.ah.aJ.length 9 (r.ah.aJ.map ao.cells)),(rd cA r.ah.ai.length 2 (List.zipWith au.cells r.ah.ai az)),(fc (aS au.gW r.ah.ai az)),(rd bA r.ah.ag.length 4 (r.ah.ag.map bG.cells)),(rd slA r.aI.length 1 (r.aI.map iC)),(rd drA r.bD.length 1 (r.bD.map iC)),(rd heA r.aq.length 1 (List.zipWith cD r.aq ha)),(fc (aS im r.aq ha))] (fun (x:Bool×Int×(OA)×Nat×(List RA))=>bif x.1 then (vT [(vS x.2.2.1 ((cQ r).length) x.2.2.2.1),(vB true)]) else (vT [(vS none 0 0),(vB false)])) (fun (x:Bool×Int×(OA)×Nat×(List RA))=>(x.1=true→(eZ r∧x.2.2.2.2.length=r.aq.length))∧(x.1=false→(x.2.1=0∧ ¬ eZ r))) (fun (x:Bool×Int×(OA)×Nat×(List RA))=>bif x.1 then [(own x.2.2.1 x.2.2.2.1 85 1 (List.zipWith DA (cQ r) x.2.2.2.2)),(bp (aS C8 (cQ r) x.2.2.2.2))] else []):=by
 have BQ:=hin.line
 have Ba:=hin.iP
 have Bb:=hin.has
 have BV:=hin.iR
 have BT:=hin.draw
 have BW:=dJ (r:=r)
 refine dv kr Tryz.func73 U U fun w0 Q hQ hN=>?_
 try dsimp only
 refine WS fun _ BF=>fU U fun b2=>bg 2 U<|RK BF<|WS fun _ BG=>fF 4 [] (mc 0 U I) U<|RK BG<|ak fun _ BH=>WS fun _ N=>bg 1 U<|rS (CL (oD (r.aI.length:Int) 1 5) (aK) U)<|rP 2 [] I ?_
 refine cw (t:=19) U (br fun A7=>?_) (bq fun A7=>?_)
 ·refine bg 19 U<|RK N<|aR U<|WS fun _ BI=>rP 2 [] I ?_
  refine RK BI<|ar<|LX hQ (false,0,none,0,[]) [] [] I U (by rfl) U U ?_
  (exact ⟨AN,fun _=>⟨rfl,fun q=>by have S:=q.num; have q2:=q.v8; have q3:=q.nh; have q4:=q.x_; omega⟩⟩)
 refine rP 7 [] (mc 0 U I) ?_
 refine cw (t:=26) U (br fun X=>?_) (bq fun X=>?_)
 ·refine bg 12 U<|RK N<|aR U<|WS fun _ BJ=>rP 2 [] I ?_
  refine RK BJ<|ar<|LX hQ (false,0,none,0,[]) [] [] I U (by rfl) U U ?_
  (exact ⟨AN,fun _=>⟨rfl,fun q=>by have S:=q.num; have q2:=q.v8; have q3:=q.nh; have q4:=q.x_; omega⟩⟩)
 refine fF 2 [] (mc 0 U I) U<|rS (CL (oD r.dZ 0 5) (aK) U)<|rP 3 [] I ?_
 refine cw (t:=32) U (br fun A8=>?_) (bq fun A8=>?_)
 ·refine bg 6 U<|RK N<|aR U<|WS fun _ BK=>rP 2 [] I ?_
  refine RK BK<|ar<|LX hQ (false,0,none,0,[]) [] [] I U (by rfl) U U ?_
  (exact ⟨AN,fun _=>⟨rfl,fun q=>by have S:=q.num; have q2:=q.v8; have q3:=q.nh; have q4:=q.x_; omega⟩⟩)
 refine fF 3 [] (mc 0 U I) U<|rS (CL (oD (r.aq.length:Int) 1 3) (aK) U)<|rP 2 [] I ?_
 refine RK N<|cE U (br fun A_=>?_) (bq fun A_=>?_)
 ·refine WS fun _ BL=>rP 2 [] I ?_
  refine RK BL<|ar<|LX hQ (false,0,none,0,[]) [] [] I U (by rfl) U U ?_
  (exact ⟨AN,fun _=>⟨rfl,fun q=>by have S:=q.num; have q2:=q.v8; have q3:=q.nh; have q4:=q.x_; omega⟩⟩)
 refine WK BH<|ak fun _ o=>WS fun _ p=>rP 1 [] I ?_
 refine RK p<|ax ?_
 have A:(0≤r.aI.length)∧(wv r 0):=by exact ⟨Nat.zero_le _,J1⟩
 refine bR (ι:={z:Nat // (z≤r.aI.length)∧(wv r z)}) [1,4] [0,1,2,3,4,5,6,7,8] U U (fun z=>[(5,(vI (z.1:Int)))]) (fun z=>[]) (fun _=>rfl) (fun _=>rfl) (fun z=>r.aI.length-z.1) ⟨0,A⟩ (aU U) (aL [0,1,2,3,4,5,6,7,8]) ?_
 clear A
 rintro ⟨i,⟨BP,A0⟩⟩ J12 T
 try dsimp only
 refine ak fun _ s=>WS fun _ v=>rP 3 [] I ?_
 refine RK v<|bS U (aP fun A6=>?_) (aQ fun A6=>?_)
 ·refine bB<|ae<|ae<|aA<|KK o<|WS fun _ AS=>bg 1 U<|RK AS<|ak fun _ AU=>WS fun _ AV=>rP 1 [] I ?_
  refine RK AV<|ax<|fY 85 1<|og ?_
  have A:(0≤r.aq.length)∧(([]:List RA).length=0)∧(jV r 0):=by exact ⟨Nat.zero_le _,rfl,wM⟩
  refine bR (ι:={z:Nat×(List RA)×(OA)×Nat // (z.1≤r.aq.length)∧(z.2.1.length=z.1)∧(jV r z.1)}) [1,4] [2,3,4,5,6,7,8,9,10] U U (fun z=>[(7,(vS z.1.2.2.1 ((List.zipWith CG (gF r z.1.1) z.1.2.1).length) z.1.2.2.2)),(8,(vI (z.1.1:Int)))]) (fun z=>[(bp (aS C8 (gF r z.1.1) z.1.2.1)),(own z.1.2.2.1 z.1.2.2.2 85 1 (List.map sC (List.zipWith CG (gF r z.1.1) z.1.2.1)))]) (fun _=>rfl) (fun _=>rfl) (fun z=>r.aq.length-z.1.1) ⟨(0,([]:List RA),none,0),A⟩ (aU U) (aL [2,3,4,5,6,7,8,9,10,0,1]) ?_
  clear A
  rintro ⟨⟨h,tz,a,c⟩,⟨P,C,F⟩⟩ J46 l
  try dsimp only at P C F
  try dsimp only
  refine ak fun _ AW=>WS fun _ AX=>rP 5 [] (mc 0 U I) ?_
  refine RK AX<|bS U (aP fun BA=>?_) (aQ fun BA=>?_)
  ·refine bB<|ae<|ae<|aA<|KK AU<|ak fun _ Am=>?_
   have BO:gF r h=cQ r:=by unfold cQ; rw [show h=r.aq.length by omega]
   have BR:tz.length=r.aq.length:=by omega
   rw [BO,zr,show (List.zipWith CG (cQ r) tz).length=(cQ r).length from by rw [List.length_zipWith]; omega]
   have Ax:eZ r:=Gv (n:=i) om om om om om A0 F om
   refine an<|rP 3 [] I ?_
   refine RK Am<|ar ?_
   refine LX hQ (true,0,a,c,tz) [10,9] [] I U (by (show List.all _ _=true; simp only [cond_true,fI,List.all_nil,xS,Bool.and_true]; rfl)) U U ?_
   exact ⟨fun _=>⟨Ax,BR⟩,Nh⟩
  refine WK AW<|ak fun _ AY=>ax<|ak fun _ AZ=>WS fun _ Aa=>rP 3 [] (mc 0 U I) ?_
  obtain ⟨ht,D⟩:=aM r.aq h om
  obtain ⟨E,H⟩:=aM ha h om
  have W:(List.zipWith cD r.aq ha)[h]? =some (cD ht E):=dB D H
  refine rS (IA h U (aB 7 U) pk dc om om) ?_
  have Aw:=hin.nu _ _ _ D H
  have BU:=Aw.nO
  refine rS (gh h 0 (vS E.1.1 ht.length E.1.2) U cm (aB 7 U) W U dc U)<|rP 3 [] I ?_
  refine RK Aa<|cE U (br fun e=>?_) (bq fun e=>?_)
  ·refine WS fun _ Ab=>rP 2 [] I ?_
   refine RK Ab<|ar<|LX hQ (false,0,none,0,[]) [] [] I U (by rfl) U U ?_
   (exact ⟨AN,fun _=>⟨rfl,fun q=>by have S:=(q.nu ht (aV D)).1; omega⟩⟩)
  refine WK AZ<|WS fun _ Ac=>bg 1 U<|RK Ac<|ak fun _ Ad=>WS fun _ Ae=>rP 1 [] I ?_
  refine RK Ae<|ax<|fY 38 2 ?_
  have A:(0≤ht.length)∧(nU r.ah ht 0):=by exact ⟨Nat.zero_le _,ve⟩
  refine bR (ι:={z:Nat×(OA)×Nat // (z.1≤ht.length)∧(nU r.ah ht z.1)}) [1,4,7,8] [1,2,3,4,5,6,7,8,9,10,11] U U (fun z=>[(9,(vS z.1.2.1 (((ht.take z.1.1).map (dw r.ah)).length) z.1.2.2)),(10,(vI (z.1.1:Int)))]) (fun z=>[(own z.1.2.1 z.1.2.2 38 2 (((ht.take z.1.1).map (dw r.ah)).map aa.cells))]) (fun _=>rfl) (fun _=>rfl) (fun z=>ht.length-z.1.1) ⟨(0,none,0),A⟩ (aU U) (aL [1,2,3,4,5,6,7,8,9,10,11,0]) ?_
  clear A
  rintro ⟨⟨j,la,lc⟩,⟨R,G⟩⟩ J57 m
  try dsimp only at R G
  try dsimp only
  refine ak fun _ Af=>WS fun _ Ag=>rP 3 [] I ?_
  refine RK Ag<|bS U (aP fun BD=>?_) (aQ fun BD=>?_)
  ·refine bB<|ae<|ae<|aA<|KK Ad<|an ?_
   rw [show ((ht.take j).map (dw r.ah))=ht.map (dw r.ah) from by rw [List.take_of_length_le om]]
   refine rP 2 [] I ?_
   refine cZ (xs:=[.tmp 137]) (cs:=[(vS la ((ht.map (dw r.ah)).length) lc)]) U N7 Q9 U U U U (by simp [Value.cells]) U U fun BZ=>?_
   refine de (es2:=(List.map sC (List.zipWith CG (gF r (h+1)) (tz++[(la,lc)])))) (m':=(List.zipWith CG (gF r (h+1)) (tz++[(la,lc)])).length) 11 U U U SZ U U sm (a_ (es:=List.map sC [(aN.mk la ((ht.map (dw r.ah)).length) lc)]) 0 U U (by simp [zc]) U) (IF _) (by rw [List.length_zipWith,kq om]; omega) (by rw [List.length_zipWith,kq om]; simp only [maxLen]; omega) (by rw [tD D C,List.map_append]; rfl) (by rw [tD D C]; simp) U fun A3 A5=>?_
   try dsimp only
   refine bg 1 U<|aF<|aH<|KK AY<|an<|rP 3 [] I ?_
   refine aF<|AT (X':=aS C8 (gF r (h+1)) (tz++[(la,lc)])) 10 12 U U (B5 (a:=(la,lc)) D C) ?_
   have Au:(vI (((h+1):Nat):Int))=(vI ((h:Int)+1)):=by exact cI om
   refine aT (l ⟨((h+1),(tz++[(la,lc)]),A3,A5),⟨om,by simp; omega,v9 F D (F4 om G om)⟩⟩ _ _ _ U os (cP 3<|bo U Au<|dy.nil _) (aL [2,3,4,5,6,7,8,9,10,0,11]))
  refine WK Af<|ak fun _ Ah=>ax<|ak fun _ Ai=>dL cu [14,15] [] [] [0,1,2,3,4,5,6,7,8,9,10,11] [] U U U U U<|eS U (FA 0 U fB U)<|eS U (LP (bJ.cells (ld r.ah kA kC cA cC bA bC)) 0 U cm U U U)<|eS U (FA 10 U fB U)<|eS U (L1 (vS heA r.aq.length heC) 0 U cm U U)<|eS U (MV U)<|eS U (IA h U (aB 7 U) pk dc om om)<|eS U (gh h 0 (vS E.1.1 ht.length E.1.2) U cm (aB 7 U) W U dc U)<|eS U (MV U) ?_
  obtain ⟨d,hd⟩:=aM ht j om
  obtain ⟨da,Av⟩:=aM E.2 j om
  have BM:(List.zipWith aw.cells ht E.2)[j]? =some (aw.cells d da):=dB hd Av
  refine eS U (IA j U (show iq _ (rd E.1.1 ht.length 7 (List.zipWith aw.cells ht E.2)).holds from (cT 8 U (bT D H bZ))) sE dc om om)<|eS U (ov j 0 (bw.cells (bw.mk d.Out d.eO d.Time (eK.mk d.cz.Start d.cz.gj (aN.mk da.1 d.cz.aj.length da.2)))) U cm (show iq _ (rd E.1.1 ht.length 7 (List.zipWith aw.cells ht E.2)).holds from (cT 8 U (bT D H bZ))) BM U dc U U) ?_
  have Bc:=Aw.sig d (aV hd)
  refine eS U (CL (HM r.ah kA kC az cA cC bA bC d da.1 da.2 asm hle asm) (lz [1,2,3,4]<|ay (show iq _ (rd da.1 d.cz.aj.length 2 (d.cz.aj.map aO.cells)).holds from (cT 8 U (bT D H (cW _ (bT hd Av (by simp [aw.gW]))))))<|aK) U)<|eS U (MV U)<|eS U (EX U)<|eS U (EX U)<|eS U (AG U)<|e9 U<|cq U fun T63 An=>AL U di fun BX=>aF (An _ _ (aL [1,2,3,4,5,6,7,8,9,10,11,12]) ?_)
  refine cq U fun T65 Ao=>fW U cv U<|aF (Ao _ _ (aL [1,2,3,4,5,6,7,8,9,10,11,12]) ?_)
  refine fO U<|KK Ai<|ak fun _ Aj=>WS fun _ Ak=>rP 2 [] I ?_
  refine RK Ak<|cE U (br fun J=>?_) (bq fun J=>?_)
  ·refine WS fun _ Al=>rP 2 [] I ?_
   refine RK Al<|ar<|LX hQ (false,0,none,0,[]) [] [] I U (by rfl) U U ?_
   (exact ⟨AN,fun _=>⟨rfl,fun q=>by exact J ((q.nu ht (aV D)).2 d (aV hd))⟩⟩)
  refine WK Aj<|an<|rP 2 [] (mc 0 U I) ?_
  refine cZ (xs:=[.tmp 133]) (cs:=(aa.cells (oT r.ah d))) U jL di U U U U (by simp [Value.cells,aa.aW]) U U fun BY=>?_
  refine de (es2:=(List.map aa.cells ((ht.take (j+1)).map (dw r.ah)))) (m':=((ht.take (j+1)).map (dw r.ah)).length) 13 U U U D9 U U sm (a_ (es:=List.map aa.cells [(oT r.ah d)]) 0 U U (by simp [aa.aW]) U) (gS _) (by simp only [List.length_map,List.length_take]; omega) (by simp only [maxLen,List.length_map,List.length_take]; omega) (by rw [List.take_add_one,hd]; simp [Jq J]) sq U fun A2 A4=>?_
  try dsimp only
  refine bg 1 U<|aF<|aH<|KK Ah<|an<|rP 3 [] I ?_
  refine aF ?_
  have At:(vI (((j+1):Nat):Int))=(vI ((j:Int)+1)):=by exact cI om
  refine aT (m ⟨((j+1),A2,A4),⟨om,uS G hd J⟩⟩ _ _ _ U os (cP 5<|bo U At<|dy.nil _) (aL [2,3,4,5,6,7,8,9,10,11,12,13]))
 refine WK s<|ak fun _ Az=>ax<|ak fun _ V=>ak fun _ K=>dh cu 36 kr<|dP 3 [] (mc 0 U I) ?_
 obtain ⟨y,hy⟩:=aM r.aI i om
 have Ay:=bQ iC hy
 refine dS (IA i U (aB 5 U) cJ dc om om)<|dS (gh i 0 (vI y) U cm (aB 5 U) Ay U dc U)<|dS (CL (oD y 0 9999) (aK) U)<|dP 2 [] I ?_
 refine ja (t:=51) U (br fun BB=>?_) (bq fun BB=>?_)
 ·refine kX 28 U<|cK<|RK K<|aR U<|WS fun _ w=>rP 2 [] I ?_
  refine RK w<|ar<|LX hQ (false,0,none,0,[]) [] [] I U (by rfl) U U ?_
  (exact ⟨AN,fun _=>⟨rfl,fun q=>by have S:=(q.ids i y hy).1; omega⟩⟩)
 refine dP 3 [] I ?_
 refine jg (t:=54) U (aP fun BC=>?_) (aQ fun BC=>?_)
 ·refine dP 18 [] (mc 0 U I) ?_
  obtain ⟨x,hx⟩:=aM r.bD i om
  have M:=bQ iC hx
  refine dS (IA i U (aB 6 U) cJ dc om om)<|dS (gh i 0 (vI x) U cm (aB 6 U) M U dc U)<|kX 2 U<|dS (CL (oD x 0 ((r.aI.length:Int)-1)) (aK) U)<|dP 2 [] I ?_
  refine cK<|RK K<|cE U (br fun Y=>?_) (bq fun Y=>?_)
  ·refine WS fun _ AJ=>rP 2 [] I ?_
   refine RK AJ<|ar<|LX hQ (false,0,none,0,[]) [] [] I U (by rfl) U U ?_
   (exact ⟨AN,fun _=>⟨rfl,fun q=>by have S:=q.Is hx; omega⟩⟩)
  refine WK V<|WS fun _ AK=>rP 1 [] I ?_
  refine RK AK<|ax ?_
  have A:(0≤i)∧(∀ (q:Nat) y,q<0→r.bD[q]? =some y→y≠x):=by exact ⟨Nat.zero_le _,fun q y hq=>absurd hq (Nat.not_lt_zero _)⟩
  refine bR (ι:={z:Nat // (z≤i)∧(∀ (q:Nat) y,q<z→r.bD[q]? =some y→y≠x)}) [1,4,5] [0,1,2,3,4,5,6,7,8] U U (fun z=>[(6,(vI (z.1:Int)))]) (fun z=>[]) (fun _=>rfl) (fun _=>rfl) (fun z=>i-z.1) ⟨0,A⟩ (aU U) (aL [0,1,2,3,4,5,6,7,8]) ?_
  clear A
  rintro ⟨k,⟨O,B⟩⟩ J34 g
  try dsimp only
  refine ak fun _ AM=>WS fun _ AO=>rP 3 [] I ?_
  refine RK AO<|bS U (aP fun A9=>?_) (aQ fun A9=>?_)
  ·refine bB<|ae<|ae<|aA<|aH<|KK Az<|an<|rP 3 [] I ?_
   refine aF ?_
   have As:(vI (((i+1):Nat):Int))=(vI ((i:Int)+1)):=by exact cI om
   refine aT (T ⟨(i+1),⟨om,BN A0 (fun a ha=>by rw [hy] at ha; cases ha; exact ⟨om,fun b hb hc=>by omega⟩) (fun a ha=>by rw [hx] at ha; cases ha; exact ⟨om,fun k b hk hb=>B k b om hb⟩)⟩⟩ _ _ _ rfl os (dy.cons rfl<|dy.cons rfl<|bo rfl As<|dy.nil _) (aL [0,1,2,3,4,5,6,7,8]))
  refine WK AM<|ak fun _ AP=>ax<|ak fun _ AQ=>dh cu 11 kr<|dP 3 [] (mc 0 U I) ?_
  obtain ⟨u,hu⟩:=aM r.bD k om
  have Z:=bQ iC hu
  refine dS (IA k U (aB 6 U) cJ dc om om)<|dS (gh k 0 (vI u) U cm (aB 6 U) Z U dc U)<|lJ 3 [] (mc 0 U I) U<|dS (IA i U (aB 6 U) cJ dc om om)<|dS (gh i 0 (vI x) U cm (aB 6 U) M U dc U)<|dP 1 [] I ?_
  refine cK<|RK AQ<|bS U (aP fun L=>?_) (aQ fun L=>?_)
  ·refine cj<|aH<|KK AP<|an<|rP 3 [] I ?_
   refine aF ?_
   have Ar:(vI (((k+1):Nat):Int))=(vI ((k:Int)+1)):=by exact cI om
   refine aT (g ⟨(k+1),⟨om,wS B hu L⟩⟩ _ _ _ U os (cP 3<|bo U Ar<|dy.nil _) (aL [0,1,2,3,4,5,6,7,8]))
  refine WS fun _ AR=>rP 2 [] I ?_
  refine RK AR<|ar<|LX hQ (false,0,none,0,[]) [] [] I U (by rfl) U U ?_
  (exact ⟨AN,fun _=>⟨rfl,fun q=>by have S:=q.num; have q2:=q.v8; have q3:=q.nh; have q4:=q.x_; omega⟩⟩)
 refine lJ 3 [] (mc 0 U I) U<|dS (IA i U (aB 5 U) cJ dc om om)<|dS (gh i 0 (vI y) U cm (aB 5 U) Ay U dc U)<|dP 4 [] (mc 0 U I) ?_
 obtain ⟨z,hz⟩:=aM r.aI (i-1) om
 have BS:=bQ iC hz
 refine dS (IA (i-1) U (aB 5 U) cJ dc om om)<|dS (gh (i-1) 0 (vI z) U cm (aB 5 U) BS U dc U)<|dP 4 [] I ?_
 refine ja (t:=69) U (aQ fun BE=>?_) (aP fun BE=>?_)
 ·refine kX 10 U<|cK<|RK K<|aR U<|WS fun _ AA=>rP 2 [] I ?_
  refine RK AA<|ar<|LX hQ (false,0,none,0,[]) [] [] I U (by rfl) U U ?_
  (exact ⟨AN,fun _=>⟨rfl,fun q=>by have S:=(q.ids i y hy).2 z om hz; omega⟩⟩)
 refine dP 3 [] (mc 0 U I) ?_
 obtain ⟨x,hx⟩:=aM r.bD i om
 have M:=bQ iC hx
 refine dS (IA i U (aB 6 U) cJ dc om om)<|dS (gh i 0 (vI x) U cm (aB 6 U) M U dc U)<|kX 2 U<|dS (CL (oD x 0 ((r.aI.length:Int)-1)) (aK) U)<|dP 2 [] I ?_
 refine cK<|RK K<|cE U (br fun Y=>?_) (bq fun Y=>?_)
 ·refine WS fun _ AB=>rP 2 [] I ?_
  refine RK AB<|ar<|LX hQ (false,0,none,0,[]) [] [] I U (by rfl) U U ?_
  (exact ⟨AN,fun _=>⟨rfl,fun q=>by have S:=q.Is hx; omega⟩⟩)
 refine WK V<|WS fun _ AC=>rP 1 [] I ?_
 refine RK AC<|ax ?_
 have A:(0≤i)∧(∀ (q:Nat) y,q<0→r.bD[q]? =some y→y≠x):=by exact ⟨Nat.zero_le _,fun q y hq=>absurd hq (Nat.not_lt_zero _)⟩
 refine bR (ι:={z:Nat // (z≤i)∧(∀ (q:Nat) y,q<z→r.bD[q]? =some y→y≠x)}) [1,4,5] [0,1,2,3,4,5,6,7,8] U U (fun z=>[(6,(vI (z.1:Int)))]) (fun z=>[]) (fun _=>rfl) (fun _=>rfl) (fun z=>i-z.1) ⟨0,A⟩ (aU U) (aL [0,1,2,3,4,5,6,7,8]) ?_
 clear A
 rintro ⟨k,⟨O,B⟩⟩ J23 f
 try dsimp only
 refine ak fun _ AD=>WS fun _ AE=>rP 3 [] I ?_
 refine RK AE<|bS U (aP fun X=>?_) (aQ fun X=>?_)
 ·refine bB<|ae<|ae<|aA<|aH<|KK Az<|an<|rP 3 [] I ?_
  refine aF ?_
  have Aq:(vI (((i+1):Nat):Int))=(vI ((i:Int)+1)):=by exact cI om
  refine aT (T ⟨(i+1),⟨om,BN A0 (fun a ha=>by rw [hy] at ha; cases ha; exact ⟨om,fun b hb hc=>by (rw [hz] at hc; cases hc; omega)⟩) (fun a ha=>by rw [hx] at ha; cases ha; exact ⟨om,fun k b hk hb=>B k b om hb⟩)⟩⟩ _ _ _ rfl os (dy.cons rfl<|dy.cons rfl<|bo rfl Aq<|dy.nil _) (aL [0,1,2,3,4,5,6,7,8]))
 refine WK AD<|ak fun _ AF=>ax<|ak fun _ AH=>dh cu 11 kr<|dP 3 [] (mc 0 U I) ?_
 obtain ⟨u,hu⟩:=aM r.bD k om
 have Z:=bQ iC hu
 refine dS (IA k U (aB 6 U) cJ dc om om)<|dS (gh k 0 (vI u) U cm (aB 6 U) Z U dc U)<|lJ 3 [] (mc 0 U I) U<|dS (IA i U (aB 6 U) cJ dc om om)<|dS (gh i 0 (vI x) U cm (aB 6 U) M U dc U)<|dP 1 [] I ?_
 refine cK<|RK AH<|bS U (aP fun L=>?_) (aQ fun L=>?_)
 ·refine cj<|aH<|KK AF<|an<|rP 3 [] I ?_
  refine aF ?_
  have Ap:(vI (((k+1):Nat):Int))=(vI ((k:Int)+1)):=by exact cI om
  refine aT (f ⟨(k+1),⟨om,wS B hu L⟩⟩ _ _ _ U os (cP 3<|bo U Ap<|dy.nil _) (aL [0,1,2,3,4,5,6,7,8]))
 refine WS fun _ AI=>rP 2 [] I ?_
 refine RK AI<|ar<|LX hQ (false,0,none,0,[]) [] [] I U (by rfl) U U ?_
 (exact ⟨AN,fun _=>⟨rfl,fun q=>by exact q.P2 om hu hx L⟩⟩)
end
section
open Go.RowKit
theorem GS (r:cd) (kA:OA) (kC:Nat) (az:List RA) (cA:OA) (cC:Nat) (bA:OA) (bC:Nat) (slA:OA) (slC:Nat) (drA:OA) (drC:Nat) (ha:List cS) (heA:OA) (heC:Nat) (hin:fy r az ha):
 lq Tryz.prog 49 [(vA (bu.cells (ou r kA kC cA cC bA bC slA slC drA drC heA heC)))] [(rd kA r.ah.aJ.length 9 (r.ah.aJ.map ao.cells)),(rd cA r.ah.ai.length 2 (List.zipWith au.cells r.ah.ai az)),(fc (aS au.gW r.ah.ai az)),(rd bA r.ah.ag.length 4 (r.ah.ag.map bG.cells)),(rd slA r.aI.length 1 (r.aI.map iC)),(rd drA r.bD.length 1 (r.bD.map iC)),(rd heA r.aq.length 1 (List.zipWith cD r.aq ha)),(fc (aS im r.aq ha))] (fun (x:Bool×Int×(OA)×Nat×(List RA))=>bif x.1 then (vT [(vS x.2.2.1 ((cQ r).length) x.2.2.2.1),(vI 0)]) else (vT [(vS none 0 0),(vI x.2.1)])) (fun (x:Bool×Int×(OA)×Nat×(List RA))=>(x.1=true→(bY r=0∧x.2.2.2.2.length=r.aq.length))∧(x.1=false→(x.2.1=bY r∧ ¬ bY r=0))) (fun (x:Bool×Int×(OA)×Nat×(List RA))=>bif x.1 then [(own x.2.2.1 x.2.2.2.1 85 1 (List.zipWith DA (cQ r) x.2.2.2.2)),(bp (aS C8 (cQ r) x.2.2.2.2))] else []):=by
 have AA:=hin.line
 have b:=hin.iP
 have c:=hin.has
 have Z:=hin.iR
 have Y:=hin.draw
 have a:=dJ (r:=r)
 refine dv kr Tryz.func49 U U fun f Q hQ hN=>?_
 try dsimp only
 refine WS fun _ O=>fU U fun e=>bg 2 U<|RK O<|ak fun _ P=>WS fun _ R=>bg 1 U<|rS (LP (bJ.cells (ld r.ah kA kC cA cC bA bC)) 0 U cm U U U)<|rS (CL (Bp r.ah kA kC az cA cC bA bC asm) (bh [1,2,3,4]) U)<|bg 1 U<|RK R<|WS fun _ S=>rP 2 [] I ?_
 refine RK S<|cE U (br fun A=>?_) (bq fun A=>?_)
 ·refine WS fun _ T=>rP 3 [] I ?_
  refine RK T<|ar<|LX hQ (false,(dx r.ah),none,0,[]) [] [] I U (by rfl) U U ?_
  exact rf<|Jj (zm A) A
 refine WK P<|WS fun _ G=>rP 1 [] (mc 0 U I) ?_
 refine cX (Dg r kA kC az cA cC bA bC slA slC drA drC ha heA heC hin (by exact A)) (bh [1,2,3,4,5,6,7,8]) U fun d J=>?_
 obtain ⟨K,W,L,M,N⟩:=d
 cases K
 rotate_left 1
 ·obtain ⟨AB,V⟩:=J.1 rfl
  try dsimp only [cond_true,cond_false,List.cons_append,List.nil_append]
  refine bg 5 U<|RK G<|ak fun _ D=>WS fun _ E=>bg 2 U<|RK E<|aX U<|WK D<|WS fun _ F=>rP 3 [] I ?_
  refine RK F<|ar ?_
  refine LX hQ (true,0,L,M,N) [0,1] [] I U (by (show List.all _ _=true; simp only [cond_true,fI,List.all_nil,xS,Bool.and_true]; rfl)) U U ?_
  exact ⟨fun _=>⟨BK A AB,V⟩,Nh⟩
 obtain ⟨H,he⟩:=J.2 rfl
 try dsimp only at H he
 subst H
 try dsimp only [cond_true,cond_false,List.cons_append,List.nil_append]
 refine bg 5 U<|RK G<|ak fun _ X=>WS fun _ B=>bg 2 U<|RK B<|aR U<|WS fun _ C=>rP 2 [] I ?_
 refine RK C<|ar<|LX hQ (false,60,none,0,[]) [] [] I U (by rfl) U U ?_
 exact rf<|pO (kp A he)
end
section
open Go.RowKit
theorem Hn (r:cd) (kA:OA) (kC:Nat) (az:List RA) (cA:OA) (cC:Nat) (bA:OA) (bC:Nat) (slA:OA) (slC:Nat) (drA:OA) (drC:Nat) (ha:List cS) (heA:OA) (heC:Nat) (hin:fy r az ha):
 d_ Tryz.prog 30 [(vA (bu.cells (ou r kA kC cA cC bA bC slA slC drA drC heA heC)))] [(rd kA r.ah.aJ.length 9 (r.ah.aJ.map ao.cells)),(rd cA r.ah.ai.length 2 (List.zipWith au.cells r.ah.ai az)),(fc (aS au.gW r.ah.ai az)),(rd bA r.ah.ag.length 4 (r.ah.ag.map bG.cells)),(rd slA r.aI.length 1 (r.aI.map iC)),(rd drA r.bD.length 1 (r.bD.map iC)),(rd heA r.aq.length 1 (List.zipWith cD r.aq ha)),(fc (aS im r.aq ha))] (vI (bY r)):=by
 have H:=hin.line
 have M:=hin.iP
 have N:=hin.has
 have J:=hin.iR
 have AB:=hin.draw
 have K:=dJ (r:=r)
 refine bE kr Tryz.func30 U U fun V Q hQ hN=>?_
 try dsimp only
 refine WS fun _ G=>fU U fun AA=>bg 1 U<|RK G<|WS fun _ C=>rP 1 [] (mc 0 U I) ?_
 refine cX (GS r kA kC az cA cC bA bC slA slC drA drC ha heA heC hin) (bh [1,2,3,4,5,6,7,8]) U fun T E=>?_
 obtain ⟨F,L,P,R,S⟩:=T
 cases F
 rotate_left 1
 ·obtain ⟨he,O⟩:=E.1 rfl
  try dsimp only [cond_true,cond_false,List.cons_append,List.nil_append]
  refine bg 5 U<|RK C<|WS fun _ B=>rP 2 [] I ?_
  refine RK B<|ar<|Q1 hQ U U U ?_
  first|rfl|(rw [he])
 obtain ⟨D,he⟩:=E.2 rfl
 try dsimp only at D he
 subst D
 try dsimp only [cond_true,cond_false,List.cons_append,List.nil_append]
 refine bg 5 U<|RK C<|WS fun _ A=>rP 2 [] I ?_
 refine RK A<|ar<|Q1 hQ U U U ?_
 first|rfl|(rw [he])
end
section
open Go.RowKit
theorem Im (r:cd) (kA:OA) (kC:Nat) (az:List RA) (cA:OA) (cC:Nat) (bA:OA) (bC:Nat) (slA:OA) (slC:Nat) (drA:OA) (drC:Nat) (ha:List cS) (heA:OA) (heC:Nat) (hraw:qW r az ha):
 d_ Tryz.prog 7 [(vA (bu.cells (ou r kA kC cA cC bA bC slA slC drA drC heA heC)))] [(rd kA r.ah.aJ.length 9 (r.ah.aJ.map ao.cells)),(rd cA r.ah.ai.length 2 (List.zipWith au.cells r.ah.ai az)),(fc (aS au.gW r.ah.ai az)),(rd bA r.ah.ag.length 4 (r.ah.ag.map bG.cells)),(rd slA r.aI.length 1 (r.aI.map iC)),(rd drA r.bD.length 1 (r.bD.map iC)),(rd heA r.aq.length 1 (List.zipWith cD r.aq ha)),(fc (aS im r.aq ha))] (vB (decide (¬ oo r∧bY r=0))):=by
 refine bE kr Tryz.func7 U U fun F Q hQ hN=>?_
 try dsimp only
 refine WS fun _ C=>fU U fun E=>bg 1 U<|RK C<|WS fun _ B=>fF 1 [] (mc 0 U I) U<|rS (CL (CE r kA kC az cA cC bA bC slA slC drA drC ha heA heC hraw) (bh [1,2,3,4,5,6,7,8]) U)<|rP 2 [] I ?_
 refine cf (t:=6) U (bq fun A=>?_) (br fun A=>?_)
 ·refine bg 1 U<|rP 4 [] I ?_
  refine RK B<|ar<|Q1 hQ U U U ?_
  first|exact cB (cr fun q=>q.1 A).symm|exact cB (decide_eq_decide.2 ⟨fun q=>⟨A,q⟩,fun q=>q.2⟩)
 refine rP 1 [] (mc 0 U I) ?_
 have D:=hraw.small A
 refine rS (CL (Hn r kA kC az cA cC bA bC slA slC drA drC ha heA heC sd) (bh [1,2,3,4,5,6,7,8]) U) ?_
 refine rP 3 [] I ?_
 refine RK B<|ar<|Q1 hQ U U U ?_
 first|exact cB (cr fun q=>q.1 A).symm|exact cB (decide_eq_decide.2 ⟨fun q=>⟨A,q⟩,fun q=>q.2⟩)
end
section
open Go.RowKit
theorem qL (bl:List Int) (blA:OA) (blC:Nat) (i:Int) (hbl: ∀ z∈bl,0≤z∧z≤4294967295) (hbn:bl.length≤9223372036854775807) (hi:0≤i∧i≤1000):
 d_ Tryz.prog 10 [(vS blA bl.length blC),(vI i)] [(rd blA bl.length 1 (bl.map pV))] (vI (BT bl i)):=by
 refine bE kr Tryz.func10 U U fun K Q hQ hN=>?_
 try dsimp only
 refine WS fun _ B=>bg 1 U<|RK B<|ak fun _ C=>WS fun _ D=>rP 3 [] I ?_
 refine RK D<|cE U (aQ fun A=>?_) (aP fun A=>?_)
 ·refine WS fun _ E=>rP 1 [] I ?_
  refine RK E<|ar<|Q1 hQ U U U ?_
  first|exact cI (by unfold BT; rw [if_pos om])|exact cI (Kg A hz).symm
 refine WK C<|WS fun _ F=>rP 4 [] I ?_
 refine rS (BI U (FP om om)) ?_
 have AA:=Int.emod_nonneg i A
 have J:=Int.emod_lt_of_pos i (show 0<(bl.length:Int) by omega)
 obtain ⟨z,hz⟩:=aM bl (((i % (bl.length:Int))).toNat) om
 have G:=bQ pV hz
 refine rS (IA (((i % (bl.length:Int))).toNat) U (aB 0 U) Ud dc om om)<|rS (gh (((i % (bl.length:Int))).toNat) 0 (Value.int .u32 z) U cm (aB 0 U) G U dc U) ?_
 have H:=hbl z (aV hz)
 refine rS (SX (sU (m:=z) U U SW oG (Ar (by first|assumption|omega))) U U)<|rP 1 [] I ?_
 refine RK F<|ar<|Q1 hQ U U U ?_
 first|exact cI (by unfold BT; rw [if_pos om])|exact cI (Kg A hz).symm
theorem FX (s:aa) (n:Int) (hs:s.Lo≤s.Hi∧0≤s.Lo∧s.Hi≤100000000) (hb:0≤n∧n≤4294967295):
 d_ Tryz.prog 9 [(vA (aa.cells s)),(vI n)] [] (vI (H2 s n)):=by
 refine bE kr Tryz.func9 U U fun N Q hQ hN=>?_
 try dsimp only
 refine WS fun _ A=>fU U fun K=>bg 1 U<|RK A<|ak fun _ B=>WS fun _ C=>bg 1 U<|rS (BI U (FP om om))<|RK C<|ax<|WS fun _ D=>rP 2 [] I ?_
 refine RK D<|cE U (aQ fun J=>?_) (aP fun J=>?_)
 ·refine WS fun _ F=>rP 3 [] (mc 0 U I) ?_
  refine RK F<|ar<|Q1 hQ U U U ?_
  clear hQ hN F D C B A
  exact cI (by unfold H2; simp [*])
 refine WS fun _ E=>rP 2 [] I ?_
 refine RK E<|cE U (aQ fun AA=>?_) (aP fun AA=>?_)
 ·refine WS fun _ G=>rP 3 [] (mc 0 U I) ?_
  refine RK G<|ar<|Q1 hQ U U U ?_
  clear hQ hN G E D C B A
  exact cI (by unfold H2; simp [*])
 refine cj<|aH<|KK B<|ak fun _ H=>dh cu 13 kr<|lJ 3 [] (mc 0 U I) U<|dS (BI U (nM om om om))<|dP 6 [] (mc 0 U I) ?_
 have L:=Int.emod_nonneg (n/4) (show s.Hi-s.Lo+1≠0 by omega)
 have M:=Int.emod_lt_of_pos (n/4) (show 0<s.Hi-s.Lo+1 by omega)
 refine dS (BI U (FP om om))<|dP 2 [] I ?_
 refine cK<|RK H<|ar<|Q1 hQ U U U ?_
 clear hQ hN H E D C B A
 exact cI (by unfold H2; simp [*])
theorem PU (la:List Int) (laA:OA) (laC:Nat) (n:Int) (hlen:la.length≤1000000):
 d_ Tryz.prog 16 [(vS laA la.length laC),(vI n)] [(rd laA la.length 1 (la.map iC))] (vB (decide (n∈la))):=by
 refine bE kr Tryz.func16 U U fun AA Q hQ hN=>?_
 try dsimp only
 refine WS fun _ AB=>bg 1 U<|RK AB<|ak fun _ J=>WS fun _ K=>rP 3 [] I ?_
 refine RK K<|ax ?_
 have B:(0≤la.length)∧(∀ (j:Nat) y,j<0→la[j]? =some y→y≠n):=by exact ⟨Nat.zero_le _,fun j y hj=>absurd hj (Nat.not_lt_zero _)⟩
 refine bR (ι:={z:Nat // (z≤la.length)∧(∀ (j:Nat) y,j<z→la[j]? =some y→y≠n)}) [1,7,8] [0] U U (fun z=>[(9,(vI (z.1:Int)))]) (fun z=>[]) (fun _=>rfl) (fun _=>rfl) (fun z=>la.length-z.1) ⟨0,B⟩ (aU U) (aL [0]) ?_
 clear B
 rintro ⟨i,⟨R,A⟩⟩ J4 H
 try dsimp only
 refine WS fun _ L=>rP 1 [] I ?_
 refine RK L<|ak fun _ M=>bS U (aP fun T=>?_) (aQ fun T=>?_)
 ·refine bB<|ae<|ae<|aA<|KK J<|WS fun _ F=>rP 1 [] I ?_
  refine RK F<|ar<|Q1 hQ U U U ?_
  first|exact cB (fP (by rw [← C]; exact aV hx)).symm|exact cB (cr fun q=>qa (P:=fun y=>y≠n) om A n q rfl).symm
 refine WK M<|ak fun _ N=>ax<|WS fun _ O=>?_
 obtain ⟨x,hx⟩:=aM la i om
 have S:=bQ iC hx
 refine rS (IA i U (aB 0 U) cJ dc om om)<|rS (gh i 0 (vI x) U cm (aB 0 U) S U dc U)<|bg 1 U<|RK O<|WS fun _ D=>rP 3 [] I ?_
 refine RK D<|cE U (aQ fun C=>?_) (aP fun C=>?_)
 ·refine WS fun _ E=>rP 1 [] I ?_
  refine RK E<|ar<|Q1 hQ U U U ?_
  first|exact cB (fP (by rw [← C]; exact aV hx)).symm|exact cB (cr fun q=>qa (P:=fun y=>y≠n) om A n q rfl).symm
 refine cj<|aH<|KK N<|an<|rP 2 [] I ?_
 refine aF ?_
 have G:(vI (((i+1):Nat):Int))=(vI ((i:Int)+1)):=by exact cI om
 refine aT (H ⟨(i+1),⟨om,kH A hx C⟩⟩ _ _ _ U os (cP 3<|bo U G<|dy.nil _) (aL [0]))
theorem sD (k:Int) (b:Bool):
 d_ Tryz.prog 14 [(Value.int .u8 k),(vB b)] [] (vB (decide (k≤2∧(k=2→b=true)∧(k=0→b=false)))):=by
 refine bE kr Tryz.func14 U U fun G Q hQ hN=>?_
 try dsimp only
 refine WS fun _ B=>bg 1 U<|RK B<|WS fun _ A=>bg 1 U<|rS (BI U OR)<|rP 1 [] I ?_
 refine cf (t:=7) U (aP fun F=>?_) (aQ fun F=>?_)
 ·refine rP 15 [] I ?_
  refine RK A<|ar<|Q1 hQ U U U ?_
  clear hQ hN A B
  refine cB ?_
  cases b<;>simp_all<;>omega
 refine bg 1 U<|rS (BI U lj)<|rP 1 [] I ?_
 refine cw (t:=10) U (br fun D=>?_) (bq fun D=>?_)
 ·refine bg 5 U<|rS (BI U lj)<|rP 1 [] I ?_
  refine cf (t:=17) U (bq fun C=>?_) (br fun C=>?_)
  ·refine rP 5 [] I ?_
   refine RK A<|ar<|Q1 hQ U U U ?_
   clear hQ hN A B
   refine cB ?_
   cases b<;>simp_all<;>omega
  refine rP 5 [] I ?_
  refine RK A<|ar<|Q1 hQ U U U ?_
  clear hQ hN A B
  refine cB ?_
  cases b<;>simp_all<;>omega
 refine rP 4 [] I ?_
 refine cf (t:=14) U (fun E=>?_) (fun E=>?_)
 ·refine rP 8 [] I ?_
  refine RK A<|ar<|Q1 hQ U U U ?_
  clear hQ hN A B
  refine cB ?_
  cases b<;>simp_all<;>omega
 refine bg 1 U<|rS (BI U lj)<|rP 1 [] I ?_
 refine cf (t:=17) U (bq fun C=>?_) (br fun C=>?_)
 ·refine rP 5 [] I ?_
  refine RK A<|ar<|Q1 hQ U U U ?_
  clear hQ hN A B
  refine cB ?_
  cases b<;>simp_all<;>omega
 refine rP 5 [] I ?_
 refine RK A<|ar<|Q1 hQ U U U ?_
 clear hQ hN A B
 refine cB ?_
 cases b<;>simp_all<;>omega
end
section
open Go.RowKit
theorem Dd (r:cd) (kA:OA) (kC:Nat) (az:List RA) (cA:OA) (cC:Nat) (bA:OA) (bC:Nat) (slA:OA) (slC:Nat) (drA:OA) (drC:Nat) (ha:List cS) (heA:OA) (heC:Nat) (bl:List Int) (blA:OA) (blC:Nat) (hraw:qW r az ha) (hbl: ∀ z∈bl,0≤z∧z≤4294967295) (hbn:bl.length≤9223372036854775807):
 d_ Tryz.prog 3 [(vA (bu.cells (ou r kA kC cA cC bA bC slA slC drA drC heA heC))),(vS blA bl.length blC)] [(rd dD 3 2 dg),(rd kA r.ah.aJ.length 9 (r.ah.aJ.map ao.cells)),(rd cA r.ah.ai.length 2 (List.zipWith au.cells r.ah.ai az)),(fc (aS au.gW r.ah.ai az)),(rd bA r.ah.ag.length 4 (r.ah.ag.map bG.cells)),(rd slA r.aI.length 1 (r.aI.map iC)),(rd drA r.bD.length 1 (r.bD.map iC)),(rd heA r.aq.length 1 (List.zipWith cD r.aq ha)),(fc (aS im r.aq ha)),(rd blA bl.length 1 (bl.map pV))] (vB true):=by
 refine bE kr Tryz.func3 U U fun w0 Q hQ hN=>?_
 try dsimp only
 refine WS fun _ Be=>fU U fun b2=>bg 1 U<|RK Be<|WS fun _ Bf=>rS (CL LL (bh [1]) U)<|bg 1 U<|RK Bf<|ak fun _ Bg=>WS fun _ Bh=>bg 2 U<|RK Bh<|aX U<|WK Bg<|ak fun _ Bi=>WS fun _ Bj=>fF 1 [] (mc 0 U I) U<|rS (CL (Im r kA kC az cA cC bA bC slA slC drA drC ha heA heC hraw) (bh [2,3,4,5,6,7,8,9]) U)<|rP 1 [] I ?_
 refine RK Bj<|cE U (br fun J=>?_) (bq fun J=>?_)
 ·refine WS fun _ Bk=>rP 2 [] I ?_
  refine RK Bk<|ar ?_
  exact Q1 hQ U U U U
 refine WK Bi<|WS fun _ Bl=>?_
 have AF:=hraw.small J.1
 have Bn:=AF.line
 have B9:=AF.iP
 have CA:=AF.has
 have B1:=AF.iR
 have Bz:=AF.draw
 have B2:=dJ (r:=r)
 have AM:=(iF J.2).2
 have CD:=AM.num
 have CC:=AM.nh
 refine nt (kV:=iV) U U fun AE=>?_
 try dsimp only
 refine bg 1 U<|RK Bl<|ak fun _ Am=>WS fun _ An=>rP 4 [] (mc 1 U I) ?_
 refine RK An<|ax ?_
 have D:(0≤r.aI.length)∧(pN r 0 ([]:List (Int×Int))):=by exact ⟨Nat.zero_le _,JP⟩
 refine bR (ι:={z:Nat×(List (Int×Int)) // (z.1≤r.aI.length)∧(pN r z.1 z.2)}) [1,2,5,6,36] [1,2,3,4,5,6,7,8,9,10,11] U U (fun z=>[(37,(vI (z.1.1:Int)))]) (fun z=>[(hO iV AE (bM iV z.1.2))]) (fun _=>rfl) (fun _=>rfl) (fun z=>r.aI.length-z.1.1) ⟨(0,([]:List (Int×Int))),D⟩ (aU U) (aL [1,2,3,4,5,6,7,8,9,10,11,0]) ?_
 clear D
 rintro ⟨⟨i,T⟩,⟨Ah,A⟩⟩ J13 w
 try dsimp only at Ah A
 try dsimp only
 refine WS fun _ Ao=>rP 1 [] I ?_
 refine RK Ao<|ak fun _ Ap=>bS U (aP fun Bc=>?_) (aQ fun Bc=>?_)
 ·refine bB<|ae<|ae<|aA<|KK Am<|ak fun _ A1=>ak fun _ A2=>?_
  obtain rfl:i=r.aI.length:=by omega
  have B7:T.length≤5:=by have h_:=(xR A).length_eq; simp only [List.length_map] at h_; have:=nx J.2; omega
  refine L4 (C':=[(b_ b2 32 (bu.cells (ou r kA kC cA cC bA bC slA slC drA drC heA heC))),(rd dD 3 2 dg).ro,(rd kA r.ah.aJ.length 9 (r.ah.aJ.map ao.cells)).ro,(rd cA r.ah.ai.length 2 (List.zipWith au.cells r.ah.ai az)).ro,(fc (aS au.gW r.ah.ai az)).ro,(rd bA r.ah.ag.length 4 (r.ah.ag.map bG.cells)).ro,(rd slA r.aI.length 1 (r.aI.map iC)).ro,(rd drA r.bD.length 1 (r.bD.map iC)).ro,(rd heA r.aq.length 1 (List.zipWith cD r.aq ha)).ro,(fc (aS im r.aq ha)).ro,(rd blA bl.length 1 (bl.map pV)).ro,(hO iV AE (bM iV T)).ro]) 11 U U<|an<|rP 1 [] I ?_
  refine iG (kV:=iV) (m:=bM iV T) 11 U U M3 U ⟨U,fun h=>h⟩ (by exact j1 11 U) U fun Bt=>?_
  try dsimp only
  refine RK A2<|ax ?_
  have D:(∀ p∈T,p∈T):=by exact fun p hp=>hp
  refine bR (ι:={z:(List (Int×Int)) // (∀ p∈z,p∈T)}) [1,2,5,6,146] [1,2,3,4,5,6,7,8,9,10,11,12] U U (fun z=>[]) (fun z=>[(x9 iV Bt AE (bM iV T) (bM iV z.1) none)]) (fun _=>rfl) (fun _=>rfl) (fun z=>z.1.length) ⟨T,D⟩ (dy.nil _) (aL [1,2,3,4,5,6,7,8,9,10,11,12,0]) ?_
  clear D
  rintro ⟨left,AO⟩ J51 Al
  try dsimp only
  refine WS fun _ Ad=>g6 (dQ oG).inj (f:=iV) 12 U U U U (fun Bw=>?_) (fun x n hm hn=>?_)
  ·refine bg 1 U<|RK Ad<|ak fun _ Bx=>aX U<|bB<|ae<|ae<|aA<|KK A1<|WS fun _ A3=>rP 2 [] I ?_
   refine RK A3<|ar ?_
   exact Q1 hQ U U U U
  try dsimp only
  refine bg 1 U<|RK Ad<|ak fun _ A4=>aR U<|WK A4<|ax<|WS fun _ A5=>rS (SX (g7 12 U U U) U U)<|bg 4 U<|RK A5<|WS fun _ A6=>bg 1 U<|RK A6<|ak fun _ A7=>WS fun _ A8=>rP 1 [] I ?_
  refine iG (kV:=iV) (m:=bM iV T) 11 U U M3 U ⟨U,fun h=>h⟩ (by exact j1 11 U) U fun Bu=>?_
  try dsimp only
  refine RK A8<|ax ?_
  have D:(∀ p∈T,p∈T)∧((1:Int)+(T.countP fun p=>decide (p.2<n):Int)=1+(T.countP fun p=>decide (p.2<n):Int))∧(1≤(1:Int)):=by exact ⟨fun p hp=>hp,rfl,om⟩
  refine bR (ι:={z:(List (Int×Int))×Int // (∀ p∈z.1,p∈T)∧(z.2+(z.1.countP fun p=>decide (p.2<n):Int)=1+(T.countP fun p=>decide (p.2<n):Int))∧(1≤z.2)}) [1,2,5,6,15,16,146,153] [1,2,3,4,5,6,7,8,9,10,11,12,13] U U (fun z=>[(17,(vI z.1.2))]) (fun z=>[(x9 iV Bu AE (bM iV T) (bM iV z.1.1) none)]) (fun _=>rfl) (fun _=>rfl) (fun z=>z.1.1.length) ⟨(T,(1:Int)),D⟩ (aU U) (aL [1,2,3,4,5,6,7,8,9,10,11,12,13,0]) ?_
  clear D
  rintro ⟨⟨W,rank⟩,⟨E,AG,AR⟩⟩ J61 AA
  try dsimp only at E AG AR
  try dsimp only
  have B8:T.countP (fun p=>decide (p.2<n))≤T.length:=List.countP_le_length
  refine WS fun _ Ae=>g6 (dQ oG).inj (f:=iV) 13 U U U U (fun Ak=>?_) (fun k m N AS=>?_)
  ·refine rP 1 [] I ?_
   refine RK Ae<|ak fun _ By=>aX U<|bB<|ae<|ae<|aA<|KK A7<|ak fun _ A9=>?_
   have Bp:rank=(T.countP fun p=>decide (p.2<n):Int)+1:=by rw [Ak] at AG; simp only [List.countP_nil] at AG; omega
   obtain ⟨Bs,sx,Br,_⟩:=tS A (AO _ hm)
   have Bq:=(z9 J.2 Bs Br).1
   have CE:=v_ (r:=r) (i:=x)
   refine an<|rP 2 [] (mc 0 U I) ?_
   refine cX (Fy x r kA kC az cA cC bA bC slA slC drA drC ha heA heC sd) (bh [1,2,3,4,5,6,7,8,9]) U fun Bv B3=>?_
   obtain ⟨Ba,Bb⟩:=Bv
   try dsimp only
   refine bg 5 U<|RK A9<|WS fun _ A_=>rP 3 [] I ?_
   refine cw (t:=211) U (br fun AW=>?_) (bq fun AW=>?_)
   ·exact absurd (Bq) AW
   refine rP 2 [] I ?_
   refine rS (CL (PU (ig r x) Ba Bb rank sd) (ay (al (n:=(ig r x).length) 0 U sm)<|aK) U) ?_
   refine rP 2 [] I ?_
   refine RK A_<|cE U (br fun AX=>?_) (bq fun AX=>?_)
   ·exact absurd (by rw [Bp]; exact KD J.2 A (AO _ hm)) AX
   refine cj<|aH<|f_ 13 U eJ U ?_
   refine aT (Al ⟨(cp left x),(eQ AO)⟩ _ _ _ U (dU hm) (aU U) (aL [1,2,3,4,5,6,7,8,9,10,11,12,13]))
  try dsimp only
  refine bg 1 U<|RK Ae<|ak fun _ BA=>aR U<|WK BA<|ax<|WS fun _ BB=>rS (SX (g7 13 U U U) U U)<|bg 4 U<|RK BB<|ak fun _ Af=>WS fun _ BC=>rP 3 [] I ?_
  refine RK BC<|bS U (aP fun G=>?_) (aQ fun G=>?_)
  ·refine WK Af<|ak fun _ BK=>WS fun _ BL=>rP 3 [] I ?_
   refine RK BL<|cE U (aQ fun Y=>?_) (aP fun Y=>?_)
   ·refine bB<|ae<|aA<|f_ 13 U eJ U ?_
    refine aT (AA ⟨((cp W k),rank),⟨eQ E,by have e_:=vy (P:=fun p=>decide (p.2<n)) AS N; (first|rw [if_pos (fP G)] at e_|rw [if_neg (by simpa using G)] at e_); dsimp only; omega,dso⟩⟩ _ _ _ U (dU N) (aU U) (aL [0,1,2,3,4,5,6,7,8,9,10,11,12,13]))
   refine WK BK<|ak fun _ BM=>?_
   have V:=FC J.2 A (AO _ hm) (E _ N) Y
   refine an<|rP 3 [] (mc 0 U I) ?_
   refine rS (CL (w5 x k r kA kC az cA cC bA bC slA slC drA drC ha heA heC sd) (bh [1,2,3,4,5,6,7,8,9]) U) ?_
   refine bg 5 U<|RK BM<|WS fun _ BN=>rP 3 [] (mc 0 U I) ?_
   refine rS (CL (EP x k r kA kC az cA cC bA bC slA slC drA drC ha heA heC sd) (bh [1,2,3,4,5,6,7,8,9]) U) ?_
   refine bg 5 U<|RK BN<|WS fun _ BO=>rP 3 [] I ?_
   refine cw (t:=183) U (br fun Z=>?_) (bq fun Z=>?_)
   ·exact absurd (V.1) Z
   refine rP 4 [] I ?_
   refine cw (t:=187) U (br fun a=>?_) (bq fun a=>?_)
   ·exact absurd (V.1) a
   refine bg 4 U<|rS (CL (sD (ph r x k) (decide (n<m))) (aK) U)<|rP 3 [] I ?_
   refine cw (t:=195) U (br fun e=>?_) (bq fun e=>?_)
   ·exact absurd (by simpa using V.2.1) e
   refine bg 4 U<|rS (CL (sD (lk r x k) (decide (n=m))) (aK) U)<|rP 2 [] I ?_
   refine RK BO<|cE U (br fun g=>?_) (bq fun g=>?_)
   ·exact absurd (by simpa using V.2.2) g
   refine cj<|aH<|f_ 13 U eJ U ?_
   refine aT (AA ⟨((cp W k),rank),⟨eQ E,by have e_:=vy (P:=fun p=>decide (p.2<n)) AS N; (first|rw [if_pos (fP G)] at e_|rw [if_neg (by simpa using G)] at e_); dsimp only; omega,dso⟩⟩ _ _ _ U (dU N) (aU U) (aL [0,1,2,3,4,5,6,7,8,9,10,11,12,13]))
  refine an<|bg 3 U<|RK Af<|ak fun _ BE=>WS fun _ BF=>rP 3 [] I ?_
  refine RK BF<|cE U (aQ fun Y=>?_) (aP fun Y=>?_)
  ·refine bB<|ae<|aA<|f_ 13 U eJ U ?_
   refine aT (AA ⟨((cp W k),(rank+1)),⟨eQ E,by have e_:=vy (P:=fun p=>decide (p.2<n)) AS N; (first|rw [if_pos (fP G)] at e_|rw [if_neg (by simpa using G)] at e_); dsimp only; omega,dso⟩⟩ _ _ _ U (dU N) (aU U) (aL [0,1,2,3,4,5,6,7,8,9,10,11,12,13]))
  refine WK BE<|ak fun _ BG=>?_
  have V:=FC J.2 A (AO _ hm) (E _ N) Y
  refine an<|rP 3 [] (mc 0 U I) ?_
  refine rS (CL (w5 x k r kA kC az cA cC bA bC slA slC drA drC ha heA heC sd) (bh [1,2,3,4,5,6,7,8,9]) U) ?_
  refine bg 5 U<|RK BG<|WS fun _ BH=>rP 3 [] (mc 0 U I) ?_
  refine rS (CL (EP x k r kA kC az cA cC bA bC slA slC drA drC ha heA heC sd) (bh [1,2,3,4,5,6,7,8,9]) U) ?_
  refine bg 5 U<|RK BH<|WS fun _ BJ=>rP 3 [] I ?_
  refine cw (t:=183) U (br fun Z=>?_) (bq fun Z=>?_)
  ·exact absurd (V.1) Z
  refine rP 4 [] I ?_
  refine cw (t:=187) U (br fun a=>?_) (bq fun a=>?_)
  ·exact absurd (V.1) a
  refine bg 4 U<|rS (CL (sD (ph r x k) (decide (n<m))) (aK) U)<|rP 3 [] I ?_
  refine cw (t:=195) U (br fun e=>?_) (bq fun e=>?_)
  ·exact absurd (by simpa using V.2.1) e
  refine bg 4 U<|rS (CL (sD (lk r x k) (decide (n=m))) (aK) U)<|rP 2 [] I ?_
  refine RK BJ<|cE U (br fun g=>?_) (bq fun g=>?_)
  ·exact absurd (by simpa using V.2.2) g
  refine cj<|aH<|f_ 13 U eJ U ?_
  refine aT (AA ⟨((cp W k),(rank+1)),⟨eQ E,by have e_:=vy (P:=fun p=>decide (p.2<n)) AS N; (first|rw [if_pos (fP G)] at e_|rw [if_neg (by simpa using G)] at e_); dsimp only; omega,dso⟩⟩ _ _ _ U (dU N) (aU U) (aL [0,1,2,3,4,5,6,7,8,9,10,11,12,13]))
 refine WK Ap<|ak fun _ AB=>ax<|WS fun _ Aq=>bg 2 U<|RK Aq<|WS fun _ Ar=>bg 2 U<|RK Ar<|ak fun _ As=>WS fun _ At=>rP 4 [] (mc 0 U I) ?_
 refine RK At<|ax ?_
 have D:(0≤r.aq.length)∧(uP r i 0 (0:Int) false):=by exact ⟨Nat.zero_le _,Ko⟩
 refine bR (ι:={z:Nat×Int×Bool // (z.1≤r.aq.length)∧(uP r i z.1 z.2.1 z.2.2)}) [1,2,5,6,7,36,37,42] [0,1,2,3,4,5,6,7,8,9,10,11] U U (fun z=>[(8,(vI z.1.2.1)),(9,(vB z.1.2.2)),(43,(vI (z.1.1:Int)))]) (fun z=>[]) (fun _=>rfl) (fun _=>rfl) (fun z=>r.aq.length-z.1.1) ⟨(0,(0:Int),false),D⟩ (aU U) (aL [0,1,2,3,4,5,6,7,8,9,10,11]) ?_
 clear D
 rintro ⟨⟨h,n,out⟩,⟨AQ,C⟩⟩ J22 y
 try dsimp only at AQ C
 try dsimp only
 have BY:=C.Uy
 refine WS fun _ Au=>rP 1 [] I ?_
 refine RK Au<|ak fun _ Av=>bS U (aP fun Bd=>?_) (aQ fun Bd=>?_)
 ·refine bB<|ae<|ae<|aA<|KK As<|ak fun _ Ay=>?_
  obtain rfl:h=r.aq.length:=by omega
  obtain ⟨AN,j⟩:=And.intro (FE C J.2 om).1 (FE C J.2 om).2
  have Bo:=KU AN j
  have BY:=C.Uy
  refine an<|rP 2 [] (mc 0 U I) ?_
  refine rS (CL (OF (i:Int) r kA kC az cA cC bA bC slA slC drA drC ha heA heC sd) (bh [1,2,3,4,5,6,7,8,9]) U) ?_
  refine bg 3 U<|AL U di fun B6=>fW U cv U<|bg 1 U<|RK Ay<|ak fun _ Ab=>WS fun _ Ac=>bg 3 U<|rS (BI U (DI RG))<|rP 1 [] I ?_
  refine cw (t:=119) U (fun X=>?_) (fun X=>?_)
  ·rw [Bool.not_eq_true'] at X
   exfalso; rw [Bo] at X; simp at X
  rw [Bool.not_eq_false'] at X
  refine rP 3 [] I ?_
  refine cf (t:=122) U (fun O=>?_) (fun O=>?_)
  ·rw [Bool.not_eq_false'] at O
   refine bg 16 U<|RK Ac<|aX U<|WK Ab<|WS fun _ A0=>rP 2 [] I ?_
   refine RK A0<|bS U (fun K=>?_) (fun K=>?_)
   ·rw [Bool.not_eq_false'] at K
    refine cj<|aH<|KK AB<|an<|rP 2 [] I ?_
    refine aF ?_
    have BX:(vI (((i+1):Nat):Int))=(vI ((i:Int)+1)):=by exact cI om
    refine aT (w ⟨((i+1),T),⟨om,by first|exact vN A (AN asm).2|(obtain ⟨_,s_,v,_,R,S⟩:=j asm; exact vQ A v ⟨R,S⟩)⟩⟩ _ _ _ rfl os (cP 5<|bo rfl BX<|dy.nil _) (aL [1,2,3,4,5,6,7,8,9,10,11,12]))
   rw [Bool.not_eq_true'] at K
   refine an<|bg 3 U<|iU (kV:=iV) (x:=(i:Int)) (C':=[_,_,_,_,_,_,_,_,_,_,_,_,(hO iV AE (bM iV (eh T (i:Int) n)))]) 12 U U U U M3 (dQ oG) U (gJ _ _ _ _).symm U<|aF<|aH<|KK AB<|an<|rP 2 [] I ?_
   refine aF ?_
   have BW:(vI (((i+1):Nat):Int))=(vI ((i:Int)+1)):=by exact cI om
   refine aT (w ⟨((i+1),(eh T (i:Int) n)),⟨om,by first|exact vN A (AN asm).2|(obtain ⟨_,s_,v,_,R,S⟩:=j asm; exact vQ A v ⟨R,S⟩)⟩⟩ _ _ _ rfl os (cP 5<|bo rfl BW<|dy.nil _) (aL [1,2,3,4,5,6,7,8,9,10,11,12]))
  rw [Bool.not_eq_true'] at O
  refine rP 3 [] I ?_
  refine cw (t:=125) U (br fun AT=>?_) (bq fun AT=>?_)
  ·exact absurd (j O).1 AT
  refine rP 6 [] (mc 0 U I) ?_
  refine cw (t:=131) U (aQ fun AU=>?_) (aP fun AU=>?_)
  ·exfalso; obtain ⟨_,s_,_,Aj,R,S⟩:=j O; rw [Aj] at AU; omega
  refine rP 7 [] (mc 0 U I) ?_
  refine RK Ac<|cE U (aQ fun AV=>?_) (aP fun AV=>?_)
  ·exfalso; obtain ⟨_,s_,_,Aj,R,S⟩:=j O; rw [Aj] at AV; omega
  refine WK Ab<|WS fun _ Az=>rP 2 [] I ?_
  refine RK Az<|bS U (fun K=>?_) (fun K=>?_)
  ·rw [Bool.not_eq_false'] at K
   refine cj<|aH<|KK AB<|an<|rP 2 [] I ?_
   refine aF ?_
   have BV:(vI (((i+1):Nat):Int))=(vI ((i:Int)+1)):=by exact cI om
   refine aT (w ⟨((i+1),T),⟨om,by first|exact vN A (AN asm).2|(obtain ⟨_,s_,v,_,R,S⟩:=j asm; exact vQ A v ⟨R,S⟩)⟩⟩ _ _ _ rfl os (cP 5<|bo rfl BV<|dy.nil _) (aL [1,2,3,4,5,6,7,8,9,10,11,12]))
  rw [Bool.not_eq_true'] at K
  refine an<|bg 3 U<|iU (kV:=iV) (x:=(i:Int)) (C':=[_,_,_,_,_,_,_,_,_,_,_,_,(hO iV AE (bM iV (eh T (i:Int) n)))]) 12 U U U U M3 (dQ oG) U (gJ _ _ _ _).symm U<|aF<|aH<|KK AB<|an<|rP 2 [] I ?_
  refine aF ?_
  have BU:(vI (((i+1):Nat):Int))=(vI ((i:Int)+1)):=by exact cI om
  refine aT (w ⟨((i+1),(eh T (i:Int) n)),⟨om,by first|exact vN A (AN asm).2|(obtain ⟨_,s_,v,_,R,S⟩:=j asm; exact vQ A v ⟨R,S⟩)⟩⟩ _ _ _ rfl os (cP 5<|bo rfl BU<|dy.nil _) (aL [1,2,3,4,5,6,7,8,9,10,11,12]))
 refine WK Av<|ak fun _ AC=>ax<|WS fun _ Aw=>bg 2 U<|RK Aw<|WS fun _ Ax=>rP 3 [] (mc 0 U I) ?_
 refine rS (CL (I_ (h:Int) (i:Int) r kA kC az cA cC bA bC slA slC drA drC ha heA heC sd) (bh [1,2,3,4,5,6,7,8,9]) U) ?_
 refine bg 3 U<|AL U di fun B5=>fW U cv U<|rP 1 [] I ?_
 refine RK Ax<|ak fun _ AD=>ak fun _ AY=>?_
 obtain ⟨ht,H⟩:=aM r.aq h om
 obtain ⟨B,F⟩:=aM ha h om
 have AK:(List.zipWith cD r.aq ha)[h]? =some (cD ht B):=dB H F
 have Bm:=AF.nu _ _ _ H F
 have B0:=Bm.nO
 have B_:=(AM.nu ht (aV H)).1
 refine an<|rP 2 [] I ?_
 refine cw (t:=54) U (fun AH=>?_) (fun AH=>?_)
 ·refine bg 11 U<|RK AY<|WS fun _ AZ=>fF 3 [] (mc 1 U I) U<|rS (IA h U (aB 9 U) pk dc om om)<|rS (gh h 0 (vS B.1.1 ht.length B.1.2) U cm (aB 9 U) AK U dc U)<|rP 1 [] I ?_
  obtain ⟨d,hd⟩:=aM ht i om
  obtain ⟨da,Ag⟩:=aM B.2 i om
  have AP:(List.zipWith aw.cells ht B.2)[i]? =some (aw.cells d da):=dB hd Ag
  refine rS (IA i U (show iq _ (rd B.1.1 ht.length 7 (List.zipWith aw.cells ht B.2)).holds from (cT 10 U (bT H F bZ))) sE dc om om)<|rS (mK (i*7) U (show iq _ (rd B.1.1 ht.length 7 (List.zipWith aw.cells ht B.2)).holds from (cT 10 U (bT H F bZ))) (Nat.mul_pos om dc) fB U)<|rS (gh i 0 (vB d.Out) U cm (show iq _ (rd B.1.1 ht.length 7 (List.zipWith aw.cells ht B.2)).holds from (cT 10 U (bT H F bZ))) AP U dc U)<|rP 2 [] I ?_
  have M:=F8 J.2 H hd
  have l:=M.b
  refine rS (BI U (DI RG))<|rP 1 [] I ?_
  refine cw (t:=77) U (fun L=>?_) (fun L=>?_)
  ·rw [Bool.not_eq_true'] at L
   exfalso; rw [M.same] at L; simp at L
  rw [Bool.not_eq_false'] at L
  refine rP 3 [] I ?_
  refine cf (t:=80) U (bq fun AI=>?_) (br fun AI=>?_)
  ·refine rP 10 [] (mc 0 U I) ?_
   refine cw (t:=90) U (aQ fun o=>?_) (aP fun o=>?_)
   ·exfalso; omega
   refine rP 6 [] (mc 0 U I) ?_
   refine RK AZ<|cE U (aQ fun q=>?_) (aP fun q=>?_)
   ·exfalso; omega
   refine WK AD ?_
   have u:=CB hbl ((5*(h:Int))+(i:Int))
   have Ai:=BD (s:=df r (h:Int) (i:Int)) u.1 l.2.1
   refine dh cu 12 kr<|lJ 4 [] (mc 0 U I) U<|dS (BI U (vg ⟨om,om⟩))<|dP 2 [] I ?_
   refine dS (CL (qL bl blA blC ((5*(h:Int))+(i:Int)) hbl hbn sd) (bh [11]) U) ?_
   refine dS (CL (FX (df r (h:Int) (i:Int)) (BT bl ((5*(h:Int))+(i:Int))) sd sd) (aK) U) ?_
   refine dS (BI U (nM om om om))<|kX 2 U<|cK<|aF<|aH<|KK AC<|an<|rP 2 [] I ?_
   refine aF ?_
   have BQ:(vI (((h+1):Nat):Int))=(vI ((h:Int)+1)):=by exact cI om
   refine aT (y ⟨((h+1),(n+((H2 (df r (h:Int) (i:Int)) (BT bl ((5*(h:Int))+(i:Int))))/10)),true),⟨om,by have h_:=ti C hbl M (c:=5*(h:Int)+(i:Int)); simpa [AH] using h_⟩⟩ _ _ _ U os (cP 10<|bo U BQ<|dy.nil _) (aL [1,2,3,4,5,6,7,8,9,10,11,12]))
  refine rP 5 [] I ?_
  refine cw (t:=85) U (br fun AJ=>?_) (bq fun AJ=>?_)
  ·exfalso; exact M.kind.elim AI AJ
  refine rP 5 [] (mc 0 U I) ?_
  refine cw (t:=90) U (aQ fun o=>?_) (aP fun o=>?_)
  ·exfalso; omega
  refine rP 6 [] (mc 0 U I) ?_
  refine RK AZ<|cE U (aQ fun q=>?_) (aP fun q=>?_)
  ·exfalso; omega
  refine WK AD ?_
  have u:=CB hbl ((5*(h:Int))+(i:Int))
  have Ai:=BD (s:=df r (h:Int) (i:Int)) u.1 l.2.1
  refine dh cu 12 kr<|lJ 4 [] (mc 0 U I) U<|dS (BI U (vg ⟨om,om⟩))<|dP 2 [] I ?_
  refine dS (CL (qL bl blA blC ((5*(h:Int))+(i:Int)) hbl hbn sd) (bh [11]) U) ?_
  refine dS (CL (FX (df r (h:Int) (i:Int)) (BT bl ((5*(h:Int))+(i:Int))) sd sd) (aK) U) ?_
  refine dS (BI U (nM om om om))<|kX 2 U<|cK<|aF<|aH<|KK AC<|an<|rP 2 [] I ?_
  refine aF ?_
  have BP:(vI (((h+1):Nat):Int))=(vI ((h:Int)+1)):=by exact cI om
  refine aT (y ⟨((h+1),(n+((H2 (df r (h:Int) (i:Int)) (BT bl ((5*(h:Int))+(i:Int))))/10)),true),⟨om,by have h_:=ti C hbl M (c:=5*(h:Int)+(i:Int)); simpa [AH] using h_⟩⟩ _ _ _ U os (cP 10<|bo U BP<|dy.nil _) (aL [1,2,3,4,5,6,7,8,9,10,11,12]))
 refine fF 3 [] (mc 1 U I) U<|rS (IA h U (aB 9 U) pk dc om om)<|rS (gh h 0 (vS B.1.1 ht.length B.1.2) U cm (aB 9 U) AK U dc U)<|rP 1 [] I ?_
 obtain ⟨d,hd⟩:=aM ht i om
 obtain ⟨da,Ag⟩:=aM B.2 i om
 have AP:(List.zipWith aw.cells ht B.2)[i]? =some (aw.cells d da):=dB hd Ag
 refine rS (IA i U (show iq _ (rd B.1.1 ht.length 7 (List.zipWith aw.cells ht B.2)).holds from (cT 10 U (bT H F bZ))) sE dc om om)<|rS (mK (i*7) U (show iq _ (rd B.1.1 ht.length 7 (List.zipWith aw.cells ht B.2)).holds from (cT 10 U (bT H F bZ))) (Nat.mul_pos om dc) fB U)<|rS (gh i 0 (vB d.Out) U cm (show iq _ (rd B.1.1 ht.length 7 (List.zipWith aw.cells ht B.2)).holds from (cT 10 U (bT H F bZ))) AP U dc U)<|bg 2 U<|RK AY<|WS fun _ Aa=>fF 3 [] (mc 1 U I) U<|rS (IA h U (aB 9 U) pk dc om om)<|rS (gh h 0 (vS B.1.1 ht.length B.1.2) U cm (aB 9 U) AK U dc U)<|bg 1 U<|rS (IA i U (show iq _ (rd B.1.1 ht.length 7 (List.zipWith aw.cells ht B.2)).holds from (cT 10 U (bT H F bZ))) sE dc om om)<|rS (mK (i*7) U (show iq _ (rd B.1.1 ht.length 7 (List.zipWith aw.cells ht B.2)).holds from (cT 10 U (bT H F bZ))) (Nat.mul_pos om dc) fB U)<|rS (gh i 0 (vB d.Out) U cm (show iq _ (rd B.1.1 ht.length 7 (List.zipWith aw.cells ht B.2)).holds from (cT 10 U (bT H F bZ))) AP U dc U)<|rP 2 [] I ?_
 have M:=F8 J.2 H hd
 have l:=M.b
 refine rS (BI U (DI RG))<|rP 1 [] I ?_
 refine cw (t:=77) U (fun L=>?_) (fun L=>?_)
 ·rw [Bool.not_eq_true'] at L
  exfalso; rw [M.same] at L; simp at L
 rw [Bool.not_eq_false'] at L
 refine rP 3 [] I ?_
 refine cf (t:=80) U (bq fun AI=>?_) (br fun AI=>?_)
 ·refine rP 10 [] (mc 0 U I) ?_
  refine cw (t:=90) U (aQ fun o=>?_) (aP fun o=>?_)
  ·exfalso; omega
  refine rP 6 [] (mc 0 U I) ?_
  refine RK Aa<|cE U (aQ fun q=>?_) (aP fun q=>?_)
  ·exfalso; omega
  refine WK AD ?_
  have u:=CB hbl ((5*(h:Int))+(i:Int))
  have Ai:=BD (s:=df r (h:Int) (i:Int)) u.1 l.2.1
  refine dh cu 12 kr<|lJ 4 [] (mc 0 U I) U<|dS (BI U (vg ⟨om,om⟩))<|dP 2 [] I ?_
  refine dS (CL (qL bl blA blC ((5*(h:Int))+(i:Int)) hbl hbn sd) (bh [11]) U) ?_
  refine dS (CL (FX (df r (h:Int) (i:Int)) (BT bl ((5*(h:Int))+(i:Int))) sd sd) (aK) U) ?_
  refine dS (BI U (nM om om om))<|kX 2 U<|cK<|aF<|aH<|KK AC<|an<|rP 2 [] I ?_
  refine aF ?_
  have BS:(vI (((h+1):Nat):Int))=(vI ((h:Int)+1)):=by exact cI om
  refine aT (y ⟨((h+1),(n+((H2 (df r (h:Int) (i:Int)) (BT bl ((5*(h:Int))+(i:Int))))/10)),d.Out),⟨om,by have h_:=ti C hbl M (c:=5*(h:Int)+(i:Int)); simpa [AH] using h_⟩⟩ _ _ _ U os (cP 10<|bo U BS<|dy.nil _) (aL [1,2,3,4,5,6,7,8,9,10,11,12]))
 refine rP 5 [] I ?_
 refine cw (t:=85) U (br fun AJ=>?_) (bq fun AJ=>?_)
 ·exfalso; exact M.kind.elim AI AJ
 refine rP 5 [] (mc 0 U I) ?_
 refine cw (t:=90) U (aQ fun o=>?_) (aP fun o=>?_)
 ·exfalso; omega
 refine rP 6 [] (mc 0 U I) ?_
 refine RK Aa<|cE U (aQ fun q=>?_) (aP fun q=>?_)
 ·exfalso; omega
 refine WK AD ?_
 have u:=CB hbl ((5*(h:Int))+(i:Int))
 have Ai:=BD (s:=df r (h:Int) (i:Int)) u.1 l.2.1
 refine dh cu 12 kr<|lJ 4 [] (mc 0 U I) U<|dS (BI U (vg ⟨om,om⟩))<|dP 2 [] I ?_
 refine dS (CL (qL bl blA blC ((5*(h:Int))+(i:Int)) hbl hbn sd) (bh [11]) U) ?_
 refine dS (CL (FX (df r (h:Int) (i:Int)) (BT bl ((5*(h:Int))+(i:Int))) sd sd) (aK) U) ?_
 refine dS (BI U (nM om om om))<|kX 2 U<|cK<|aF<|aH<|KK AC<|an<|rP 2 [] I ?_
 refine aF ?_
 have BR:(vI (((h+1):Nat):Int))=(vI ((h:Int)+1)):=by exact cI om
 refine aT (y ⟨((h+1),(n+((H2 (df r (h:Int) (i:Int)) (BT bl ((5*(h:Int))+(i:Int))))/10)),d.Out),⟨om,by have h_:=ti C hbl M (c:=5*(h:Int)+(i:Int)); simpa [AH] using h_⟩⟩ _ _ _ U os (cP 10<|bo U BR<|dy.nil _) (aL [1,2,3,4,5,6,7,8,9,10,11,12]))
end
section
open Go.RowKit
def iB {α:Type} (cells:α→List Value) (sz:Nat) (R:World→α→Prop) (w:World) (s:aN):Prop:= ∃ l:List α,s.n=l.length∧(rd s.a l.length sz (l.map cells)).holds w∧(∀ x∈l,R w x)∧l.length≤maxLen∧s.n≤s.c
theorem uW {w:World} {R:World→cH→Prop}: ∀ {l:List du},(∀ x∈l,iB cH.cells 3 R w x.bx)→ ∃ (ms:List au) (az:List RA),l.map du.cells=List.zipWith au.cells ms az∧ms.length=l.length∧az.length=l.length∧(∀ X∈aS au.gW ms az,X.holds w)∧
 (∀ (k:Nat) m (a:RA),ms[k]? =some m→az[k]? =some a→m.bx.length≤a.2∧m.bx.length≤9223372036854775807)∧ms.map (fun m=>m.dj)=l.map (fun x=>x.dj)∧ ∀ (k:Nat) m y,ms[k]? =some m→y∈m.bx→R w y
 |[],_=>⟨[],[],rfl,rfl,rfl,(fun X hX=>by cases hX),(fun k m a h=>by simp at h),rfl,(fun k m y h=>by simp at h)⟩
 |x::l,h=>by
  obtain ⟨ms,az,E,F,G,H,AA,J,K⟩:=uW (fun y hy=>h y (cW _ hy))
  obtain ⟨sy,A,B,C,D,L⟩:=h x sm
  have e4':sy.length≤9223372036854775807:=D
  refine ⟨⟨x.dj,sy⟩::ms,(x.bx.a,x.bx.c)::az,?_,by simp [F],by simp [G],fun X hX=>?_,fun k m a hm ha=>?_,by simp [J],fun k m y hm hy=>?_⟩
  ·obtain ⟨dr,⟨a,n,c⟩⟩:=x
   simp only at A
   subst A
   simp only [List.map_cons,List.zipWith_cons_cons,E]
   rfl
  ·rcases List.mem_append.1 hX with hX|hX
   ·simp only [au.gW,bX] at hX
    subst hX; exact B
   ·exact H X hX
  ·cases k with
   |zero=>
    simp only [List.getElem?_cons_zero,Option.some.injEq] at hm ha
    subst hm ha
    exact ⟨by simp only; omega,e4'⟩
   |succ k=>exact AA k m a (by simpa using hm) (by simpa using ha)
  ·cases k with
   |zero=>
    simp only [List.getElem?_cons_zero,Option.some.injEq] at hm
    subst hm
    exact C y hy
   |succ k=>exact K k m y (by simpa using hm) hy
theorem HJ {w:World} {s:bJ} {R1:World→ao→Prop} {R2:World→du→Prop} {R3:World→bG→Prop} {R4:World→cH→Prop} (h1:iB ao.cells 9 R1 w s.aJ.kK) (hs: ∀ x,R1 w x→0≤x.iT∧x.iT≤255) (h2:iB du.cells 2 R2 w s.ai) (hc: ∀ x,R2 w x→iB cH.cells 3 R4 w x.bx) (h3:iB bG.cells 4 R3 w s.ag):
 ∃ (l:bf) (az:List RA) (kA:OA) (kC:Nat) (cA:OA) (cC:Nat) (bA:OA) (bC:Nat),s=bJ.mk (aZ.mk (aN.mk kA l.aJ.length kC)) l.dG (aN.mk cA l.ai.length cC) (aN.mk bA l.ag.length bC) l.bI l.cy l.bL∧sY l az∧
  ((rd kA l.aJ.length 9 (l.aJ.map ao.cells)).holds w∧(rd cA l.ai.length 2 (List.zipWith au.cells l.ai az)).holds w∧(fc (aS au.gW l.ai az)).holds w∧(rd bA l.ag.length 4 (l.ag.map bG.cells)).holds w)∧l.dG=s.dG∧l.bI=s.bI∧l.cy=s.cy∧l.bL=s.bL:=by
 obtain ⟨⟨⟨ka,kn,kc⟩⟩,fa,⟨ca,cn,cc⟩,⟨ba,bn,bc⟩,fi,fk,mi⟩:=s
 obtain ⟨ts,E,M,N,O,T⟩:=h1
 obtain ⟨cs,B,C,H,AA,R⟩:=h2
 obtain ⟨bs,A,F,P,G,Q⟩:=h3
 simp only at E B A
 subst E B A
 obtain ⟨ms,az,J,D,S,K,L,_⟩:=uW (fun x hx=>hc x (H x hx))
 have t4':ts.length≤9223372036854775807:=O
 have c4':cs.length≤9223372036854775807:=AA
 have b4':bs.length≤9223372036854775807:=G
 refine ⟨⟨ts,fa,ms,bs,fi,fk,mi⟩,az,ka,kc,ca,cc,ba,bc,by simp only [D],⟨t4',fun x hx=>hs x (N x hx),by simp only; omega,by simp only; omega,b4',L⟩,⟨M,?_,K,F⟩,U,U,U,U⟩
 simp only at C ⊢
 rw [D,← J]; exact C
end
section
open Go.RowKit
theorem xW {w:World} {R:World→aO→Prop}: ∀ {l:List bw},(∀ x∈l,iB aO.cells 2 R w x.cz.aj)→ ∃ (ms:List aw) (az:List RA),l.map bw.cells=List.zipWith aw.cells ms az∧ms.length=l.length∧az.length=l.length∧(∀ X∈aS aw.gW ms az,X.holds w)∧
 ∀ d∈ms,d.cz.aj.length≤9223372036854775807
 |[],_=>⟨[],[],rfl,rfl,rfl,(fun X hX=>by cases hX),fun d h=>by cases h⟩
 |x::l,h=>by
  obtain ⟨ms,az,D,E,F,G,H⟩:=xW (fun y hy=>h y (cW _ hy))
  obtain ⟨sg,A,B,AA,C,J⟩:=h x sm
  have e4':sg.length≤9223372036854775807:=C
  refine ⟨⟨x.Out,x.eO,x.Time,⟨x.cz.Start,x.cz.gj,sg⟩⟩::ms,(x.cz.aj.a,x.cz.aj.c)::az,?_,by simp [E],by simp [F],fun X hX=>?_,fun d hd=>?_⟩
  ·obtain ⟨o,f,t,⟨st,nw,⟨a,n,c⟩⟩⟩:=x
   simp only at A
   subst A
   simp only [List.map_cons,List.zipWith_cons_cons,D]
   rfl
  ·rcases List.mem_append.1 hX with hX|hX
   ·simp only [aw.gW,bX] at hX
    subst hX; exact B
   ·exact G X hX
  ·rcases List.mem_cons.1 hd with rfl|hd
   ·exact e4'
   ·exact H d hd
theorem xZ {w:World} {R2:World→bw→Prop} {R:World→aO→Prop} (hc: ∀ x,R2 w x→iB aO.cells 2 R w x.cz.aj): ∀ {l:List aN},(∀ x∈l,iB bw.cells 7 R2 w x)→ ∃ (ms:List (List aw)) (ha:List cS),(l.map fun s=>[vS s.a s.n s.c])=List.zipWith cD ms ha∧ms.length=l.length∧ha.length=l.length∧(∀ X∈aS im ms ha,X.holds w)∧
 ∀ (k:Nat) h (a:cS),ms[k]? =some h→ha[k]? =some a→h.length≤9223372036854775807∧a.2.length=h.length∧ ∀ d∈h,d.cz.aj.length≤9223372036854775807
 |[],_=>⟨[],[],rfl,rfl,rfl,(fun X hX=>by cases hX),(fun k h a q=>by simp at q)⟩
 |x::l,h=>by
  obtain ⟨ms,ha,J,K,L,M,N⟩:=xZ hc (fun y hy=>h y (cW _ hy))
  obtain ⟨ds,C,G,H,AA,P⟩:=h x sm
  obtain ⟨dm,az,D,B,O,E,F⟩:=xW fun y hy=>hc y (H y hy)
  have e4':ds.length≤9223372036854775807:=AA
  refine ⟨dm::ms,((x.a,x.c),az)::ha,?_,by simp [K],by simp [L],fun X hX=>?_,fun k m a hm A=>?_⟩
  ·obtain ⟨a,n,c⟩:=x
   simp only at C
   subst C
   simp only [List.map_cons,List.zipWith_cons_cons,J,cD,B]
  ·rcases List.mem_append.1 hX with hX|hX
   ·unfold im at hX
    rcases List.mem_cons.1 hX with rfl|hX
    ·simp only
     rw [B,← D]; exact G
    ·exact E X hX
   ·exact M X hX
  ·cases k with
   |zero=>
    simp only [List.getElem?_cons_zero,Option.some.injEq] at hm A
    subst hm A
    exact ⟨om,by simp only; omega,F⟩
   |succ k=>exact N k m a (by simpa using hm) (by simpa using A)
theorem Gj {w:World} {s:bu} {R1:World→ao→Prop} {R2:World→du→Prop} {R3:World→bG→Prop} {R4:World→cH→Prop} {R5:World→Int→Prop} {R6:World→aN→Prop} {R7:World→bw→Prop} {R8:World→aO→Prop}
 (h1:iB ao.cells 9 R1 w s.ah.aJ.kK) (hs: ∀ x,R1 w x→0≤x.iT∧x.iT≤255) (h2:iB du.cells 2 R2 w s.ah.ai) (hc: ∀ x,R2 w x→iB cH.cells 3 R4 w x.bx) (h3:iB bG.cells 4 R3 w s.ah.ag)
 (h4:iB iC 1 R5 w s.aI) (h5:iB iC 1 R5 w s.bD) (h6:iB (fun s=>[vS s.a s.n s.c]) 1 R6 w s.aq) (h7: ∀ x,R6 w x→iB bw.cells 7 R7 w x) (h8: ∀ x,R7 w x→iB aO.cells 2 R8 w x.cz.aj):
 ∃ (r:cd) (az:List RA) (ha:List cS) (kA:OA) (kC:Nat) (cA:OA) (cC:Nat) (bA:OA) (bC:Nat) (slA:OA) (slC:Nat) (drA:OA) (drC:Nat) (heA:OA) (heC:Nat),
  s=bu.mk (bJ.mk (aZ.mk (aN.mk kA r.ah.aJ.length kC)) r.ah.dG (aN.mk cA r.ah.ai.length cC) (aN.mk bA r.ah.ag.length bC) r.ah.bI r.ah.cy r.ah.bL) (aN.mk slA r.aI.length slC) (aN.mk drA r.bD.length drC) r.dZ (aN.mk heA r.aq.length heC)∧qW r az ha∧
  ((rd kA r.ah.aJ.length 9 (r.ah.aJ.map ao.cells)).holds w∧(rd cA r.ah.ai.length 2 (List.zipWith au.cells r.ah.ai az)).holds w∧(fc (aS au.gW r.ah.ai az)).holds w∧(rd bA r.ah.ag.length 4 (r.ah.ag.map bG.cells)).holds w∧
   (rd slA r.aI.length 1 (r.aI.map iC)).holds w∧(rd drA r.bD.length 1 (r.bD.map iC)).holds w∧(rd heA r.aq.length 1 (List.zipWith cD r.aq ha)).holds w∧(fc (aS im r.aq ha)).holds w):=by
 obtain ⟨ln,⟨sa,sn,sc⟩,⟨da,dn,dc⟩,tu,⟨ea,en,ec⟩⟩:=s
 obtain ⟨l,az,kA,kC,cA,cC,bA,bC,e,A,hh,_⟩:=HJ (s:=ln) h1 hs h2 hc h3
 subst e
 obtain ⟨sl,F,N,T,O,AA⟩:=h4
 obtain ⟨dr,B,G,P,H,Q⟩:=h5
 obtain ⟨he,D,E,L,M,S⟩:=h6
 obtain ⟨ms,ha,AB,C,R,J,K⟩:=xZ h8 (fun x hx=>h7 x (L x hx))
 simp only at F B D
 subst F B D
 have s4':sl.length≤9223372036854775807:=O
 have d4':dr.length≤9223372036854775807:=H
 have q4':he.length≤9223372036854775807:=M
 refine ⟨⟨l,sl,dr,tu,ms⟩,az,ha,kA,kC,cA,cC,bA,bC,sa,sc,da,dc,ea,ec,by simp only [C],⟨A,s4',d4',by simp only; omega,by simp only; omega,K⟩,hh.1,hh.2.1,hh.2.2.1,hh.2.2.2,N,G,?_,J⟩
 simp only at E ⊢
 rw [C,← AB]; exact E
end
section
open Go.ChangeShapes Go.WideShapes Go.ChangeAt Go.RowKit
theorem UQ:Tryz.prog.cellsOf 32=11:=by kernel_rfl
theorem Tm:Tryz.prog.cellsOf 28=7:=by kernel_rfl
theorem Rk:Tryz.prog.cellsOf 24=1:=by kernel_rfl
theorem Ve:Tryz.prog.cellsOf 22=1:=by kernel_rfl
theorem ON:Tryz.prog.cellsOf 122=9:=by kernel_rfl
theorem AP:Tryz.prog.cellsOf 3=1:=by kernel_rfl
def zz (w:World) (n:Int):Prop:=pZ n
theorem AM:qP Tryz.prog 3 Int iC zz:=Qg oG
theorem D4:Tryz.prog.cellsOf 38=2:=by kernel_rfl
structure Dw (w:World) (s:aa):Prop where
 Lo:zz w s.Lo
 Hi:zz w s.Hi
theorem Uh:fL Tryz.prog 38=some [(3,0),(3,1)]:=by kernel_rfl
theorem Hz:qP Tryz.prog 38 aa aa.cells Dw:=fun {H} enc w base sp A fuel cs x h=>by
 obtain ⟨hl,hp⟩:=jq Uh h
 obtain ⟨M,O,F⟩:=hp 0 3 0 rfl
 obtain ⟨K,B,AA⟩:=AM _ _ _ _ _ _ _ _ F
 obtain ⟨N,P,G⟩:=hp 1 3 1 rfl
 obtain ⟨L,C,J⟩:=AM _ _ _ _ _ _ _ _ G
 refine ⟨⟨K,L⟩,?_,⟨AA,J⟩⟩
 have E:=gT (hl.trans D4) (by rw [AP]) C
 have D:=dq B (m:=1) (by rw [AP]) E
 exact D
theorem VF:Tryz.prog.cellsOf 5=1:=by kernel_rfl
def Vs (w:World) (n:Int):Prop:=0≤n∧n≤255
theorem VE:qP Tryz.prog 5 Int Ky Vs:=Tg TB
structure LB (w:World) (s:ao):Prop where
 Id:zz w s.Id
 kf:Dw w s.kf
 lB:Dw w s.lB
 eM:Dw w s.eM
 iT:Vs w s.iT
 An:zz w s.An
theorem Ra:fL Tryz.prog 122=some [(3,0),(38,1),(38,3),(38,5),(5,7),(3,8)]:=by kernel_rfl
theorem SB:qP Tryz.prog 122 ao ao.cells LB:=fun {H} enc w base sp A fuel cs x h=>by
 obtain ⟨hl,hp⟩:=jq Ra h
 obtain ⟨g,o,O⟩:=hp 0 3 0 rfl
 obtain ⟨a,B,AA⟩:=AM _ _ _ _ _ _ _ _ O
 obtain ⟨i,p,P⟩:=hp 1 38 1 rfl
 obtain ⟨b,C,V⟩:=Hz _ _ _ _ _ _ _ _ P
 obtain ⟨j,q,Q⟩:=hp 2 38 3 rfl
 obtain ⟨c,D,W⟩:=Hz _ _ _ _ _ _ _ _ Q
 obtain ⟨k,r,R⟩:=hp 3 38 5 rfl
 obtain ⟨d,E,X⟩:=Hz _ _ _ _ _ _ _ _ R
 obtain ⟨l,s,S⟩:=hp 4 5 7 rfl
 obtain ⟨e,F,Y⟩:=VE _ _ _ _ _ _ _ _ S
 obtain ⟨n,t,T⟩:=hp 5 3 8 rfl
 obtain ⟨f,G,Z⟩:=AM _ _ _ _ _ _ _ _ T
 refine ⟨⟨a,b,c,d,e,f⟩,?_,⟨AA,V,W,X,Y,Z⟩⟩
 have N:=gT (hl.trans ON) (by rw [AP]) G
 have M:=dq F (m:=8) (by rw [VF]) N
 have L:=dq E (m:=7) (by rw [D4]) M
 have K:=dq D (m:=5) (by rw [D4]) L
 have J:=dq C (m:=3) (by rw [D4]) K
 have AB:=dq B (m:=1) (by rw [AP]) J
 exact AB
def Q0 (w:World) (s:aN):Prop:= ∃ l:List ao,s.n=l.length∧(rd s.a l.length 9 (l.map ao.cells)).holds w∧(∀ x∈l,LB w x)∧l.length≤maxLen∧s.n≤s.c
theorem UY:qP Tryz.prog 22 aN (fun s=>[vS s.a s.n s.c]) Q0:=kU Qz ON SB
structure Rh (w:World) (s:aZ):Prop where
 kK:Q0 w s.kK
theorem Uw:fL Tryz.prog 24=some [(22,0)]:=by kernel_rfl
theorem UM:qP Tryz.prog 24 aZ aZ.cells Rh:=fun {H} enc w base sp A fuel cs x h=>by
 obtain ⟨hl,hp⟩:=jq Uw h
 obtain ⟨G,AA,D⟩:=hp 0 22 0 rfl
 obtain ⟨F,B,E⟩:=UY _ _ _ _ _ _ _ _ D
 refine ⟨⟨F⟩,?_,⟨E⟩⟩
 have C:=gT (hl.trans Rk) (by rw [Ve]) B
 exact C
theorem UA:Tryz.prog.cellsOf 25=1:=by kernel_rfl
theorem O9:Tryz.prog.cellsOf 127=2:=by kernel_rfl
theorem S6:Tryz.prog.cellsOf 125=1:=by kernel_rfl
theorem O_:Tryz.prog.cellsOf 124=3:=by kernel_rfl
structure Ij (w:World) (s:cH):Prop where
 At:zz w s.At
 eC:Dw w s.eC
theorem Rd:fL Tryz.prog 124=some [(3,0),(38,1)]:=by kernel_rfl
theorem Sw:qP Tryz.prog 124 cH cH.cells Ij:=fun {H} enc w base sp A fuel cs x h=>by
 obtain ⟨hl,hp⟩:=jq Rd h
 obtain ⟨M,O,F⟩:=hp 0 3 0 rfl
 obtain ⟨K,B,AA⟩:=AM _ _ _ _ _ _ _ _ F
 obtain ⟨N,P,G⟩:=hp 1 38 1 rfl
 obtain ⟨L,C,J⟩:=Hz _ _ _ _ _ _ _ _ G
 refine ⟨⟨K,L⟩,?_,⟨AA,J⟩⟩
 have E:=gT (hl.trans O_) (by rw [D4]) C
 have D:=dq B (m:=1) (by rw [AP]) E
 exact D
def OE (w:World) (s:aN):Prop:= ∃ l:List cH,s.n=l.length∧(rd s.a l.length 3 (l.map cH.cells)).holds w∧(∀ x∈l,Ij w x)∧l.length≤maxLen∧s.n≤s.c
theorem S3:qP Tryz.prog 125 aN (fun s=>[vS s.a s.n s.c]) OE:=kU Oz O_ Sw
structure L6 (w:World) (s:du):Prop where
 dj:zz w s.dj
 bx:OE w s.bx
theorem Ts:fL Tryz.prog 127=some [(3,0),(125,1)]:=by kernel_rfl
theorem R_:qP Tryz.prog 127 du du.cells L6:=fun {H} enc w base sp A fuel cs x h=>by
 obtain ⟨hl,hp⟩:=jq Ts h
 obtain ⟨M,O,F⟩:=hp 0 3 0 rfl
 obtain ⟨K,B,AA⟩:=AM _ _ _ _ _ _ _ _ F
 obtain ⟨N,P,G⟩:=hp 1 125 1 rfl
 obtain ⟨L,C,J⟩:=S3 _ _ _ _ _ _ _ _ G
 refine ⟨⟨K,L⟩,?_,⟨AA,J⟩⟩
 have E:=gT (hl.trans O9) (by rw [S6]) C
 have D:=dq B (m:=1) (by rw [AP]) E
 exact D
def S7 (w:World) (s:aN):Prop:= ∃ l:List du,s.n=l.length∧(rd s.a l.length 2 (l.map du.cells)).holds w∧(∀ x∈l,L6 w x)∧l.length≤maxLen∧s.n≤s.c
theorem UU:qP Tryz.prog 25 aN (fun s=>[vS s.a s.n s.c]) S7:=kU Rq O9 R_
theorem Vd:Tryz.prog.cellsOf 26=1:=by kernel_rfl
theorem O6:Tryz.prog.cellsOf 129=4:=by kernel_rfl
theorem Pd:Tryz.prog.cellsOf 119=3:=by kernel_rfl
structure Pa (w:World) (s:cM):Prop where
 aY:zz w s.aY
 mm:Dw w s.mm
theorem Sd:fL Tryz.prog 119=some [(3,0),(38,1)]:=by kernel_rfl
theorem Rz:qP Tryz.prog 119 cM cM.cells Pa:=fun {H} enc w base sp A fuel cs x h=>by
 obtain ⟨hl,hp⟩:=jq Sd h
 obtain ⟨M,O,F⟩:=hp 0 3 0 rfl
 obtain ⟨K,B,AA⟩:=AM _ _ _ _ _ _ _ _ F
 obtain ⟨N,P,G⟩:=hp 1 38 1 rfl
 obtain ⟨L,C,J⟩:=Hz _ _ _ _ _ _ _ _ G
 refine ⟨⟨K,L⟩,?_,⟨AA,J⟩⟩
 have E:=gT (hl.trans Pd) (by rw [D4]) C
 have D:=dq B (m:=1) (by rw [AP]) E
 exact D
structure LD (w:World) (s:bG):Prop where
 mx:Pa w s.mx
 jN:zz w s.jN
theorem Q6:fL Tryz.prog 129=some [(119,0),(3,3)]:=by kernel_rfl
theorem Ri:qP Tryz.prog 129 bG bG.cells LD:=fun {H} enc w base sp A fuel cs x h=>by
 obtain ⟨hl,hp⟩:=jq Q6 h
 obtain ⟨M,O,F⟩:=hp 0 119 0 rfl
 obtain ⟨K,B,AA⟩:=Rz _ _ _ _ _ _ _ _ F
 obtain ⟨N,P,G⟩:=hp 1 3 3 rfl
 obtain ⟨L,C,J⟩:=AM _ _ _ _ _ _ _ _ G
 refine ⟨⟨K,L⟩,?_,⟨AA,J⟩⟩
 have E:=gT (hl.trans O6) (by rw [AP]) C
 have D:=dq B (m:=3) (by rw [Pd]) E
 exact D
def Te (w:World) (s:aN):Prop:= ∃ l:List bG,s.n=l.length∧(rd s.a l.length 4 (l.map bG.cells)).holds w∧(∀ x∈l,LD w x)∧l.length≤maxLen∧s.n≤s.c
theorem UJ:qP Tryz.prog 26 aN (fun s=>[vS s.a s.n s.c]) Te:=kU PM O6 Ri
structure Ta (w:World) (s:bJ):Prop where
 aJ:Rh w s.aJ
 dG:zz w s.dG
 ai:S7 w s.ai
 ag:Te w s.ag
 bI:zz w s.bI
 cy:zz w s.cy
 bL:zz w s.bL
theorem Ug:fL Tryz.prog 28=some [(24,0),(3,1),(25,2),(26,3),(3,4),(3,5),(3,6)]:=by kernel_rfl
theorem UZ:qP Tryz.prog 28 bJ bJ.cells Ta:=fun {H} enc w base sp A fuel cs x h=>by
 obtain ⟨hl,hp⟩:=jq Ug h
 obtain ⟨n,u,Q⟩:=hp 0 24 0 rfl
 obtain ⟨e,B,X⟩:=UM _ _ _ _ _ _ _ _ Q
 obtain ⟨o,v,R⟩:=hp 1 3 1 rfl
 obtain ⟨f,C,Y⟩:=AM _ _ _ _ _ _ _ _ R
 obtain ⟨p,y,S⟩:=hp 2 25 2 rfl
 obtain ⟨g,D,Z⟩:=UU _ _ _ _ _ _ _ _ S
 obtain ⟨q,z,T⟩:=hp 3 26 3 rfl
 obtain ⟨i,E,a⟩:=UJ _ _ _ _ _ _ _ _ T
 obtain ⟨r,y4,AA⟩:=hp 4 3 4 rfl
 obtain ⟨j,F,b⟩:=AM _ _ _ _ _ _ _ _ AA
 obtain ⟨s,y5,V⟩:=hp 5 3 5 rfl
 obtain ⟨k,G,c⟩:=AM _ _ _ _ _ _ _ _ V
 obtain ⟨t,y6,W⟩:=hp 6 3 6 rfl
 obtain ⟨l,AB,d⟩:=AM _ _ _ _ _ _ _ _ W
 refine ⟨⟨e,f,g,i,j,k,l⟩,?_,⟨X,Y,Z,a,b,c,d⟩⟩
 have P:=gT (hl.trans Tm) (by rw [AP]) AB
 have O:=dq G (m:=6) (by rw [AP]) P
 have N:=dq F (m:=5) (by rw [AP]) O
 have M:=dq E (m:=4) (by rw [Vd]) N
 have L:=dq D (m:=3) (by rw [UA]) M
 have K:=dq C (m:=2) (by rw [AP]) L
 have J:=dq B (m:=1) (by rw [Rk]) K
 exact J
theorem Sx:Tryz.prog.cellsOf 29=1:=by kernel_rfl
def Qn (w:World) (s:aN):Prop:= ∃ l:List Int,s.n=l.length∧(rd s.a l.length 1 (l.map iC)).holds w∧(∀ x∈l,zz w x)∧l.length≤maxLen∧s.n≤s.c
theorem S9:qP Tryz.prog 29 aN (fun s=>[vS s.a s.n s.c]) Qn:=kU SF AP AM
theorem TX:Tryz.prog.cellsOf 30=1:=by kernel_rfl
theorem Ub:Tryz.prog.cellsOf 47=1:=by kernel_rfl
theorem RF:Tryz.prog.cellsOf 46=7:=by kernel_rfl
theorem Vt:Tryz.prog.cellsOf 4=1:=by kernel_rfl
def U5 (w:World) (n:Bool):Prop:=True
theorem Vr:qP Tryz.prog 4 Bool (fun b=>[vB b]) U5:=NR RG
theorem Rb:Tryz.prog.cellsOf 44=3:=by kernel_rfl
theorem TV:Tryz.prog.cellsOf 42=1:=by kernel_rfl
theorem O3:Tryz.prog.cellsOf 131=2:=by kernel_rfl
structure Kn (w:World) (s:aO):Prop where
 gl:zz w s.gl
 Read:zz w s.Read
theorem Sb:fL Tryz.prog 131=some [(3,0),(3,1)]:=by kernel_rfl
theorem SL:qP Tryz.prog 131 aO aO.cells Kn:=fun {H} enc w base sp A fuel cs x h=>by
 obtain ⟨hl,hp⟩:=jq Sb h
 obtain ⟨M,O,F⟩:=hp 0 3 0 rfl
 obtain ⟨K,B,AA⟩:=AM _ _ _ _ _ _ _ _ F
 obtain ⟨N,P,G⟩:=hp 1 3 1 rfl
 obtain ⟨L,C,J⟩:=AM _ _ _ _ _ _ _ _ G
 refine ⟨⟨K,L⟩,?_,⟨AA,J⟩⟩
 have E:=gT (hl.trans O3) (by rw [AP]) C
 have D:=dq B (m:=1) (by rw [AP]) E
 exact D
def Rc (w:World) (s:aN):Prop:= ∃ l:List aO,s.n=l.length∧(rd s.a l.length 2 (l.map aO.cells)).holds w∧(∀ x∈l,Kn w x)∧l.length≤maxLen∧s.n≤s.c
theorem Vl:qP Tryz.prog 42 aN (fun s=>[vS s.a s.n s.c]) Rc:=kU RE O3 SL
structure Tq (w:World) (s:eK):Prop where
 Start:zz w s.Start
 gj:zz w s.gj
 aj:Rc w s.aj
theorem TL:fL Tryz.prog 44=some [(3,0),(3,1),(42,2)]:=by kernel_rfl
theorem UP:qP Tryz.prog 44 eK eK.cells Tq:=fun {H} enc w base sp A fuel cs x h=>by
 obtain ⟨hl,hp⟩:=jq TL h
 obtain ⟨R,AA,AB⟩:=hp 0 3 0 rfl
 obtain ⟨O,B,L⟩:=AM _ _ _ _ _ _ _ _ AB
 obtain ⟨S,V,J⟩:=hp 1 3 1 rfl
 obtain ⟨P,C,M⟩:=AM _ _ _ _ _ _ _ _ J
 obtain ⟨T,W,K⟩:=hp 2 42 2 rfl
 obtain ⟨Q,D,N⟩:=Vl _ _ _ _ _ _ _ _ K
 refine ⟨⟨O,P,Q⟩,?_,⟨L,M,N⟩⟩
 have G:=gT (hl.trans Rb) (by rw [TV]) D
 have F:=dq C (m:=2) (by rw [AP]) G
 have E:=dq B (m:=1) (by rw [AP]) F
 exact E
structure PS (w:World) (s:bw):Prop where
 Out:U5 w s.Out
 eO:U5 w s.eO
 Time:Dw w s.Time
 cz:Tq w s.cz
theorem TW:fL Tryz.prog 46=some [(4,0),(4,1),(38,2),(44,4)]:=by kernel_rfl
theorem Ul:qP Tryz.prog 46 bw bw.cells PS:=fun {H} enc w base sp A fuel cs x h=>by
 obtain ⟨hl,hp⟩:=jq TW h
 obtain ⟨W,a,K⟩:=hp 0 4 0 rfl
 obtain ⟨S,B,O⟩:=Vr _ _ _ _ _ _ _ _ K
 obtain ⟨X,b,L⟩:=hp 1 4 1 rfl
 obtain ⟨T,C,P⟩:=Vr _ _ _ _ _ _ _ _ L
 obtain ⟨Y,c,M⟩:=hp 2 38 2 rfl
 obtain ⟨AA,D,Q⟩:=Hz _ _ _ _ _ _ _ _ M
 obtain ⟨Z,d,N⟩:=hp 3 44 4 rfl
 obtain ⟨V,E,R⟩:=UP _ _ _ _ _ _ _ _ N
 refine ⟨⟨S,T,AA,V⟩,?_,⟨O,P,Q,R⟩⟩
 have J:=gT (hl.trans RF) (by rw [Rb]) E
 have AB:=dq D (m:=4) (by rw [D4]) J
 have G:=dq C (m:=2) (by rw [Vt]) AB
 have F:=dq B (m:=1) (by rw [Vt]) G
 exact F
def QD (w:World) (s:aN):Prop:= ∃ l:List bw,s.n=l.length∧(rd s.a l.length 7 (l.map bw.cells)).holds w∧(∀ x∈l,PS w x)∧l.length≤maxLen∧s.n≤s.c
theorem TZ:qP Tryz.prog 47 aN (fun s=>[vS s.a s.n s.c]) QD:=kU QY RF Ul
def Tc (w:World) (s:aN):Prop:= ∃ l:List aN,s.n=l.length∧(rd s.a l.length 1 (l.map (fun s=>[vS s.a s.n s.c]))).holds w∧(∀ x∈l,QD w x)∧l.length≤maxLen∧s.n≤s.c
theorem UF:qP Tryz.prog 30 aN (fun s=>[vS s.a s.n s.c]) Tc:=kU S8 Ub TZ
structure Vj (w:World) (s:bu):Prop where
 ah:Ta w s.ah
 aI:Qn w s.aI
 bD:Qn w s.bD
 dZ:zz w s.dZ
 aq:Tc w s.aq
theorem RP:fL Tryz.prog 32=some [(28,0),(29,7),(29,8),(3,9),(30,10)]:=by kernel_rfl
theorem TI:qP Tryz.prog 32 bu bu.cells Vj:=fun {H} enc w base sp A fuel cs x h=>by
 obtain ⟨hl,hp⟩:=jq RP h
 obtain ⟨b,g,M⟩:=hp 0 28 0 rfl
 obtain ⟨W,B,R⟩:=UZ _ _ _ _ _ _ _ _ M
 obtain ⟨c,i,N⟩:=hp 1 29 7 rfl
 obtain ⟨X,C,S⟩:=S9 _ _ _ _ _ _ _ _ N
 obtain ⟨d,j,O⟩:=hp 2 29 8 rfl
 obtain ⟨Y,D,T⟩:=S9 _ _ _ _ _ _ _ _ O
 obtain ⟨e,k,P⟩:=hp 3 3 9 rfl
 obtain ⟨Z,E,AA⟩:=AM _ _ _ _ _ _ _ _ P
 obtain ⟨f,l,Q⟩:=hp 4 30 10 rfl
 obtain ⟨a,F,V⟩:=UF _ _ _ _ _ _ _ _ Q
 refine ⟨⟨W,X,Y,Z,a⟩,?_,⟨R,S,T,AA,V⟩⟩
 have L:=gT (hl.trans UQ) (by rw [TX]) F
 have K:=dq E (m:=10) (by rw [AP]) L
 have J:=dq D (m:=9) (by rw [Sx]) K
 have AB:=dq C (m:=8) (by rw [Sx]) J
 have G:=dq B (m:=7) (by rw [Tm]) AB
 exact G
theorem U8:Tryz.prog.cellsOf 89=1:=by kernel_rfl
def RQ (w:World) (n:Int):Prop:=0≤n∧n≤4294967295
theorem UI:qP Tryz.prog 89 Int pV RQ:=PG SW
def TK (w:World) (s:aN):Prop:= ∃ l:List Int,s.n=l.length∧(rd s.a l.length 1 (l.map pV)).holds w∧(∀ x∈l,RQ w x)∧l.length≤maxLen∧s.n≤s.c
theorem Vm:qP Tryz.prog 33 aN (fun s=>[vS s.a s.n s.c]) TK:=kU Tj U8 UI
theorem Ac:ownKnob Tryz.prog.godebug=none:=by kernel_rfl
theorem yi:laidOutB Tryz.prog=true:=by kernel_rfl
theorem vu (os:Os) (started:os.Started) (H:Type) (enc:TypeId×Value→H):
 ReturnsInHanded {} Tryz.checked os 3 .any (fun w args=>(Rows.raceTrueSpec.pre enc Tryz.prog Tryz.f3 [] false w args∧laidMetH Tryz.prog [("kreisel/race.table",Rows.laid_kreisel_race_table)] w)∧sizedMet enc Tryz.prog Tryz.f3 (OpenSpec.ofChange Rows.raceTrueSpec) false w args) (Rows.raceTrueSpec.post enc Tryz.prog Tryz.f3 false true false false):=by
 refine returnsInHanded_of_change_and (C:=Tryz.checked) (X:=(fun w _=>laidMetH Tryz.prog [("kreisel/race.table",Rows.laid_kreisel_race_table)] w)) (fun _ _ _ hh h=>h.of_heap hh) Ac started kr Tryz.func3
  (ChangeSpec.witness_shaped (enc:=enc) (C:=Tryz.checked) (os:=os) (X:=(fun w _=>laidMetH Tryz.prog [("kreisel/race.table",Rows.laid_kreisel_race_table)] w)) false (World.doorLaid Tryz.prog 400 os) #[.agg #[(vS none 0 0),(vI 0),(vS none 0 0),(vS none 0 0),(vI 0),(vI 0),(vI 0),(vS none 0 0),(vS none 0 0),(vI 0),(vS none 0 0)],vS none 0 0] 8 rfl (World.shaped_of_RefB kr kr) kr kr kr (Eo os _)) ?_
 intro W base args ds gs before AB hW _ _ hL _
 have D: ∀ (j:Nat) t v,Tryz.f3.params[j]? =some t→args[j]? =some v→Value.okWide Tryz.prog W .any base t v:=AB
 have hW':=hW
 obtain ⟨p,q,O,hV,rfl,c,d⟩:=hW
 have hA:DataW.TrodAll enc Tryz.prog W 0 (fun _=>true) true Tryz.f3.params.toList args.toList ds p:=O
 have J:=hA
 rw [Tryz.params3] at hA D
 obtain ⟨AA,k,m,Y,o,u,P,rfl,rfl,a,f⟩:=trodAll_cons hA
 obtain ⟨V,l,n,Z,s,y,rfl,rfl,rfl,b,g⟩:=trodAll_cons f
 obtain ⟨rfl,rfl,rfl⟩:=trodAll_nil g
 obtain rfl:args= #[AA,V]:=by cases args; simp_all
 obtain ⟨rfl,rfl⟩:=trodVars_none hV
 obtain ⟨z,rfl,R0⟩:=D8 RP TI (D 0 32 AA rfl rfl) a
 obtain ⟨i,rfl,R1⟩:=GF Vm Tj (D 1 33 V rfl rfl) b
 simp only [List.append_nil] at hW' J
 have N:=yd hL
 obtain ⟨r,az,ha,kA,kC,cA,cC,bA,bC,S,T,drA,drC,Q,R,rfl,L,B⟩:=Gj (R1:=LB) (R2:=L6) (R3:=LD) (R4:=Ij) (R5:=zz) (R6:=QD) (R7:=PS) (R8:=Kn) R0.ah.aJ.kK (fun x hx=>hx.iT) R0.ah.ai (fun x hx=>hx.bx) R0.ah.ag R0.aI R0.bD R0.aq (fun x hx=>hx) (fun x hx=>hx.cz.aj)
 obtain ⟨lA,ln,lC⟩:=i
 obtain ⟨bl,K,E,F,G⟩:=R1
 simp only at K E
 subst K
 have M:=(Dd r kA kC az cA cC bA bC S T drA drC ha Q R bl lA lC L (fun x hx=>F x hx) G.1).run W (by intro A hA; simp only [ew,List.not_mem_nil,or_false] at hA; rcases hA with rfl|rfl|rfl|rfl|rfl|rfl|rfl|rfl|rfl|rfl; exact N; exact B.1; exact B.2.1; exact B.2.2.1; exact B.2.2.2.1; exact B.2.2.2.2.1; exact B.2.2.2.2.2.1; exact B.2.2.2.2.2.2.1; exact B.2.2.2.2.2.2.2; exact E)
 refine (M).mono fun e W' ⟨he,hk⟩=>?_
 subst he
 exact ⟨_,U,JA yi hW' J U U kr hk.below kr RG⟩
theorem wk:Rows.RaceTrueSaid:=
 OpenClaim.holds_of_wide 3 Tryz.f3 rfl rfl rfl rfl rfl rfl rfl ⟨rfl,rfl,rfl,rfl,rfl⟩ rfl rfl rfl rfl rfl kr Tryz.func3 vo
  (of_decide_eq_true kr) (by unfold Func.isWrapper; first|(rw [if_pos (by decide+kernel)]; kernel_rfl)|(rw [if_neg (by decide+kernel)]; exact ⟨rfl,rfl⟩))
  (fun os started H enc _=>vu os started H enc)
/-- the statement -/
theorem raceTrue_said:Rows.RaceTrueCardSaid:=
 Claim7.holds_tied_plain_at .later [] [.funcsDeep] true (true,"d707d603fef6756814c027381744b2c541b0acfb8d070f8830a75e59a0686e6d") true
  wk (fun _ h=>by cases h) kr (fun _ h=>by cases h) raceTrue_row_tie rfl ⟨rfl,rfl⟩ kr rfl
  (fun f fn hf B=>by
   obtain rfl:f=3:=Option.some.inj ((show Tryz.prog.funcNamed "kreisel/kreisellaw06.RaceTrue"=some 3 by kernel_rfl).symm.trans hf) |>.symm
   obtain rfl:fn=Tryz.f3:=(Option.some.inj (Tryz.func3.symm.trans B)).symm
   exact ⟨kr,fun j t ht=>by
    rw [Tryz.params3] at ht
    have hm:t∈([32,33]:List Nat):=by simpa using Array.mem_of_getElem? ht
    have A:(([32,33]:List Nat).all fun u=> !Tryz.prog.wantsStandIn u)=true:=by kernel_rfl
    exact (show Tryz.prog.wantsStandIn t=false by simpa using List.all_eq_true.1 A t hm)⟩)
  kr
#print axioms raceTrue_said
end
end Go.Proofs.YtdllkkdchkhimaaGreatDoor
