/-
 The statement juryExamples_said, part 7 of 7: Jwc, Rr1, WLe, Ends5, Can, False, Sim, Clear, Ways, Async, WayM, Jz1, Jz2, Jz3, Jwb, Jz4, Rx8, Jx1, Rx1, Jx2, Jx3, Jx5, ExamplesJ0.
 Conditions: none.
-/
import Derived.Test.YtkaenmjhfajbkaaGreatDoorTw1
import Derived.Test.YtkaenmjhfajbkaaGreatDoorTw2
import Derived.Test.YtkaenmjhfajbkaaGreatDoorTw3
import Derived.Test.YtkaenmjhfajbkaaGreatDoorTw4
import Derived.Test.YtkaenmjhfajbkaaGreatDoorTw5
import Derived.Test.YtkaenmjhfajbkaaGreatDoorTw6
import Derived.Test.YtkaenmjhfajbkaaGreatDoorCards
import Derived.Test.YtkaenmjhfajbkaaGreatDoorTie
import Derived.SevenTiedAt
import Derived.LaidMore
import Derived.Stop.Joined
import Derived.Test.YtkaenmjhfajbkaaGreatDoorRows
import Derived.Test.YtkaenmjhfajbkaaGreatDoorProg
import Derived.KernelRfl
namespace Go.Proofs.YtkaenmjhfajbkaaGreatDoor
set_option maxRecDepth 100000
set_option maxHeartbeats 4000000
set_option linter.unusedVariables false
section
open Go.RowKit
theorem MI (j:cn) (kA:OA) (kC:Nat) (az:List RA) (cA:OA) (cC:Nat) (bA:OA) (bC:Nat) (slA:OA) (slC:Nat) (drA:OA) (drC:Nat) (ha:List cg) (heA:OA) (heC:Nat) (faA:OA) (faC:Nat) (prA:OA) (prC:Nat) (kq:Int) (hin:eB j az ha):
 lX Tryz.prog 33 [(vA (fH.cells (lY j kA kC cA cC bA bC slA slC drA drC heA heC faA faC prA prC))),(vI kq)] [(rd ek 3 2 dH),(rd kA j.Race.ak.aU.length 9 (j.Race.ak.aU.map av.cells)),(rd cA j.Race.ak.ar.length 2 (List.zipWith aB.cells j.Race.ak.ar az)),(dw (aX aB.gQ j.Race.ak.ar az)),(rd bA j.Race.ak.aa.length 4 (j.Race.ak.aa.map bD.cells)),(rd slA j.Race.aR.length 1 (j.Race.aR.map iC)),(rd drA j.Race.b_.length 1 (j.Race.b_.map iC)),(rd heA j.Race.ax.length 1 (List.zipWith cc j.Race.ax ha)),(dw (aX ep j.Race.ax ha)),(rd faA j.aC.length 4 (j.aC.map aI.cells)),(rd prA j.aD.length 5 (j.aD.map aV.cells))] (fun (x:(List RA)×(OA)×Nat)=>(vT [(vS x.2.1 ((nS j kq).length) x.2.2),(vI (yN j kq))])) (fun (x:(List RA)×(OA)×Nat)=>x.1.length=(nS j kq).length) (fun (x:(List RA)×(OA)×Nat)=>[(own x.2.1 x.2.2 29 1 (List.zipWith qQ (nS j kq) x.1)),(bx (aX yX (nS j kq) x.1))]):=by
 have o:=hin.race
 have g:=hin.race.line
 have r:=hin.race.gv
 have s:=hin.race.has
 have p:=hin.race.gD
 have m:=hin.nf
 have n:=hin.np
 refine dI kr Tryz.func33 U U fun v Q hQ hN=>?_
 try dsimp only
 refine WS fun _ W=>e8 U fun t=>br 2 U<|RK W<|WS fun _ X=>gO 1 [] (mc 0 U I) U<|rS (CL (m_ j kA kC az cA cC bA bC slA slC drA drC ha heA heC faA faC prA prC hin) (aY [1,2,3,4,5,6,7,8,9,10,11]) U)<|br 3 U<|AL U xU fun u=>fF U wk U<|br 1 U<|RK X<|aw fun _ Y=>WS fun _ Z=>rP 2 [] I ?_
 refine RK Z<|cO U (bI fun A=>?_) (bH fun A=>?_)
 ·refine WS fun _ a=>?_
  have B:(nS j kq)=[]:=(by exact (Am A).1)
  have C:([]:List RA).length=(nS j kq).length:=by rw [B]; rfl
  refine fy 29 1<|vN ?_
  rw [show (own none 0 29 1 ([]:List (List Value)))=own none 0 29 1 (List.zipWith qQ (nS j kq) []) from by rw [B]; rfl,show bx []=bx (aX yX (nS j kq) []) from by rw [B]; rfl]
  refine br 1 U<|rP 2 [] I ?_
  refine RK a<|ay ?_
  refine LX hQ ([],none,0) [1,0] [] I U (by show List.all _ _=true; simp only [gf,List.all_nil,nQ,Bool.and_true]; rfl) U ?_ ?_
  ·(have e:=Am (k:=kq) A; rw [e.1,e.2]; rfl)
  ·exact C
 refine WK Y<|aw fun _ b=>WS fun _ c=>rP 5 [] (mc 1 U I) ?_
 refine dr (xs:=[.tmp 20]) (cs:=[(vI kq)]) U de iy U U U U (by simp [Value.cells]) U U fun S=>?_
 refine rS (CL (c_.eq (fh 0 ((j.aC.length:Int)-1) ([kq]) (some ⟨S,0,none⟩) 1 (by (simp; done))) bL) (ai (aT 0 U U (by simp [bp]) U)<|aH) U) ?_
 refine rP 1 [] I ?_
 refine RK c<|cO U (bI fun V=>?_) (bH fun V=>?_)
 ·refine WS fun _ G=>?_
  have B:(nS j kq)=[]:=(by exact (vh A om).1)
  have C:([]:List RA).length=(nS j kq).length:=by rw [B]; rfl
  refine fy 29 1<|vN ?_
  rw [show (own none 0 29 1 ([]:List (List Value)))=own none 0 29 1 (List.zipWith qQ (nS j kq) []) from by rw [B]; rfl,show bx []=bx (aX yX (nS j kq) []) from by rw [B]; rfl]
  refine rP 2 [] I ?_
  refine RK G<|ay ?_
  refine LX hQ ([],none,0) [1,0] [] I U (by show List.all _ _=true; simp only [gf,List.all_nil,nQ,Bool.and_true]; rfl) U ?_ ?_
  ·(have e:=vh (k:=kq) A om; rw [e.1,e.2]; rfl)
  ·exact C
 refine WK b<|aw fun _ H=>dE cu [1,10,11,12,13,14] [] [] [0,1,2,3,4,5,6,7,8,9,10,11,12,13] [] U U U U U<|eS U (LW 1 U ct U U)<|eS U (FA 11 U fc U)<|eS U (L1 (vS faA j.aC.length faC) 2 U ct U U)<|eS U (FA 11 U fc U)<|eS U (L1 (vS faA j.aC.length faC) 2 U ct U U)<|eS U (MV U) ?_
 obtain ⟨f,hf⟩:=aO j.aC ((kq).toNat) om
 have d:=cD aI.cells hf
 refine eS U (IA ((kq).toNat) U (aQ 12 U) uJ dc om om)<|eS U (nz ((kq).toNat) 0 (aI.cells f) U ct (aQ 12 U) d U dc U U)<|eS U (CL (rV j.aC faA faC f asm) (aY [12]) U)<|eS U (AG U)<|er U<|cb U fun T13 AB=>jy (kV:=iV) U U fun D=>?_
 try dsimp only
 refine aK (AB _ _ (aS [1,2,3,4,5,6,7,8,9,10,11,12,13,14]) ?_)
 refine cb U fun T15 J=>?_
 have O:(c3 ([]:List (Int×Bool)) (iM j.aC f) true)=[(iM j.aC f,true)]:=by rfl
 refine qs (kV:=iV) (x:=(iM j.aC f)) (C':=[(iB iV D (b0 vB ([(iM j.aC f,true)]))),_,_,_,_,_,_,_,_,_,_,_,_,_,_]) 0 U U U U ud (fM pq) U ((ei _ _ _ _).symm.trans (congrArg _ O)) U<|aK (J _ _ (aS [1,2,3,4,5,6,7,8,9,10,11,12,13,14]) ?_)
 refine cb U fun T17 K=>rS (MV U)<|aK (K _ _ (aS [1,2,3,4,5,6,7,8,9,10,11,12,13,14]) ?_)
 refine cb U fun T18 L=>cX (Ee D j kA kC cA cC bA bC slA slC drA drC heA heC faA faC prA prC) (aH) U fun i q=>?_
 obtain ⟨T,E⟩:=i
 try dsimp only
 refine aK (L _ _ (aS [3,4,5,6,7,8,9,10,11,12,13,14,15,16]) ?_)
 refine cb U fun T23 M=>cX (zK ([(iM j.aC f,true)]) D j kA kC az cA cC bA bC slA slC drA drC ha heA heC faA faC prA prC T E hin asm) (aY [2,7,8,9,10,11,12,13,14,15,16,0,1]) U fun l P=>?_
 obtain ⟨F,R,AA⟩:=l
 try dsimp only
 have C:=P
 refine aK (M _ _ (aS [5,6,7,8,9,10,11,12,13,14,15,16,17,18]) ?_)
 refine cb U fun T29 N=>?_
 have h:(e5 j (iR j.aC ([(iM j.aC f,true)])))=(nS j kq):=by exact (CQ A om hf).1.symm
 rw [h] at C ⊢
 refine rS (AG U)<|aK (N _ _ (aS [5,6,7,8,9,10,11,12,13,14,15,16,17,18]) ?_)
 refine fD U<|KK H<|ay ?_
 refine LX hQ (F,R,AA) [0,1] [] I U (by show List.all _ _=true; simp only [gf,List.all_nil,nQ,Bool.and_true]; rfl) U ?_ ?_
 ·(rw [(CQ A om hf).2]; rfl)
 ·exact C
end
section
open Go.RowKit
theorem xf (la:List Int) (laA:OA) (laC:Nat) (lb:List Int) (lbA:OA) (lbC:Nat) (h1:la.length≤1000000) (h2:lb.length≤1000000):
 c_ Tryz.prog 47 [(vS laA la.length laC),(vS lbA lb.length lbC)] [(rd laA la.length 1 (la.map iC)),(rd lbA lb.length 1 (lb.map iC))] (vB (decide (la=lb))):=by
 refine bq kr Tryz.func47 U U fun V Q hQ hN=>?_
 try dsimp only
 refine WS fun _ J=>br 1 U<|RK J<|aw fun _ K=>WS fun _ L=>rP 5 [] I ?_
 refine RK L<|cO U (bI fun hl=>?_) (bH fun hl=>?_)
 ·refine WS fun _ M=>rP 1 [] I ?_
  refine RK M<|ay<|Q1 hQ U U U ?_
  exact cB (eV (fun e=>by subst e; omega)).symm
 refine WK K<|aw fun _ N=>WS fun _ O=>rP 1 [] I ?_
 refine RK O<|aL ?_
 have A:(0≤la.length)∧(la.take 0=lb.take 0):=by simp
 refine cq (ι:={z:Nat // (z≤la.length)∧(la.take z=lb.take z)}) [0,1] [0,1] U U (fun z=>[(5,(vI (z.1:Int)))]) (fun z=>[]) (fun _=>rfl) (fun _=>rfl) (fun z=>la.length-z.1) ⟨0,A⟩ (bw U) (aS [0,1]) ?_
 clear A
 rintro ⟨i,⟨S,B⟩⟩ J7 AB
 try dsimp only
 refine aw fun _ P=>WS fun _ R=>rP 4 [] I ?_
 refine RK R<|cP U (bf fun H=>?_) (bc fun H=>?_)
 ·refine bV<|ao<|ao<|aM<|KK N<|WS fun _ F=>rP 1 [] I ?_
  refine RK F<|ay<|Q1 hQ U U U ?_
  exact cB (gX (sD om B om)).symm
 refine WK P<|aw fun _ C=>aL<|aw fun _ D=>dh cu 9 kr<|dP 2 [] I ?_
 obtain ⟨x,hx⟩:=aO la i om
 have T:=cD iC hx
 refine dS (IA i U (aQ 0 U) de dc om om)<|dS (iY i 0 (vI x) U ct (aQ 0 U) T U dc U)<|dP 2 [] I ?_
 obtain ⟨y,hy⟩:=aO lb i om
 have AA:=cD iC hy
 refine dS (IA i U (aQ 1 U) de dc om om)<|dS (iY i 0 (vI y) U ct (aQ 1 U) AA U dc U)<|dP 1 [] I ?_
 refine du<|RK D<|cO U (bI fun h=>?_) (bH fun h=>?_)
 ·refine WS fun _ E=>rP 1 [] I ?_
  refine RK E<|ay<|Q1 hQ U U U ?_
  exact cB (eV (si hx hy h)).symm
 refine cT<|aW<|KK C<|aF<|rP 3 [] I ?_
 refine aK ?_
 have G:(vI (((i+1):Nat):Int))=(vI ((i:Int)+1)):=by exact cI om
 refine bu (AB ⟨(i+1),⟨om,qn B hx hy h⟩⟩ _ _ _ U os (eb.cons U<|eb.cons U<|bJ U G<|eb.nil _) (aS [0,1]))
end
section
structure zy (w w':bG):Prop where
 start:w'.Start=w.Start
 now:w.gp≤w'.gp
 n:w'.n=w.n
 least: ∀ b,bZ w' b≤bZ w b
 times:w'.qY=w.qY
 Jt:w.eR≤w'.eR
 KL:w.fZ≤w'.fZ
 sigs:w'.J1=w.J1
variable {w w':bG}
theorem zy.opt (h:zy w w') {b:Nat} {o:Int×ab} (ho:o∈gP w b): ∃ o'∈gP w' b,o'.1=o.1∧o'.2.Lo≤o.2.Lo∧o.2.Hi≤o'.2.Hi:=by
 unfold gP at ho
 rcases bB.1 ho with rfl|ho
 ·exact ⟨(-1,⟨w'.Start,w'.gp⟩),cf ..,U,by simp only [h.start]; omega,h.now⟩
 ·refine ⟨o,db _ ?_,U,Int.le_refl _,Int.le_refl _⟩
  unfold pG at ho ⊢; rw [h.times]; exact ho
theorem zy.may (h:zy w w') {t:aA} (ht:lx w t=true):lx w' t=true:=by
 unfold lx at ht ⊢
 have:=of_decide_eq_true ht
 have A:=h.Jt
 have B:=h.KL
 have C:=h.sigs
 exact gX om
theorem zy.fwd (h:zy w w'): ∀ (b:Nat) (p:aA×Int),p∈fwd w b→ ∃ p'∈Go.Proofs.YtkaenmjhfajbkaaGreatDoor.fwd w' b,p'.1=p.1∧p'.2≤p.2:=by
 intro b
 induction b with
 |zero=>
  intro p hp
  simp only [Go.Proofs.YtkaenmjhfajbkaaGreatDoor.fwd,bW] at hp ⊢
  subst hp
  exact ⟨_,U,U,by simp only [h.start]; omega⟩
 |succ b ih=>
  intro q hq
  obtain ⟨p,hp,o,ho,e⟩:=eh.1 hq
  obtain ⟨p',hp',A,D⟩:=ih p hp
  obtain ⟨o',ho',B,E,F⟩:=h.opt ho
  have hl:=h.least b
  have hn:=h.now
  unfold iZ at e
  split at e
  ·rename_i C
   simp only [Option.some.injEq] at e
   subst e
   refine ⟨(dv p'.1 (eo o'.1),max (p'.2+bZ w' b) o'.2.Lo),eh.2 ⟨p',hp',o',ho',by unfold iZ; rw [if_pos om]⟩,by simp only [A,B],by simp only; omega⟩
  ·cases e
theorem zy.bwd (h:zy w w'): ∀ (k:Nat) (p:aA×Int),p∈bwd w k→ ∃ p'∈Go.Proofs.YtkaenmjhfajbkaaGreatDoor.bwd w' k,p'.1=p.1∧p.2≤p'.2:=by
 intro k
 induction k with
 |zero=>
  intro p hp
  simp only [Go.Proofs.YtkaenmjhfajbkaaGreatDoor.bwd,bW] at hp ⊢
  subst hp
  exact ⟨_,U,U,h.now⟩
 |succ k ih=>
  intro q hq
  simp only [Go.Proofs.YtkaenmjhfajbkaaGreatDoor.bwd,bB,List.mem_flatMap,List.mem_filterMap] at hq ⊢
  rcases hq with rfl|⟨p,hp,o,ho,e⟩
  ·exact ⟨_,.inl U,U,h.now⟩
  ·obtain ⟨p',hp',A,D⟩:=ih p hp
   obtain ⟨o',ho',B,E,F⟩:=h.opt ho
   have hl:=h.least (w.n-(k+1))
   rw [h.n]
   unfold lq at e
   split at e
   ·rename_i C
    simp only [Option.some.injEq] at e
    subst e
    exact ⟨(dv p'.1 (eo o'.1),min p'.2 o'.2.Hi-bZ w' (w.n-(k+1))),.inr ⟨p',hp',o',ho',by unfold lq; rw [if_pos om]⟩,by simp only [A,B],by simp only; omega⟩
   ·cases e
theorem zy.back (h:zy w w') {b:Nat} {p:aA×Int} (hp:p∈back w b): ∃ p'∈Go.Proofs.YtkaenmjhfajbkaaGreatDoor.back w' b,p'.1=p.1∧p.2≤p'.2:=by
 unfold Go.Proofs.YtkaenmjhfajbkaaGreatDoor.back at hp ⊢
 rw [h.n]
 exact h.bwd _ p hp
theorem zy.pass (h:zy w w') {b:Nat} {q:Int×ab} (hq:q∈lT w b): ∃ q'∈lT w' b,q'.1=q.1∧q'.2.Lo≤q.2.Lo∧q.2.Hi≤q'.2.Hi:=by
 obtain ⟨o,ho,p,hp,u,hu,e⟩:=fW.1 hq
 obtain ⟨D,E,rfl⟩:=g6.1 e
 obtain ⟨o',ho',A,F,G⟩:=h.opt ho
 obtain ⟨p',hp',B,H⟩:=h.fwd _ p hp
 obtain ⟨u',hu',C,AA⟩:=h.back hu
 have hl:=h.least b
 simp only [hE] at D
 refine ⟨(o'.1,hE w' b p' u' o'),fW.2 ⟨o',ho',p',hp',u',hu',g6.2 ⟨?_,?_,U⟩⟩,A,?_,?_⟩
 ·simp only [hE]; omega
 ·have:=h.may E
  unfold sJ at this ⊢
  rw [A,B,C]; exact this
 ·simp only [hE]; omega
 ·simp only [hE]; omega
theorem p4 {k:Int}:k∈hG w↔ ∃ i:Nat,k=(i:Int)∧i≤w.n∧iL w (fwd w i)=true:=by
 unfold hG iO
 simp only [cp,List.mem_filter,List.mem_range]
 constructor
 ·rintro ⟨i,⟨B,A⟩,rfl⟩; exact ⟨i,rfl,om,A⟩
 ·rintro ⟨i,rfl,B,A⟩; exact ⟨i,⟨om,A⟩,rfl⟩
theorem zy.B8 (h:zy w w') {k:Int} (hk:k∈hG w):k∈hG w':=by
 obtain ⟨i,rfl,C,A⟩:=p4.1 hk
 refine p4.2 ⟨i,U,by rw [h.n]; exact C,?_⟩
 unfold iL at A ⊢
 obtain ⟨p,hp,D⟩:=List.any_eq_true.1 A
 obtain ⟨p',hp',B,_⟩:=h.fwd _ p hp
 exact List.any_eq_true.2 ⟨p',hp',by rw [B]; exact h.may D⟩
/-- two rides, of two lines, of which one allows more -/
structure M1 (l:bk) (r:cM) (l':bk) (r':cM):Prop where
 line:dR l=0
 line':dR l'=0
 qf:fE l r
 ride':fE l' r'
 w:zy (cr l r) (cr l' r')
 K2:l'.aa.length=l.aa.length
variable {l l':bk} {r r':cM}
theorem M1.ok (h:M1 l r l' r') (he:dA l r 0=0):dA l' r' 0=0:=by
 refine jV h.line' h.ride' U fun e=>?_
 obtain ⟨k,hk⟩:=List.exists_mem_of_ne_nil _ (g7 he).2.2.2
 have:=h.w.B8 hk
 rw [e] at this; cases this
theorem M1.zx (h:M1 l r l' r') {k:Int} (hk:k∈fp l r):k∈fp l' r':=by
 by_cases he:dA l r 0=0
 ·rw [iF he] at hk
  rw [iF (h.ok he)]
  exact h.w.B8 hk
 ·rw [kz he] at hk; cases hk
theorem BT {b:Nat}:bZ (cr l r) b=if b<l.aa.length then k8 l b else 0:=by
 unfold bZ cr cN
 split
 ·rename_i h
  simp [h]
 ·rename_i h
  simp [h]
end
section
/-- where a sled may be after k beams more -/
def eT (w:bG):Nat→Nat→aA×Int→List (aA×Int)
 |0,_,p=>[p]
 |k+1,b,p=>(gP w b).flatMap fun o=>match iZ w b p o with
  |some q=>eT w k (b+1) q
  |none=>[]
variable {w:bG}
theorem gr {k b:Nat} {p q:aA×Int}:q∈eT w (k+1) b p↔ ∃ o∈gP w b,∃ p',iZ w b p o=some p'∧q∈eT w k (b+1) p':=by
 simp only [eT,List.mem_flatMap]
 constructor
 ·rintro ⟨o,ho,h⟩
  cases e:iZ w b p o with
  |none=>rw [e] at h; cases h
  |some p'=>rw [e] at h; exact ⟨o,ho,p',e,h⟩
 ·rintro ⟨o,ho,p',e,h⟩
  exact ⟨o,ho,by rw [e]; exact h⟩
theorem tW: ∀ (k b:Nat) (q:aA×Int),q∈fwd w (b+k)↔ ∃ p∈fwd w b,q∈eT w k b p:=by
 intro k
 induction k with
 |zero=>
  intro b q
  simp only [Nat.add_zero,eT,bW]
  exact ⟨fun h=>⟨q,h,rfl⟩,fun ⟨p,hp,e⟩=>e▸hp⟩
 |succ k ih=>
  intro b q
  rw [show b+(k+1)=(b+1)+k by omega,ih]
  constructor
  ·rintro ⟨p',hp',h⟩
   obtain ⟨p,hp,o,ho,e⟩:=eh.1 hp'
   exact ⟨p,hp,gr.2 ⟨o,ho,p',e,h⟩⟩
  ·rintro ⟨p,hp,h⟩
   obtain ⟨o,ho,p',e,h'⟩:=gr.1 h
   exact ⟨p',eh.2 ⟨p,hp,o,ho,e⟩,h'⟩
theorem fX {b:Nat} {p q:aA×Int} {o:Int×ab}:iZ w b p o=some q↔max (p.2+bZ w b) o.2.Lo≤min o.2.Hi w.gp∧q=(dv p.1 (eo o.1),max (p.2+bZ w b) o.2.Lo):=by
 unfold iZ
 split
 ·rename_i h
  constructor
  ·intro e; cases e; exact ⟨h,rfl⟩
  ·rintro ⟨_,rfl⟩; rfl
 ·rename_i h
  constructor
  ·intro e; cases e
  ·rintro ⟨h',_⟩; exact absurd h' h
theorem qG {b:Nat} {p q:aA×Int} {o:Int×ab}:lq w b p o=some q↔o.2.Lo≤min p.2 o.2.Hi∧q=(dv p.1 (eo o.1),min p.2 o.2.Hi-bZ w b):=by
 unfold lq
 split
 ·rename_i h
  constructor
  ·intro e; cases e; exact ⟨h,rfl⟩
  ·rintro ⟨_,rfl⟩; rfl
 ·rename_i h
  constructor
  ·intro e; cases e
  ·rintro ⟨h',_⟩; exact absurd h' h
theorem BU {b:Nat} (hb:b≤w.n):((⟨0,0⟩:aA),w.gp)∈back w b:=by
 rcases Nat.lt_or_ge b w.n with h|h
 ·exact (mx h).2 (.inl U)
 ·rw [qh h]; simp
theorem qk (t:aA):dv t ⟨0,0⟩=t:=by cases t; simp [dv]
theorem tT (a o u:aA):dv (dv a o) u=dv a (dv u o):=by simp only [dv,aA.mk.injEq]; omega
theorem z_ (hl: ∀ b,0≤bZ w b): ∀ (k:Nat) (u:aA×Int),u∈bwd w k→u.2≤w.gp:=by
 intro k
 induction k with
 |zero=>intro u hu; simp only [bwd,bW] at hu; subst hu; exact Int.le_refl _
 |succ k ih=>
  intro u hu
  simp only [bwd,bB,List.mem_flatMap,List.mem_filterMap] at hu
  rcases hu with rfl|⟨p,hp,o,ho,e⟩
  ·exact Int.le_refl _
  ·obtain ⟨_,rfl⟩:=qG.1 e
   have:=ih p hp
   have:=hl (w.n-(k+1))
   simp only; omega
/-- what follows a passing is told by the way back -/
theorem Gb: ∀ (k b:Nat) (p q:aA×Int),b+k≤w.n→p.2≤w.gp→q∈eT w k b p→ ∃ u∈back w b,p.2≤u.2∧q.1=dv p.1 u.1:=by
 intro k
 induction k with
 |zero=>
  intro b p q hb hp hq
  simp only [eT,bW] at hq
  subst hq
  exact ⟨_,BU om,hp,(qk _).symm⟩
 |succ k ih=>
  intro b p q hb hp hq
  obtain ⟨o,ho,p',e,h⟩:=gr.1 hq
  obtain ⟨C,rfl⟩:=fX.1 e
  obtain ⟨u',hu',B,A⟩:=ih (b+1) _ q om (by simp only; omega) h
  simp only at B A
  refine ⟨(dv u'.1 (eo o.1),min u'.2 o.2.Hi-bZ w b),(mx om).2 (.inr ⟨u',hu',o,ho,qG.2 ⟨om,U⟩⟩),by simp only; omega,?_⟩
  rw [A,tT]
theorem CJ (hl: ∀ b,0≤bZ w b): ∀ (d b:Nat) (p u:aA×Int),w.n=b+d→p.2≤u.2→u∈back w b→ ∃ k,b+k≤w.n∧ ∃ q∈eT w k b p,q.1=dv p.1 u.1:=by
 intro d
 induction d with
 |zero=>
  intro b p u hd hp hu
  rw [qh om] at hu
  simp only [bW] at hu
  subst hu
  exact ⟨0,om,p,by simp [eT],(qk _).symm⟩
 |succ d ih=>
  intro b p u hd hp hu
  rcases (mx om).1 hu with rfl|⟨u',hu',o,ho,e⟩
  ·exact ⟨0,om,p,by simp [eT],(qk _).symm⟩
  ·obtain ⟨B,rfl⟩:=qG.1 e
   have hn:u'.2≤w.gp:=z_ hl _ _ hu'
   simp only at hp
   obtain ⟨k,hk,q,hq,A⟩:=ih (b+1) (dv p.1 (eo o.1),max (p.2+bZ w b) o.2.Lo) u' om (by simp only; omega) hu'
   refine ⟨k+1,om,q,gr.2 ⟨o,ho,_,fX.2 ⟨om,U⟩,hq⟩,?_⟩
   rw [A]; simp only; rw [tT]
end
section
section
variable {l:bk} {r:cM} {one at_:Int} {d:Nat} {f g m:Int} {rec:Int→Int→Int→Bool} {i:Int}
end
theorem DG {l:bk} {r:cM} {d:Nat} (hd:d<l.aa.length) {o:Int×ab}:o∈gP (cr l r) d↔o=(-1,⟨r.Start,r.gp⟩)∨ ∃ k,k<r.aj.length∧ ∃ s,r.aj[k]? =some s∧(s.e6=(d:Int)∧(dG l s).Lo≤(dG l s).Hi)∧o=((k:Int),dG l s):=by
 unfold gP pG
 show o∈(-1,(⟨r.Start,r.gp⟩:ab))::((bX l r.aj r.aj.length)[d]?).getD []↔_
 rw [mB hd,Option.getD_some,bB,o1]
end
section
def rF (w:bG) (b:Nat):Bool:=(lT w b).any fun q=>decide (0≤q.1)
def vG (w:bG) (k:Nat):List Int:=((List.range k).filter fun b=> !rF w b).map fun (b:Nat)=>(b:Int)
noncomputable def rO (l:bk) (r:cM):List Int:=if dA l r 0=0 then vG (cr l r) (kF (fp l r)).toNat else []
theorem r4 {l:bk} {r:cM} (h:dA l r 0=0):rO l r=vG (cr l r) (kF (fp l r)).toNat:=if_pos h
theorem sr {l:bk} {r:cM} (h: ¬ dA l r 0=0):rO l r=[]:=if_neg h
theorem Mx {l:bk} {r:cM} (h:dA l r 0=0):0≤kF (fp l r)∧kF (fp l r)≤(l.aa.length:Int):=by
 have A:=(AI (qo h)).1
 rw [iF h] at A ⊢
 obtain ⟨i,e,hi,_⟩:=p4.1 A
 have hn:(cr l r).n=l.aa.length:=cG
 omega
end
section
/-- a truth goes on from here -/
def pn (w:bG) (b:Nat) (p:aA×Int):Prop:= ∃ k,b+k≤w.n∧ ∃ q∈eT w k b p,lx w q.1=true
/-- a truth may have come here, or earlier -/
def x4 (w:bG) (b:Nat) (p:aA×Int):Prop:= ∃ v,(p.1,v)∈fwd w b∧v≤p.2
def FJ (n:Int) (p:aA×Int):aA×Int:=(p.1,p.2+n)
section
variable {w:bG}
theorem AN: ∀ (k j b:Nat) (p q z:aA×Int),q∈eT w k b p→z∈eT w j (b+k) q→z∈eT w (k+j) b p:=by
 intro k
 induction k with
 |zero=>
  intro j b p q z A B
  simp only [eT,bW] at A
  subst A
  rw [Nat.zero_add]; exact B
 |succ k ih=>
  intro j b p q z A B
  obtain ⟨o,ho,p',e,h⟩:=gr.1 A
  rw [show k+1+j=(k+j)+1 by omega]
  exact gr.2 ⟨o,ho,p',e,ih j (b+1) p' q z h (by rw [show b+1+k=b+(k+1) by omega]; exact B)⟩
theorem xZ: ∀ (k b:Nat) (t:aA) (x y:Int) (q:aA×Int),y≤x→q∈eT w k b (t,x)→ ∃ q'∈eT w k b (t,y),q'.1=q.1∧q'.2≤q.2:=by
 intro k
 induction k with
 |zero=>
  intro b t x y q A hq
  simp only [eT,bW] at hq ⊢
  subst hq
  exact ⟨_,U,U,A⟩
 |succ k ih=>
  intro b t x y q A hq
  obtain ⟨o,ho,p',e,h⟩:=gr.1 hq
  obtain ⟨B,rfl⟩:=fX.1 e
  simp only at B h
  obtain ⟨q',hq',C,D⟩:=ih (b+1) _ _ (max (y+bZ w b) o.2.Lo) q om h
  exact ⟨q',gr.2 ⟨o,ho,_,fX.2 ⟨by simp only; omega,U⟩,hq'⟩,C,D⟩
theorem ta {b:Nat} {t:aA} {x y:Int} (h:pn w b (t,x)) (hy:y≤x):pn w b (t,y):=by
 obtain ⟨k,hk,q,hq,hm⟩:=h
 obtain ⟨q',hq',e,_⟩:=xZ k b t x y q hy hq
 exact ⟨k,hk,q',hq',by rw [e]; exact hm⟩
theorem qE {k b:Nat} {p q:aA×Int} (h:q∈eT w k b p) (hv:pn w (b+k) q):pn w b p:=by
 obtain ⟨j,hj,z,hz,hm⟩:=hv
 exact ⟨k+j,om,z,AN k j b p q z h hz,hm⟩
theorem Cj {b:Nat} {p q:aA×Int} {o:Int×ab} (h:x4 w b p) (ho:o∈gP w b) (e:iZ w b p o=some q):x4 w (b+1) q:=by
 obtain ⟨v,hv,A⟩:=h
 obtain ⟨B,rfl⟩:=fX.1 e
 exact ⟨max (v+bZ w b) o.2.Lo,eh.2 ⟨_,hv,o,ho,fX.2 ⟨by simp only; omega,U⟩⟩,by simp only; omega⟩
theorem xw {b:Nat} {p:aA×Int} (h:p∈fwd w b):x4 w b p:=⟨p.2,h,Int.le_refl _⟩
theorem uk (hl: ∀ b,0≤bZ w b): ∀ (b:Nat) (p:aA×Int),p∈fwd w b→w.Start≤p.2:=by
 intro b
 induction b with
 |zero=>intro p hp; simp only [fwd,bW] at hp; subst hp; exact Int.le_refl _
 |succ b ih=>
  intro q hq
  obtain ⟨p,hp,o,ho,e⟩:=eh.1 hq
  obtain ⟨_,rfl⟩:=fX.1 e
  have:=ih p hp
  have:=hl b
  simp only; omega
/-- a beam is passed at a time, by a signal -/
def u3 (w:bG) (b:Nat) (s t:Int):Prop:= ∃ p∈fwd w b,∃ o∈gP w b,o.1=s∧(max (p.2+bZ w b) o.2.Lo≤t∧t≤min o.2.Hi w.gp)∧pn w (b+1) (dv p.1 (eo o.1),t)
theorem Az (hl: ∀ b,0≤bZ w b) {b:Nat} (hb:b<w.n) {s t:Int}:(∃ q∈lT w b,q.1=s∧q.2.Lo≤t∧t≤q.2.Hi)↔u3 w b s t:=by
 constructor
 ·rintro ⟨q,hq,hs,C,D⟩
  obtain ⟨o,ho,p,hp,u,hu,e⟩:=fW.1 hq
  obtain ⟨B,A,rfl⟩:=g6.1 e
  simp only [hE] at C D B
  have hn:u.2≤w.gp:=z_ hl _ _ hu
  obtain ⟨k,hk,q,hq',E⟩:=CJ hl (w.n-(b+1)) (b+1) (dv p.1 (eo o.1),t) u om (by simp only; omega) hu
  refine ⟨p,hp,o,ho,hs,⟨om,om⟩,k,hk,q,hq',?_⟩
  rw [E]
  unfold sJ at A
  rw [show dv (dv p.1 (eo o.1)) u.1=dv (dv p.1 u.1) (eo o.1) by simp only [dv,aA.mk.injEq]; omega]
  exact A
 ·rintro ⟨p,hp,o,ho,hs,⟨C,D⟩,k,hk,q,hq,hm⟩
  obtain ⟨u,hu,B,A⟩:=Gb k (b+1) _ q hk (by simp only; omega) hq
  simp only at B A
  refine ⟨(o.1,hE w b p u o),fW.2 ⟨o,ho,p,hp,u,hu,g6.2 ⟨by simp only [hE]; omega,?_,U⟩⟩,hs,by simp only [hE]; omega,by simp only [hE]; omega⟩
  unfold sJ
  rw [A] at hm
  rw [show dv (dv p.1 u.1) (eo o.1)=dv (dv p.1 (eo o.1)) u.1 by simp only [dv,aA.mk.injEq]; omega]
  exact hm
end
structure tn (w w':bG) (n:Int) (f:Int→Int):Prop where
 start:w'.Start=w.Start+n
 now:w'.gp=w.gp+n
 wn:w'.n=w.n
 low: ∀ b,0≤bZ w b
 least: ∀ b,bZ w' b=bZ w b
 may: ∀ t,lx w t=true→lx w' t=true
 NJ: ∀ s,0≤f s↔0≤s
 opt: ∀ (b:Nat) (p:aA×Int) (o:Int×ab),b<w.n→w.Start≤p.2→x4 w b p→o∈gP w b→max (p.2+bZ w b) o.2.Lo≤min o.2.Hi w.gp→pn w (b+1) (dv p.1 (eo o.1),max (p.2+bZ w b) o.2.Lo)→
  ∃ o'∈gP w' b,o'.1=f o.1∧ ∀ t,w.Start≤t→t≤w.gp→((o.2.Lo≤t∧t≤o.2.Hi)↔(o'.2.Lo≤t+n∧t+n≤o'.2.Hi))
section
variable {w w':bG} {n:Int} {f g:Int→Int}
theorem tn.one (h:tn w w' n f) (s:Int):eo (f s)=eo s:=by
 unfold eo
 have:=h.NJ s
 by_cases q:s<0
 ·rw [if_pos q,if_pos om]
 ·rw [if_neg q,if_neg om]
theorem tn.step (h:tn w w' n f) {b:Nat} {p q:aA×Int} {o:Int×ab} (hb:b<w.n) (hs:w.Start≤p.2) (hl:x4 w b p) (ho:o∈gP w b) (e:iZ w b p o=some q) (hv:pn w (b+1) q):
 ∃ o'∈gP w' b,iZ w' b (FJ n p) o'=some (FJ n q):=by
 obtain ⟨E,rfl⟩:=fX.1 e
 obtain ⟨o',ho',D,A⟩:=h.opt b p o hb hs hl ho E hv
 have F:=h.low b
 have B:=A (max (p.2+bZ w b) o.2.Lo) om om
 have C:=A (max (p.2+n+bZ w b) o'.2.Lo-n) om
 refine ⟨o',ho',fX.2 ?_⟩
 simp only [FJ,h.least,h.now]
 rw [D,h.one]
 have G:=B.1 om
 have H:=(C om).2 om
 refine ⟨om,?_⟩
 simp only [Prod.mk.injEq,true_and]
 omega
theorem tn.reach (h:tn w w' n f): ∀ (k b:Nat) (p q:aA×Int),b+k≤w.n→w.Start≤p.2→x4 w b p→q∈eT w k b p→pn w (b+k) q→FJ n q∈eT w' k b (FJ n p):=by
 intro k
 induction k with
 |zero=>
  intro b p q _ _ _ hq _
  simp only [eT,bW] at hq ⊢
  rw [hq]
 |succ k ih=>
  intro b p q hb hs hl hq hv
  obtain ⟨o,ho,p',e,hq'⟩:=gr.1 hq
  have hv':pn w (b+1) p':=qE hq' (by rw [show b+1+k=b+(k+1) by omega]; exact hv)
  obtain ⟨o',ho',e'⟩:=h.step om hs hl ho e hv'
  have A:=fX.1 e
  have B:=h.low b
  exact gr.2 ⟨o',ho',_,e',ih (b+1) p' q om (by rw [A.2]; simp only; omega) (Cj hl ho e) hq' (by rw [show b+1+k=b+(k+1) by omega]; exact hv)⟩
theorem tn.JJ (h:tn w w' n f) {b:Nat} {p:aA×Int} (hs:w.Start≤p.2) (hl:x4 w b p) (hv:pn w b p):pn w' b (FJ n p):=by
 obtain ⟨k,hk,q,hq,hm⟩:=hv
 exact ⟨k,by rw [h.wn]; exact hk,_,h.reach k b p q hk hs hl hq ⟨0,om,q,by simp [eT],hm⟩,h.may _ hm⟩
theorem tn.fwd (h:tn w w' n f) {b:Nat} {q:aA×Int} (hb:b≤w.n) (hq:q∈fwd w b) (hv:pn w b q):FJ n q∈Go.Proofs.YtkaenmjhfajbkaaGreatDoor.fwd w' b:=by
 obtain ⟨p,hp,hr⟩:=(tW b 0 q).1 (by rw [Nat.zero_add]; exact hq)
 have hr':=h.reach b 0 p q om (uk h.low 0 p hp) (xw hp) hr (by rw [Nat.zero_add]; exact hv)
 have:FJ n p∈Go.Proofs.YtkaenmjhfajbkaaGreatDoor.fwd w' 0:=by
  simp only [Go.Proofs.YtkaenmjhfajbkaaGreatDoor.fwd,bW] at hp ⊢
  subst hp
  rw [h.start]; rfl
 have A:=(tW b 0 (FJ n q)).2 ⟨_,this,hr'⟩
 rwa [Nat.zero_add] at A
theorem tn.any (h:tn w w' n f) {b:Nat} (hb:b≤w.n) (hm:iL w (Go.Proofs.YtkaenmjhfajbkaaGreatDoor.fwd w b)=true):iL w' (Go.Proofs.YtkaenmjhfajbkaaGreatDoor.fwd w' b)=true:=by
 unfold iL at hm ⊢
 obtain ⟨p,hp,A⟩:=List.any_eq_true.1 hm
 exact List.any_eq_true.2 ⟨_,h.fwd hb hp ⟨0,om,p,by simp [eT],A⟩,h.may _ A⟩
theorem tn.pass (h:tn w w' n f) {b:Nat} (hb:b<w.n) {s t:Int} (hp:u3 w b s t):u3 w' b (f s) (t+n):=by
 obtain ⟨p,hp,o,ho,rfl,⟨D,G⟩,hv⟩:=hp
 have hs:=uk h.low b p hp
 have hl:=h.low b
 have A:pn w (b+1) (dv p.1 (eo o.1),max (p.2+bZ w b) o.2.Lo):=ta hv D
 have e:iZ w b p o=some (dv p.1 (eo o.1),max (p.2+bZ w b) o.2.Lo):=fX.2 ⟨om,rfl⟩
 have B:pn w b p:=qE (k:=1) (gr.2 ⟨o,ho,_,e,by simp [eT]⟩) A
 obtain ⟨o',ho',C,E⟩:=h.opt b p o hb hs (xw hp) ho om A
 have c:=(E t om om).1 om
 refine ⟨FJ n p,h.fwd om hp B,o',ho',C,?_,?_⟩
 ·simp only [FJ,h.least,h.now]; omega
 ·have F:=h.JJ (b:=b+1) (p:=(dv p.1 (eo o.1),t)) (by simp only; omega) ⟨_,eh.2 ⟨p,hp,o,ho,e⟩,D⟩ hv
  rw [C,h.one]; exact F
theorem De (h:tn w w' n f) (h':tn w' w (-n) g):hG w'=hG w:=by
 unfold hG
 rw [h.wn]
 unfold iO
 congr 1
 refine List.filter_congr fun b hb=>?_
 have hb:=List.mem_range.1 hb
 rw [Bool.eq_iff_iff]
 exact ⟨h'.any (by rw [h.wn]; omega),h.any om⟩
theorem w7 (h:tn w w' n f) (hl': ∀ b,0≤bZ w' b) {b:Nat} (hb:b<w.n) {s:Int} (hq: ∃ q∈lT w b,q.1=s): ∃ q∈lT w' b,q.1=f s:=by
 obtain ⟨q,hq,e⟩:=hq
 have A:q.2.Lo≤q.2.Hi:=mL hq
 obtain ⟨q',hq',e',_⟩:=(Az hl' (by rw [h.wn]; exact hb)).2 (h.pass hb ((Az h.low hb).1 ⟨q,hq,e,Int.le_refl _,A⟩))
 exact ⟨q',hq',e'⟩
theorem Bn (h:tn w w' n f) (h':tn w' w (-n) g) {b:Nat} (hb:b<w.n):rF w' b=rF w b:=by
 rw [Bool.eq_iff_iff]
 unfold rF
 simp only [List.any_eq_true,decide_eq_true_eq]
 constructor
 ·rintro ⟨q,hq,A⟩
  obtain ⟨q',hq',e⟩:=w7 h' h.low (by rw [h.wn]; exact hb) ⟨q,hq,rfl⟩
  exact ⟨q',hq',by rw [e]; exact (h'.NJ _).2 A⟩
 ·rintro ⟨q,hq,A⟩
  obtain ⟨q',hq',e⟩:=w7 h h'.low hb ⟨q,hq,rfl⟩
  exact ⟨q',hq',by rw [e]; exact (h.NJ _).2 A⟩
end
section
variable {l l':bk} {r r':cM} {n:Int} {f g:Int→Int}
structure tq (l:bk) (r:cM) (l':bk) (r':cM) (n:Int) (f g:Int→Int):Prop where
 line:dR l=0
 line':dR l'=0
 qf:fE l r
 ride':fE l' r'
 K2:l'.aa.length=l.aa.length
 to:tn (cr l r) (cr l' r') n f
 On:tn (cr l' r') (cr l r) (-n) g
theorem tq.B8 (h:tq l r l' r' n f g):hG (cr l' r')=hG (cr l r):=De h.to h.On
theorem tq.e (h:tq l r l' r' n f g) {me:Int}:dA l' r' me=dA l r me:=by
 by_cases hm:me=0
 ·by_cases q:hG (cr l r)=[]
  ·rw [mU h.line h.qf hm q,mU h.line' h.ride' hm (h.B8.trans q)]
  ·rw [jV h.line h.qf hm q,jV h.line' h.ride' hm (by rw [h.B8]; exact q)]
 ·rw [n7 h.line h.qf hm,n7 h.line' h.ride' hm]
theorem tq.zx (h:tq l r l' r' n f g):fp l' r'=fp l r:=by
 by_cases q:dA l r 0=0
 ·rw [iF q,iF (h.e.trans q),h.B8]
 ·rw [kz q,kz (by rw [h.e]; exact q)]
theorem tq.bn (h:tq l r l' r' n f g):(cr l r).n=l.aa.length:=cG
theorem tq.eO (h:tq l r l' r' n f g):rO l' r'=rO l r:=by
 by_cases q:dA l r 0=0
 ·rw [r4 q,r4 (h.e.trans q),h.zx]
  have hb:=Mx q
  unfold vG
  congr 1
  refine List.filter_congr fun b A=>?_
  have A:=List.mem_range.1 A
  rw [Bn h.to h.On (by rw [h.bn]; omega)]
 ·rw [sr q,sr (by rw [h.e]; exact q)]
end
end
section
def kH (good:List Int):aA:=good.foldl (fun t g=>dv t (eo g)) ⟨0,0⟩
theorem nA {l:List Int} {g:Int}:kH (l++[g])=dv (kH l) (eo g):=by unfold kH; rw [List.foldl_append]; rfl
def pZ (r:cM) (times:List Int) (b:Nat):Int:=if b=0 then r.Start else (times[b-1]?).getD 0
theorem mP {r:cM} {times:List Int} {b:Nat} {t:Int} (h:times[b]? =some t):pZ r times (b+1)=t:=by unfold pZ; rw [if_neg om,Nat.add_sub_cancel,h]; rfl
structure g0 (l:bk) (r:cM) (times good:List Int):Prop where
 qf:fE l r
 len:good.length=times.length
 le:times.length≤l.aa.length
 step: ∀ (b:Nat) t,times[b]? =some t→pZ r times b+k8 l b≤t∧t≤r.gp
 sig: ∀ (b:Nat) t g,times[b]? =some t→good[b]? =some g→g= -1∨ ∃ (k:Nat) (s:aG),g=(k:Int)∧r.aj[k]? =some s∧s.e6=(b:Int)∧(dG l s).Lo≤t∧t≤(dG l s).Hi
 LO:(kH good).eO≤l.eR
 L9:(r.aj.length:Int)-(kH good).right≤l.fZ
section
variable {l:bk} {r:cM} {times good:List Int}
theorem g0.low (h:g0 l r times good) (hl:dR l=0): ∀ b,0≤bZ (cr l r) b:=fun b=>by
 obtain ⟨ht,A⟩:=en hl
 exact ((j_ ht A h.qf).bZ b).1
theorem g0.least (h:g0 l r times good) {b:Nat} (hb:b<times.length):bZ (cr l r) b=k8 l b:=by
 have:=h.le
 rw [BT,if_pos om]
theorem g0.from_ (h:g0 l r times good) (hl:dR l=0): ∀ b:Nat,b≤times.length→r.Start≤pZ r times b∧pZ r times b≤r.gp:=by
 intro b
 induction b with
 |zero=>intro _; have:=h.qf.time; unfold pZ; rw [if_pos rfl]; omega
 |succ b ih=>
  intro hb
  have ht:times[b]? =some (times[b]'om):=eP _
  have B:=ih om
  have C:=h.step b _ ht
  have A:=h.low hl b
  rw [h.least om] at A
  rw [mP ht]
  omega
/-- what comes next, in the truth -/
theorem g0.opt (h:g0 l r times good) (hl:dR l=0) {b:Nat} {t g:Int} (ht:times[b]? =some t) (hg:good[b]? =some g): ∃ o∈gP (cr l r) b,o.1=g∧o.2.Lo≤t∧t≤o.2.Hi:=by
 have hb:=(bg.1 ht).1
 have E:=h.le
 have F:=h.step b t ht
 have G:=h.from_ hl b om
 have B:=h.low hl b
 rw [h.least hb] at B
 rcases h.sig b t g ht hg with rfl|⟨k,s,rfl,hs,A,C,D⟩
 ·exact ⟨(-1,⟨r.Start,r.gp⟩),(DG om).2 (.inl U),U,by simp only; omega,by simp only; omega⟩
 ·exact ⟨((k:Int),dG l s),(DG om).2 (.inr ⟨k,(bg.1 hs).1,s,hs,⟨A,om⟩,U⟩),U,C,D⟩
theorem qz {α:Type} {l:List α} {b:Nat} {x:α} (h:l[b]? =some x):l.take (b+1)=l.take b++[x]:=by rw [List.take_add_one,h]; rfl
theorem g0.live (h:g0 l r times good) (hl:dR l=0): ∀ b:Nat,b≤times.length→x4 (cr l r) b (kH (good.take b),pZ r times b):=by
 intro b
 induction b with
 |zero=>intro _; exact ⟨r.Start,by simp [fwd,kH]; rfl,by unfold pZ; rw [if_pos rfl]; exact Int.le_refl _⟩
 |succ b ih=>
  intro hb
  have B:=h.len
  have ht:times[b]? =some (times[b]'om):=eP _
  have hg:good[b]? =some (good[b]'om):=eP _
  obtain ⟨v,hv,A⟩:=ih om
  obtain ⟨o,ho,e,C,D⟩:=h.opt hl ht hg
  have E:=h.step b _ ht
  have F:=h.least (b:=b) om
  simp only at A hv
  rw [mP ht,qz hg,nA,← e]
  refine ⟨max (v+bZ (cr l r) b) o.2.Lo,eh.2 ⟨_,hv,o,ho,fX.2 ⟨?_,U⟩⟩,?_⟩
  ·have G:(cr l r).gp=r.gp:=rfl
   simp only; omega
  ·simp only; omega
theorem g0.JJ (h:g0 l r times good) (hl:dR l=0): ∀ (d b:Nat),b+d=times.length→pn (cr l r) b (kH (good.take b),pZ r times b):=by
 intro d
 induction d with
 |zero=>
  intro b hb
  have hn:(cr l r).n=l.aa.length:=cG
  have C:=h.len
  have D:=h.le
  refine ⟨0,om,_,by simp [eT]; rfl,?_⟩
  rw [List.take_of_length_le om]
  unfold lx
  have A:=h.LO
  have B:=h.L9
  exact gX ⟨A,B⟩
 |succ d ih=>
  intro b hb
  have C:=h.len
  have ht:times[b]? =some (times[b]'om):=eP _
  have hg:good[b]? =some (good[b]'om):=eP _
  obtain ⟨o,ho,e,D,A⟩:=h.opt hl ht hg
  have B:=h.step b _ ht
  have E:=h.least (b:=b) om
  have F:(cr l r).gp=r.gp:=rfl
  have hv:=ih (b+1) om
  rw [mP ht,qz hg,nA,← e] at hv
  exact qE (k:=1) (gr.2 ⟨o,ho,_,fX.2 ⟨by first|omega|(simp only; omega),U⟩,by simp [eT]; rfl⟩) (ta hv (by first|omega|(simp only; omega)))
theorem g0.pass (h:g0 l r times good) (hl:dR l=0) {b:Nat} {t g:Int} (ht:times[b]? =some t) (hg:good[b]? =some g):u3 (cr l r) b g t:=by
 have hb:=(bg.1 ht).1
 obtain ⟨v,hv,A⟩:=h.live hl b om
 obtain ⟨o,ho,e,B,C⟩:=h.opt hl ht hg
 have D:=h.step b _ ht
 have E:=h.least (b:=b) hb
 have F:(cr l r).gp=r.gp:=rfl
 have hw:=h.JJ hl (times.length-(b+1)) (b+1) om
 rw [mP ht,qz hg,nA,← e] at hw
 simp only at A
 exact ⟨_,hv,o,ho,e,⟨by simp only; omega,om⟩,hw⟩
theorem g0.num (h:g0 l r times good) (hl:dR l=0):(times.length:Int)∈hG (cr l r):=by
 obtain ⟨v,hv,_⟩:=h.live hl times.length (Nat.le_refl _)
 have hn:(cr l r).n=l.aa.length:=cG
 have B:=h.le
 refine p4.2 ⟨times.length,U,om,?_⟩
 unfold iL
 refine List.any_eq_true.2 ⟨_,hv,?_⟩
 have A:=h.len
 rw [List.take_of_length_le om]
 unfold lx
 exact gX ⟨h.LO,h.L9⟩
theorem g0.e (h:g0 l r times good) (hl:dR l=0):dA l r 0=0:=jV hl h.qf rfl fun e=>by have:=h.num hl; rw [e] at this; cases this
theorem g0.zx (h:g0 l r times good) (hl:dR l=0):(times.length:Int)∈fp l r:=by rw [iF (h.e hl)]; exact h.num hl
end
end
section
def qO (hi:Int→Int) (least:Nat→Int) (now:Int):Nat→List Int→List Int×Int
 |_,[]=>([],now)
 |b,x::xs=>((if 0≤x then min (qO hi least now (b+1) xs).2 (hi x) else (qO hi least now (b+1) xs).2)::(qO hi least now (b+1) xs).1,(if 0≤x then min (qO hi least now (b+1) xs).2 (hi x) else (qO hi least now (b+1) xs).2)-least b)
section
variable {w:bG} {hi:Int→Int} {least:Nat→Int} {now:Int}
end
noncomputable def OG (l:bk) (r:cM) (x:Int):Int:=match r.aj[x.toNat]? with
 |some s=>(dG l s).Hi
 |none=>0
noncomputable def Fl (l:bk) (r:cM) (rs:List Int):List Int:=(qO (OG l r) (k8 l) r.gp 0 rs).1
noncomputable def Ij (l:bk) (r:cM) (rs fs:List Int):List I8:=if (r.aj.length:Int)-(kH rs).right≤l.fZ then [⟨rs,fs,Fl l r rs⟩] else []
section
variable {l:bk} {r:cM} {k j:Nat} {rs fs:List Int} {t:Int}
end
section
variable {l:bk} {r:cM} {i n:Nat} {s:aG} {rs:List Int}
end
section
variable {l:bk} {r:cM}
end
section
variable {l:bk} {r:cM}
end
end
section
open Go.RowKit
/-- a row is taken that was made before; an operation -/
inductive dY where
 |take (i:Nat)
 |op (j:Nat)
def dY.ix:dY→Nat
 | .take i=>i
 | .op j=>j
def wi (dO:Nat→Nat):List dY→List Nat
 |[]=>[]
 | .take i::s=>dO i::wi dO s
 | .op _::s=>wi dO s
theorem pI {dO:Nat→Nat} {i:Nat}: ∀ {s:List dY},dY.take i∈s→dO i∈wi dO s
 | .take k::s,h=>by
  rcases bB.1 h with e|h
  ·cases e; exact cf ..
  ·exact db _ (pI h)
 | .op k::s,h=>by
  rcases bB.1 h with e|h
  ·cases e
  ·exact pI (s:=s) h
def rB (m:Array Nat) (dO:Nat→Nat) (x y:dY):Bool:=x.ix != y.ix&&(match y with | .op j=>gl m x.ix j| .take i=>match x with | .take k=>dO k != dO i| .op _=>true)
def M5 (m:Array Nat) (dO:Nat→Nat):List dY→Bool
 |[]=>true
 |x::s=>s.all (rB m dO x)&&M5 m dO s
theorem Aq {m:Array Nat} {dO:Nat→Nat}: ∀ {s:List dY},M5 m dO s=true→s.Pairwise fun x y=>rB m dO x y=true
 |[],_=>List.Pairwise.nil
 |x::s,h=>by
  simp only [M5,cz] at h
  exact List.Pairwise.cons (fun y hy=>cm.1 h.1 y hy) (Aq h.2)
/-- what is known of the slots B is known in L -/
def xq (B L:cJ):Prop:= ∀ t v,B.lookup t=some v→L.lookup t=some v
theorem vb {B L:cJ} (h:B.map (fun p=>L.lookup p.1)=B.map (fun p=>some p.2)):xq B L:=by
 induction B with
 |nil=>intro t v h; simp at h
 |cons p B ih=>
  obtain ⟨k,u⟩:=p
  simp only [List.map_cons,List.cons.injEq] at h
  intro t v hl
  by_cases e:t=k
  ·subst e
   simp only [List.lookup,beq_self_eq_true,Option.some.injEq] at hl
   rw [h.1,hl]
  ·have:(t==k)=false:=by simpa using e
   simp only [List.lookup,this] at hl
   exact ih h.2 t v hl
theorem lp {L Y:cJ} {t:Nat}:(L++Y).lookup t=match L.lookup t with |some v=>some v|none=>Y.lookup t:=by
 induction L with
 |nil=>rfl
 |cons p L ih=>
  obtain ⟨k,u⟩:=p
  by_cases e:t==k
  ·simp [List.lookup,e]
  ·have:(t==k)=false:=by simpa using e
   simp only [List.cons_append,List.lookup,this,ih]
theorem xq.app {B L Y:cJ} (h:xq B L):xq B (L++Y):=fun t v ht=>by rw [lp,h t v ht]
theorem Kk {B L:cJ} (h:xq B L) {x:Operand} {v:Value} (hv:ev B x=some v):ev L x=some v:=by
 cases x<;>simp only [ev] at hv ⊢ <;>first|exact h _ _ hv|exact hv
theorem zU {B L:cJ} (h:xq B L): ∀ {xs:List Operand} {vs:List Value},evs B xs=some vs→evs L xs=some vs
 |[],vs,hv=>hv
 |x::xs,vs,hv=>by
  simp only [evs] at hv ⊢
  cases e1:ev B x with
  |none=>rw [e1] at hv; simp at hv
  |some v=>
   cases e2:evs B xs with
   |none=>rw [e1,e2] at hv; simp at hv
   |some us=>
    rw [e1,e2] at hv
    rw [Kk h e1,zU h e2]; exact hv
section
variable (E:dK) (ops:Array Oper) (D:List Deferred) (C':List au) (K0:Act→World→Prop) (B:List (Nat×Value)) (dO:Nat→Nat) (VO:Nat→Nat→Value) (AO:Nat→Nat→au)
def CH:List dY→cJ→List au→Prop
 |[],L,C=>KJ E K0 D L C
 | .take i::s,L,C=> ∀ b,CH s ((dO i,VO i b)::L) (AO i b::C)
 | .op j::s,L,C=> ∀ o,ops[j]? =some o→ ∀ (Y:cJ) (X:List au) (K:Act→World→Prop),(∀ L' C'',(∀ w,St E.S E.w0 C'' w→St E.S E.w0 C' w)→((wi dO s).all fun d=>(L'.lookup d).isNone)=true→B.map (fun p=>L'.lookup p.1)=B.map (fun p=>some p.2)→CH s L' C''→KJ E K D (L'++Y) (C''++X))→RJ E ops (NQ K) [o] D (L++Y) (C++X)
/-- a row that is made at any time -/
def MT (i:Nat):Prop:= ∀ o,ops[i]? =some o→ ∀ (L:cJ) (C:List au) (K:Act→World→Prop),xq B L→(∀ w,St E.S E.w0 C w→St E.S E.w0 C' w)→(∀ b,KJ E K D ((dO i,VO i b)::L) (AO i b::C))→RJ E ops (NQ K) [o] D L C
end
section
variable {E:dK} {ops:Array Oper} {D:List Deferred} {C' C1:List au} {K0:Act→World→Prop} {B:List (Nat×Value)} {dO:Nat→Nat} {VO:Nat→Nat→Value} {AO:Nat→Nat→au}
theorem Hs {Q:cv} {rest:List Oper} {L L2:cJ} {C C2:List au} (hL: ∀ a,Fr E.n D L a→Fr E.n D L2 a) (hC: ∀ w,St E.S E.w0 C w→St E.S E.w0 C2 w) (h:RJ E ops Q rest D L2 C2):RJ E ops Q rest D L C:=fun a w hf hs=>h a w (hL a hf) (hC w hs)
theorem zH {K:Act→World→Prop} {L L2:cJ} {C C2:List au} (hL: ∀ a,Fr E.n D L a→Fr E.n D L2 a) (hC: ∀ w,St E.S E.w0 C w→St E.S E.w0 C2 w) (h:KJ E K D L2 C2):KJ E K D L C:=fun a w hf hs=>h a w (hL a hf) (hC w hs)
theorem Ap {n:Nat} {L L2:cJ} (h: ∀ t v,L2.lookup t=some v→L.lookup t=some v) (a:Act) (hf:Fr n D L a):Fr n D L2 a:=⟨hf.defers,hf.size,fun t v ht=>hf.at_ t v (h t v ht)⟩
theorem zm: ∀ (T0 s':List dY) (dn:List (Nat×Nat)) (L Y:cJ) (C:List au),(∀ x∈T0,∃ i b,x= .take i∧(i,b)∈dn)→(T0++s').Pairwise (fun x y=>rB (nx ops) dO x y=true)→(dn.map (·.1)).Nodup→(∀ p∈dn,dY.take p.1∈T0++s')→(∀ p∈dn,Y.lookup (dO p.1)=some (VO p.1 p.2))→(∀ i,dY.take i∈T0++s'→L.lookup (dO i)=none)→
 CH E ops D C' K0 B dO VO AO (T0++s') L C→ ∃ (dn':List (Nat×Nat)) (L':cJ) (C2:List au),CH E ops D C' K0 B dO VO AO s' L' C2∧(dn'.map (·.1)).Nodup∧(∀ p,p∈dn'↔p∈dn∧dY.take p.1∈s')∧(∀ t v,(L'++Y).lookup t=some v→(L++Y).lookup t=some v)∧(∀ i,dY.take i∈s'→L'.lookup (dO i)=none)∧(∀ w,St E.S E.w0 (C++dn.map fun p=>AO p.1 p.2) w→St E.S E.w0 (C2++dn'.map fun p=>AO p.1 p.2) w)
 |[],s',dn,L,Y,C,_,_,hn,hm,_,hl,h=>⟨dn,L,C,h,hn,fun p=>⟨fun q=>⟨q,hm p q⟩,fun q=>q.1⟩,fun t v q=>q,hl,fun w q=>q⟩
 |x::T0,s',dn,L,Y,C,ht,hp,hn,hm,hy,hl,h=>by
  obtain ⟨i,b,rfl,hb⟩:=ht x (cf ..)
  obtain ⟨J,P⟩:=List.pairwise_cons.1 hp
  have AB: ∀ y∈T0++s',i≠y.ix:=fun y hy e=>by
   have:=J y hy
   simp only [rB,cz,bne_iff_ne,dY.ix] at this
   exact this.1 e
  have N: ∀ k,dY.take k∈T0++s'→dO k≠dO i:=fun k hk e=>by
   have:=J _ hk
   simp only [rB,cz,bne_iff_ne] at this
   exact this.2 e.symm
  have K:dn.Perm ((i,b)::dn.erase (i,b)):=List.perm_cons_erase hb
  have H:((dn.erase (i,b)).map (·.1)).Nodup∧i ∉ (dn.erase (i,b)).map (·.1):=by
   have:=(K.map (·.1)).nodup_iff.1 hn
   exact ⟨(List.nodup_cons.1 this).2,(List.nodup_cons.1 this).1⟩
  have A: ∀ p∈dn.erase (i,b),p∈dn∧p.1≠i:=fun p hp=>⟨List.mem_of_mem_erase hp,fun e=>by have q:=List.mem_map_of_mem (f:=fun p:Nat×Nat=>p.1) hp; simp only [e] at q; exact H.2 q⟩
  have O:L.lookup (dO i)=none:=hl i (cf ..)
  obtain ⟨dn',L',C2,R,T,AA,V,W,X⟩:=zm T0 s' (dn.erase (i,b)) ((dO i,VO i b)::L) Y (AO i b::C) (fun x hx=>by
   obtain ⟨k,c,rfl,hk⟩:=ht x (db _ hx)
   refine ⟨k,c,U,?_⟩
   have F:k≠i:=fun e=>AB _ (List.mem_append_left _ hx) e.symm
   exact (List.mem_erase_of_ne (fun e=>F (congrArg Prod.fst e))).2 hk) P H.1 (fun p hp=>by
   obtain ⟨M,G⟩:=A p hp
   rcases bB.1 (hm p M) with e|e
   ·injection e with e; exact absurd e G
   ·exact e) (fun p hp=>hy p (A p hp).1) (fun k hk=>by
   have:(dO k==dO i)=false:=by simpa using N k hk
   simp only [List.lookup,this]
   exact hl k (db _ hk)) (h b)
  refine ⟨dn',L',C2,R,T,fun p=>?_,fun t v hv=>?_,W,fun w hw=>X w ?_⟩
  ·rw [AA]
   constructor
   ·rintro ⟨M,G⟩; exact ⟨(A p M).1,G⟩
   ·rintro ⟨M,G⟩
    have F:p.1≠i:=fun e=>AB _ (List.mem_append_right _ G) e.symm
    exact ⟨(List.mem_erase_of_ne (fun e=>F (congrArg Prod.fst e))).2 M,G⟩
  ·have:=V t v hv
   rw [lp] at this ⊢
   by_cases e:t=dO i
   ·subst e
    simp only [List.lookup,beq_self_eq_true] at this
    rw [O]; simp only
    rw [hy _ hb]; exact this
   ·have Q:(t==dO i)=false:=by simpa using e
    simp only [List.lookup,Q] at this
    exact this
  ·refine hw.perm ?_
   show (C++dn.map fun p=>AO p.1 p.2).Perm (AO i b::(C++(dn.erase (i,b)).map fun p=>AO p.1 p.2))
   refine ((K.map fun p:Nat×Nat=>AO p.1 p.2).append_left C).trans ?_
   exact List.perm_middle
theorem wL: ∀ (s:List dY) (j:Nat),dY.op j∈s→ ∃ T0 k s',s=T0++dY.op k::s'∧ ∀ x∈T0,∃ i,x=dY.take i
 | .take i::s,j,h=>by
  rcases bB.1 h with e|h
  ·cases e
  ·obtain ⟨T0,k,s',rfl,A⟩:=wL s j h
   exact ⟨.take i::T0,k,s',U,fun x hx=>by
    rcases bB.1 hx with rfl|hx
    ·exact ⟨i,U⟩
    ·exact A x hx⟩
 | .op k::s,j,_=>⟨[],k,s,rfl,fun x hx=>by cases hx⟩
def iS (s:List dY) (dn:List (Nat×Nat)):List Nat:=(s.map dY.ix).filter fun i=> !(dn.map (·.1)).contains i
theorem oA {s:List dY} {dn:List (Nat×Nat)} {i:Nat}:i∈iS s dn↔(∃ x∈s,x.ix=i)∧ ∀ p∈dn,p.1≠i:=by
 unfold iS
 rw [List.mem_filter,cp]
 refine and_congr Iff.rfl ?_
 rw [Bool.not_eq_true',← Bool.not_eq_true,List.contains_iff_mem,cp]
 constructor
 ·intro h p hp e; exact h ⟨p,hp,e⟩
 ·rintro h ⟨p,hp,e⟩; exact h p hp e
theorem ob (hal: ∀ i,MT E ops D C' B dO VO AO i∨True): ∀ (n:Nat) (s:List dY) (dn:List (Nat×Nat)) (L Y:cJ) (C:List au),(∀ i,dY.take i∈s→MT E ops D C' B dO VO AO i)→s.Pairwise (fun x y=>rB (nx ops) dO x y=true)→(iS s dn).length=n→(dn.map (·.1)).Nodup→(∀ p∈dn,dY.take p.1∈s)→(∀ p∈dn,Y.lookup (dO p.1)=some (VO p.1 p.2))→(∀ i,dY.take i∈s→L.lookup (dO i)=none)→xq B L→
 (∀ w,St E.S E.w0 C w→St E.S E.w0 C' w)→CH E ops D C' K0 B dO VO AO s L C→TN E ops D C' C1 (fun L C=>KJ E K0 D L C) [] n (iS s dn) (L++Y) (C++dn.map fun p=>AO p.1 p.2)
 |0,s,dn,L,Y,C,_,hp,hlen,hn,hm,hy,hl,hB,hC,h=>by
  have hr:iS s dn=[]:=oB hlen
  have Q: ∀ x∈s,∃ i b,x=dY.take i∧(i,b)∈dn:=fun x hx=>by
   have hx':x.ix ∉ iS s dn:=by rw [hr]; exact List.not_mem_nil
   rw [oA] at hx'
   have: ∃ p∈dn,p.1=x.ix:=by
    apply Classical.byContradiction
    intro q
    exact hx' ⟨⟨x,hx,U⟩,fun p hp e=>q ⟨p,hp,e⟩⟩
   obtain ⟨p,T,AA⟩:=this
   have ht:=hm p T
   rcases List.mem_iff_getElem.1 hx with ⟨a,ha,ea⟩
   rcases List.mem_iff_getElem.1 ht with ⟨c,hc,ec⟩
   have d:a=c:=by
    rcases Nat.lt_trichotomy a c with q|q|q
    ·have:=dL.1 hp a c ha hc q
     simp only [rB,cz,bne_iff_ne,ea,ec] at this
     exact absurd AA.symm this.1
    ·exact q
    ·have:=dL.1 hp c a hc ha q
     simp only [rB,cz,bne_iff_ne,ea,ec] at this
     exact absurd AA this.1
   subst d
   exact ⟨p.1,p.2,by rw [← ea,ec],T⟩
  obtain ⟨dn',L',C2,V,J,O,W,h5,X⟩:=zm s [] dn L Y C Q (by simpa using hp) hn (by simpa using hm) hy (by simpa using hl) (by simpa using h)
  show KJ E K0 D _ _
  have hd:dn'=[]:=List.eq_nil_iff_forall_not_mem.2 fun p hp=>by have:=((O p).1 hp).2; cases this
  subst hd
  refine zH (L2:=L') (C2:=C2) (fun a hf=>Ap (fun t v ht=>W t v (by rw [lp,ht])) a hf) (fun w hw=>by have:=X w hw; simpa using this) V
 |n+1,s,dn,L,Y,C,hal',hp,hlen,hn,hm,hy,hl,hB,hC,h=>by
  intro i hi o ho K hK
  obtain ⟨G,m⟩:=List.mem_filter.1 hi
  obtain ⟨⟨x,hx,rfl⟩,H⟩:=oA.1 G
  have A: ∀ k∈iS s dn,gl (nx ops) k x.ix=false:=fun k hk=>by
   have:=cm.1 m k hk
   simpa using this
  cases x with
  |take i=>
   simp only [dY.ix] at H A ho hK G ⊢
   refine hal' i hx o ho _ _ K hB.app (fun w hw=>hC w (hw.take (List.sublist_append_left _ _))) fun b=>?_
   have l:=hl i hx
   have AB:(iS s dn).filter (· != i)=iS s ((i,b)::dn):=by
    unfold iS
    rw [List.filter_filter]
    apply List.filter_congr
    intro k _
    simp only [List.map_cons,List.contains_cons,Bool.not_or]
    rfl
   have N:(iS s dn).Nodup:=by
    unfold iS
    refine List.Nodup.sublist List.filter_sublist<|List.pairwise_map.2 (hp.imp fun {a c} q=>?_)
    simp only [rB,cz,bne_iff_ne] at q
    exact q.1
   have M: ∀ k,dY.take k∈s→k≠i→dO k≠dO i:=fun k hk AC e=>by
    rcases List.mem_iff_getElem.1 hx with ⟨a,ha,ea⟩
    rcases List.mem_iff_getElem.1 hk with ⟨c,hc,ec⟩
    rcases Nat.lt_trichotomy a c with q|q|q
    ·have:=dL.1 hp a c ha hc q
     simp only [rB,cz,bne_iff_ne,ea,ec] at this
     exact this.2 e.symm
    ·subst q; rw [ea] at ec; cases ec; exact AC rfl
    ·have:=dL.1 hp c a hc ha q
     simp only [rB,cz,bne_iff_ne,ea,ec] at this
     exact this.2 e
   refine zH (L2:=L++((dO i,VO i b)::Y)) (C2:=C++((i,b)::dn).map fun p=>AO p.1 p.2) (fun a hf=>Ap (fun t v ht=>?_) a hf) (fun w hw=>hw.perm (List.perm_middle).symm) (hK _ _ (fun w hw=>hC w (hw.take (List.sublist_append_left _ _))) (fun q=>by cases q) ?_)
   ·rw [lp] at ht
    by_cases e:t=dO i
    ·subst e
     rw [l] at ht
     simp only [List.lookup,beq_self_eq_true] at ht ⊢
     exact ht
    ·have e2:(t==dO i)=false:=by simpa using e
     simp only [List.lookup,e2] at ht ⊢
     rw [lp]; exact ht
   ·rw [AB]
    refine ob hal n s ((i,b)::dn) L ((dO i,VO i b)::Y) C hal' hp ?_ (List.nodup_cons.2 ⟨fun q=>?_,hn⟩) (fun p hp'=>?_) (fun p hp'=>?_) hl hB hC h
    ·rw [← AB,← List.Nodup.erase_eq_filter N,List.length_erase_of_mem G,hlen]; rfl
    ·obtain ⟨p,hp',e⟩:=cp.1 q
     exact H p hp' e
    ·rcases bB.1 hp' with rfl|hp'
     ·exact hx
     ·exact hm p hp'
    ·rcases bB.1 hp' with rfl|hp'
     ·simp [List.lookup]
     ·have:(dO p.1==dO i)=false:=by simpa using M p.1 (hm p hp') (H p hp')
      simp only [List.lookup,this]
      exact hy p hp'
  |op j=>
   simp only [dY.ix] at H A ho hK G ⊢
   obtain ⟨T0,k,s',rfl,hT⟩:=wL s j hx
   obtain ⟨q1,q2,q3⟩:=List.pairwise_append.1 hp
   obtain ⟨q4,q5⟩:=List.pairwise_cons.1 q2
   have R: ∀ k',dY.op k'∈T0++dY.op k::s'→k'∈iS (T0++dY.op k::s') dn:=fun k' hk'=>by
    refine oA.2 ⟨⟨_,hk',U⟩,fun p hp' e=>?_⟩
    have ht:=hm p hp'
    rcases List.mem_iff_getElem.1 hk' with ⟨a,ha,ea⟩
    rcases List.mem_iff_getElem.1 ht with ⟨c,hc,ec⟩
    rcases Nat.lt_trichotomy a c with q|q|q
    ·have:=dL.1 hp a c ha hc q
     simp only [rB,cz,bne_iff_ne,ea,ec,dY.ix] at this
     exact this.1 e.symm
    ·subst q; rw [ea] at ec; cases ec
    ·have:=dL.1 hp c a hc ha q
     simp only [rB,cz,bne_iff_ne,ea,ec,dY.ix] at this
     exact this.1 e
   have AP:k=j:=by
    apply Classical.byContradiction
    intro A0
    have hj':dY.op j∈s':=by
     rcases gn.1 hx with q|q
     ·obtain ⟨i,e⟩:=hT _ q; cases e
     ·rcases bB.1 q with e|q
      ·injection e with e; exact absurd e.symm A0
      ·exact q
    have:=q4 _ hj'
    simp only [rB,cz,dY.ix] at this
    have J:=A k (R k sm)
    rw [this.2] at J; cases J
   subst AP
   have F: ∀ x∈T0,∃ i b,x=dY.take i∧(i,b)∈dn:=fun x hx'=>by
    obtain ⟨i,rfl⟩:=hT x hx'
    apply Classical.byContradiction
    intro q
    have r:i∈iS (T0++dY.op k::s') dn:=oA.2 ⟨⟨_,List.mem_append_left _ hx',rfl⟩,fun p hp' e=>q ⟨i,p.2,rfl,by rw [← e]; exact hp'⟩⟩
    have:=q3 _ hx' _ (cf ..)
    simp only [rB,cz,dY.ix] at this
    have J:=A i r
    rw [this.2] at J; cases J
   obtain ⟨dn',L',C2,V,J,O,W,h5,X⟩:=zm T0 (dY.op k::s') dn L Y C F hp hn hm hy hl h
   refine Hs (fun a hf=>Ap W a hf) X (V o ho Y (dn'.map fun p=>AO p.1 p.2) K fun L3 C3 P A1 Z g=>?_)
   have AB:(iS (T0++dY.op k::s') dn).filter (· != k)=iS s' dn':=by
    unfold iS
    rw [List.map_append,List.filter_append,List.map_cons,List.filter_append]
    have e1:(List.map dY.ix T0).filter (fun i=> !(dn.map (·.1)).contains i)=[]:=by
     apply List.filter_eq_nil_iff.2
     intro z hz
     obtain ⟨x,hx',rfl⟩:=cp.1 hz
     obtain ⟨i,b,rfl,hb⟩:=F x hx'
     simp only [dY.ix,Bool.not_eq_true',Bool.not_eq_false,List.contains_iff_mem]
     exact List.mem_map_of_mem (f:=(·.1)) hb
    rw [e1]
    simp only [List.filter_nil,List.nil_append]
    have u:k ∉ dn.map (·.1):=fun q=>by
     obtain ⟨p,hp',e⟩:=cp.1 q
     exact H p hp' e
    rw [List.filter_cons_of_pos (by simpa [dY.ix] using u),List.filter_cons_of_neg (by simp [dY.ix]),List.filter_filter]
    apply List.filter_congr
    intro z hz
    obtain ⟨y,hy',rfl⟩:=cp.1 hz
    have A2:y.ix≠k:=fun e=>by
     have:=q4 y hy'
     simp only [rB,cz,bne_iff_ne,dY.ix] at this
     exact this.1 e.symm
    rw [Bool.eq_iff_iff]
    simp only [cz,bne_iff_ne,Bool.not_eq_true',← Bool.not_eq_true,List.contains_iff_mem]
    constructor
    ·rintro ⟨_,hq⟩ hc
     obtain ⟨p,hp',e⟩:=cp.1 hc
     exact hq (by rw [← e]; exact List.mem_map_of_mem (f:=(·.1)) ((O p).1 hp').1)
    ·intro hq
     refine ⟨A2,fun hc=>?_⟩
     obtain ⟨p,hp',e⟩:=cp.1 hc
     apply hq
     rw [← e]
     refine List.mem_map_of_mem (f:=(·.1)) ((O p).2 ⟨hp',?_⟩)
     have ht:=hm p hp'
     rcases gn.1 ht with ht|ht
     ·exfalso
      have:=q3 _ ht _ (db _ hy')
      simp only [rB,cz,bne_iff_ne,dY.ix] at this
      exact this.1 e
     ·exact ht
   have N:(iS (T0++dY.op k::s') dn).Nodup:=by
    unfold iS
    refine List.Nodup.sublist List.filter_sublist<|List.pairwise_map.2 (hp.imp fun {a c} q=>?_)
    simp only [rB,cz,bne_iff_ne] at q
    exact q.1
   refine hK _ _ (fun w hw=>P w (hw.take (List.sublist_append_left _ _))) (fun q=>by cases q) ?_
   rw [AB]
   have hdn': ∀ p∈dn',dY.take p.1∈s':=fun p hp'=>by
    rcases bB.1 ((O p).1 hp').2 with e|e
    ·cases e
    ·exact e
   refine ob hal n s' dn' L3 Y C3 (fun i hi=>hal' i (by simp [hi])) q5 ?_ J hdn' (fun p hp'=>hy p ((O p).1 hp').1) (fun i hi=>?_) (vb Z) P g
   ·rw [← AB,← List.Nodup.erase_eq_filter N,List.length_erase_of_mem G,hlen]; rfl
   ·have:=cm.1 A1 _ (pI hi)
    simpa using this
/-- the rows, at any time; the others, one after the other -/
theorem Hz {tb rem:List Nat} {L:cJ} {C:List au} (s:List dY) (B:cJ) (dO:Nat→Nat) (VO:Nat→Nat→Value) (AO:Nat→Nat→au) {n:Nat} (htb:tb=[]) (hr:s.map dY.ix=rem) (hn:rem.length=n) (hp:M5 (nx ops) dO s=true) (hl:((wi dO s).all fun d=>(L.lookup d).isNone)=true) (hB:B.map (fun p=>L.lookup p.1)=B.map (fun p=>some p.2)) (hC: ∀ w,St E.S E.w0 C w→St E.S E.w0 C' w)
 (hal: ∀ i,dY.take i∈s→MT E ops D C' B dO VO AO i) (h:CH E ops D C' K0 B dO VO AO s L C):TN E ops D C' C1 (fun L C=>KJ E K0 D L C) tb n rem L C:=by
 subst htb hr
 have e:iS s []=s.map dY.ix:=by unfold iS; simp
 have:=ob (C1:=C1) (fun i=> .inr trivial) n s [] L [] C hal (Aq hp) (by rw [e]; exact hn) List.nodup_nil (fun p hp=>by cases hp) (fun p hp=>by cases hp) (fun i hi=>by
  have:=cm.1 hl _ (pI hi)
  simpa using this) (vb hB) hC h
 simpa [e] using this
theorem IS {p:Nat→Prop}: ∀ i,dY.take i∈([]:List dY)→p i:=fun i h=>by cases h
theorem Ah {p:Nat→Prop} {j:Nat} {s:List dY} (h: ∀ i,dY.take i∈s→p i): ∀ i,dY.take i∈dY.op j::s→p i:=fun i hi=>by
 rcases bB.1 hi with e|hi
 ·cases e
 ·exact h i hi
theorem ot {p:Nat→Prop} {j:Nat} {s:List dY} (hj:p j) (h: ∀ i,dY.take i∈s→p i): ∀ i,dY.take i∈dY.take j::s→p i:=fun i hi=>by
 rcases bB.1 hi with e|hi
 ·cases e; exact hj
 ·exact h i hi
end
section
variable {E:dK} {ops:Array Oper} {D:List Deferred} {C':List au} {B:List (Nat×Value)} {dO:Nat→Nat} {VO:Nat→Nat→Value} {AO:Nat→Nat→au}
variable {d:Nat} {ty:TypeId} {ps:String} {af:Array Edge}
theorem tH {i t e sz n:Nat} {xs:List Operand} {vs:List Value} {cs zs:List Value} (ho:ops[i]? =some ⟨some d,.buildSlice t n ((xs.zipIdx.map fun p=>(p.2,p.1)).toArray),ty,ps,af,none⟩) (ht:tE E.P t=some (e,sz)) (hz:tZ E.P e=some zs) (hx:evs B xs=some vs) (hn:xs.length=n) (hp:Nat.blt 0 (n*sz)=true) (hb:Nat.ble (n*sz) 16777216=true) (hv: ∀ v∈vs,v.cells.size=sz)
 (hc:(vs.map (·.cells.toList)).flatten=cs) (hd:Nat.blt d E.n=true) (h1:dO i=d) (h2: ∀ b,VO i b= .slice (some ⟨b,0,none⟩) n n) (h3: ∀ b,AO i b=bU b e cs):MT E ops D C' B dO VO AO i:=fun o ho' L C K hB _ hk=>by
 rw [ho] at ho'; cases ho'
 exact dr U ht hz (zU hB hx) hn hp hb hv hc hd fun b=>aK (by have:=hk b; rw [h1,h2,h3] at this; exact this)
end
section
variable {E:dK} {ops:Array Oper} {D:List Deferred} {C':List au} {K0:Act→World→Prop} {B:List (Nat×Value)} {dO:Nat→Nat} {VO:Nat→Nat→Value} {AO:Nat→Nat→au}
theorem Ao {j:Nat} {s:List dY} {L:cJ} {C:List au} {o:Oper} (ho:ops[j]? =some o)
 (h: ∀ (Y:cJ) (X:List au) (K:Act→World→Prop),(∀ L' C'',(∀ w,St E.S E.w0 C'' w→St E.S E.w0 C' w)→((wi dO s).all fun d=>(L'.lookup d).isNone)=true→B.map (fun p=>L'.lookup p.1)=B.map (fun p=>some p.2)→CH E ops D C' K0 B dO VO AO s L' C''→KJ E K D (L'++Y) (C''++X))→RJ E ops (NQ K) [o] D (L++Y) (C++X)):CH E ops D C' K0 B dO VO AO (.op j::s) L C:=fun o' ho'=>by
 rw [ho] at ho'; cases ho'
 exact h
theorem vn {s:List dY} {L Y:cJ} {C X:List au} {K:Act→World→Prop} (hT: ∀ L' C'',(∀ w,St E.S E.w0 C'' w→St E.S E.w0 C' w)→((wi dO s).all fun d=>(L'.lookup d).isNone)=true→B.map (fun p=>L'.lookup p.1)=B.map (fun p=>some p.2)→CH E ops D C' K0 B dO VO AO s L' C''→KJ E K D (L'++Y) (C''++X)) (nL nC:Nat)
 (hL:L.take nL++Y=L) (hC:C.take nC++X=C) (h1: ∀ w,St E.S E.w0 (C.take nC) w→St E.S E.w0 C' w) (h2:((wi dO s).all fun d=>((L.take nL).lookup d).isNone)=true) (h3:B.map (fun p=>(L.take nL).lookup p.1)=B.map (fun p=>some p.2)) (h:CH E ops D C' K0 B dO VO AO s (L.take nL) (C.take nC)):RJ E ops (NQ K) [] D L C:=by
 have:=hT _ _ h1 h2 h3 h
 rw [hL,hC] at this
 exact aK this
theorem Lq {c:Code} {Q:cv} {L L':cJ} {C:List au} (h:L'.map (fun p=>L.lookup p.1)=L'.map (fun p=>some p.2)) (k:WJ E c Q D L' C):WJ E c Q D L C:=fun a w hf hs=>k a w (Ap (vb h) a hf) hs
end
end
section
open Go.RowKit
section
variable {E:dK} {ops:Array Oper} {Q:cv} {rest:List Oper} {D:List Deferred} {L:List (Nat×Value)} {C C1:List au}
end
section
variable {E:dK} {ops:Array Oper} {Q:cv} {rest:List Oper} {D:List Deferred} {L:List (Nat×Value)} {C:List au}
end
/-- the head of the ways: the way that ends here, if it may -/
def Ih (l:bk) (r:cM) (rs fs:List Int) (ra fa:RA) (hz:List IB) (LA:List au):Prop:=
 ((r.aj.length:Int)-(kH rs).right≤l.fZ∧ ∃ la:RA,hz=[(ra,fa,la)]∧LA=[own la.1 la.2 IX 1 ((Fl l r rs).map iC)])∨(¬ (r.aj.length:Int)-(kH rs).right≤l.fZ∧hz=[]∧LA=[])
theorem Ih.len {l:bk} {r:cM} {rs fs:List Int} {ra fa:RA} {hz:List IB} {LA:List au} (h:Ih l r rs fs ra fa hz LA):hz.length=(Ij l r rs fs).length:=by
 unfold Ij
 rcases h with ⟨q,la,rfl,rfl⟩|⟨q,rfl,rfl⟩
 ·rw [if_pos q]; rfl
 ·rw [if_neg q]; rfl
end
section
open Go.RowKit
theorem lO (x y:Int):
 c_ Tryz.prog 36 [(vI x),(vI y)] [] (vA (ab.cells (ab.mk x y))):=by
 refine bq kr Tryz.func36 U U fun D Q hQ hN=>?_
 try dsimp only
 refine WS fun _ A=>AL U eI fun C=>RK A<|WS fun _ B=>rP 2 [] I ?_
 refine rS (SX (aZ (xs:=[(0,.tmp 5),(1,.tmp 6)]) (cs:=(ab.cells (ab.mk x y))) U U (a_ jr U)) U U)<|fF U dC U<|RK B<|ay ?_
 exact yx hQ [0] (mc 0 U I) U U
theorem jA (x y:Int):
 c_ Tryz.prog 35 [(vI x),(vI y)] [] (vA (aJ.cells (aJ.mk false true (ab.mk x y) (cS.mk 0 0 (bj.mk none 0 0))))):=by
 refine bq kr Tryz.func35 U U fun D Q hQ hN=>?_
 try dsimp only
 refine WS fun _ A=>AL U Cm fun C=>RK A<|WS fun _ B=>rP 2 [] I ?_
 refine rS (CL (lO x y) (aH) U)<|rS (SX (aZ (xs:=[(1,.const (vB true)),(2,.tmp 7)]) (cs:=(aJ.cells (aJ.mk false true (ab.mk x y) (cS.mk 0 0 (bj.mk none 0 0))))) U U (a_ MF U)) U U)<|fF U E_ U<|RK B<|ay ?_
 exact yx hQ [0] (mc 0 U I) U U
end
section
open Go.RowKit
theorem gS:
 lX Tryz.prog 31 [] [] (fun (x:(OA)×Nat×(OA)×Nat×(List RA)×(OA)×Nat×(OA)×Nat×(OA)×Nat×(OA)×Nat×(List cg)×(OA)×Nat×(OA)×Nat)=>(vA (fH.cells (fH.mk (cU.mk (cy.mk (bS.mk (bj.mk x.1 bP.Race.ak.aU.length x.2.1)) bP.Race.ak.iQ (bj.mk x.2.2.1 bP.Race.ak.ar.length x.2.2.2.1) (bj.mk x.2.2.2.2.2.1 bP.Race.ak.aa.length x.2.2.2.2.2.2.1) bP.Race.ak.cj bP.Race.ak.fZ bP.Race.ak.eR) (bj.mk x.2.2.2.2.2.2.2.1 bP.Race.aR.length x.2.2.2.2.2.2.2.2.1) (bj.mk x.2.2.2.2.2.2.2.2.2.1 bP.Race.b_.length x.2.2.2.2.2.2.2.2.2.2.1) bP.Race.ks (bj.mk x.2.2.2.2.2.2.2.2.2.2.2.1 bP.Race.ax.length x.2.2.2.2.2.2.2.2.2.2.2.2.1)) (bj.mk x.2.2.2.2.2.2.2.2.2.2.2.2.2.2.1 bP.aC.length x.2.2.2.2.2.2.2.2.2.2.2.2.2.2.2.1) (bj.mk x.2.2.2.2.2.2.2.2.2.2.2.2.2.2.2.2.1 bP.aD.length x.2.2.2.2.2.2.2.2.2.2.2.2.2.2.2.2.2) bP.gR bP.Cu)))) (fun (x:(OA)×Nat×(OA)×Nat×(List RA)×(OA)×Nat×(OA)×Nat×(OA)×Nat×(OA)×Nat×(List cg)×(OA)×Nat×(OA)×Nat)=>eB bP x.2.2.2.2.1 x.2.2.2.2.2.2.2.2.2.2.2.2.2.1∧x.2.2.2.2.1.length=bP.Race.ak.ar.length∧rn bP.Race.ax x.2.2.2.2.2.2.2.2.2.2.2.2.2.1) (fun (x:(OA)×Nat×(OA)×Nat×(List RA)×(OA)×Nat×(OA)×Nat×(OA)×Nat×(OA)×Nat×(List cg)×(OA)×Nat×(OA)×Nat)=>[(own x.1 x.2.1 128 9 (bP.Race.ak.aU.map av.cells)),(own x.2.2.1 x.2.2.2.1 133 2 (List.zipWith aB.cells bP.Race.ak.ar x.2.2.2.2.1)),(bx (aX aB.owns bP.Race.ak.ar x.2.2.2.2.1)),(own x.2.2.2.2.2.1 x.2.2.2.2.2.2.1 137 4 (bP.Race.ak.aa.map bD.cells)),(own x.2.2.2.2.2.2.2.1 x.2.2.2.2.2.2.2.2.1 3 1 (bP.Race.aR.map iC)),(own x.2.2.2.2.2.2.2.2.2.1 x.2.2.2.2.2.2.2.2.2.2.1 3 1 (bP.Race.b_.map iC)),(own x.2.2.2.2.2.2.2.2.2.2.2.1 x.2.2.2.2.2.2.2.2.2.2.2.2.1 75 1 (List.zipWith cc bP.Race.ax x.2.2.2.2.2.2.2.2.2.2.2.2.2.1)),(bx (aX jC bP.Race.ax x.2.2.2.2.2.2.2.2.2.2.2.2.2.1)),(own x.2.2.2.2.2.2.2.2.2.2.2.2.2.2.1 x.2.2.2.2.2.2.2.2.2.2.2.2.2.2.2.1 86 4 (bP.aC.map aI.cells)),(own x.2.2.2.2.2.2.2.2.2.2.2.2.2.2.2.2.1 x.2.2.2.2.2.2.2.2.2.2.2.2.2.2.2.2.2 102 5 (bP.aD.map aV.cells))]):=by
 refine dI kr Tryz.func31 U U fun V Q hQ hN=>?_
 try dsimp only
 refine WS fun _ P=>AL U Iu fun T=>RK P<|WS fun _ R=>rS (CL (lO 10000 10200) (aH) U)<|rS (SX (aZ (xs:=[(0,.const (vI 1)),(1,.tmp 3)]) (cs:=(av.cells (av.mk 1 (ab.mk 10000 10200) (ab.mk 0 0) (ab.mk 0 0) 0 0))) U U (a_ Lp U)) U U)<|dr (xs:=[.tmp 4]) (cs:=(av.cells (av.mk 1 (ab.mk 10000 10200) (ab.mk 0 0) (ab.mk 0 0) 0 0))) U Bq H8 U U U U (by simp [Value.cells,av.aN]) U U fun E=>rS (SX (aZ (xs:=[(0,.tmp 5)]) (cs:=(bS.cells (bS.mk (bj.mk (some ⟨E,0,none⟩) 1 1)))) U U (a_ Nh U)) U U)<|rS (CL (lO 0 2) (aH) U)<|rS (SX (aZ (xs:=[(0,.const (vI 0)),(1,.tmp 7)]) (cs:=(cV.cells (cV.mk 0 (ab.mk 0 2)))) U U (a_ HS U)) U U)<|rS (CL (lO 5 6) (aH) U)<|rS (SX (aZ (xs:=[(0,.const (vI 100000)),(1,.tmp 9)]) (cs:=(cV.cells (cV.mk 100000 (ab.mk 5 6)))) U U (a_ HS U)) U U)<|dr (xs:=[.tmp 8,.tmp 10]) (cs:=((cV.cells (cV.mk 0 (ab.mk 0 2)))++(cV.cells (cV.mk 100000 (ab.mk 5 6))))) U tJ AH U U U U (by simp [Value.cells,cV.aN]) U U fun J=>rS (SX (aZ (xs:=[(0,.const (vI 100)),(1,.tmp 11)]) (cs:=(dV.cells (dV.mk 100 (bj.mk (some ⟨J,0,none⟩) 2 2)))) U U (a_ Kx U)) U U)<|dr (xs:=[.tmp 12]) (cs:=(dV.cells (dV.mk 100 (bj.mk (some ⟨J,0,none⟩) 2 2)))) U BN Ia U U U U (by simp [Value.cells,dV.aN]) U U fun L=>rS (CL (lO 1000 1000) (aH) U)<|rS (SX (aZ (xs:=[(1,.tmp 14)]) (cs:=(cx.cells (cx.mk 0 (ab.mk 1000 1000)))) U U (a_ Fb U)) U U)<|rS (SX (aZ (xs:=[(0,.tmp 15)]) (cs:=(bD.cells (bD.mk (cx.mk 0 (ab.mk 1000 1000)) 0))) U U (a_ Es U)) U U)<|rS (CL (lO 4000 4000) (aH) U)<|rS (SX (aZ (xs:=[(1,.tmp 17)]) (cs:=(cx.cells (cx.mk 0 (ab.mk 4000 4000)))) U U (a_ Fb U)) U U)<|rS (SX (aZ (xs:=[(0,.tmp 18)]) (cs:=(bD.cells (bD.mk (cx.mk 0 (ab.mk 4000 4000)) 0))) U U (a_ Es U)) U U)<|rS (CL (lO 9000 9000) (aH) U)<|rS (SX (aZ (xs:=[(1,.tmp 20)]) (cs:=(cx.cells (cx.mk 0 (ab.mk 9000 9000)))) U U (a_ Fb U)) U U)<|rS (SX (aZ (xs:=[(0,.tmp 21)]) (cs:=(bD.cells (bD.mk (cx.mk 0 (ab.mk 9000 9000)) 0))) U U (a_ Es U)) U U)<|dr (xs:=[.tmp 16,.tmp 19,.tmp 22]) (cs:=((bD.cells (bD.mk (cx.mk 0 (ab.mk 1000 1000)) 0))++(bD.cells (bD.mk (cx.mk 0 (ab.mk 4000 4000)) 0))++(bD.cells (bD.mk (cx.mk 0 (ab.mk 9000 9000)) 0)))) U B7 LV U U U U (by simp [Value.cells,bD.aN]) U U fun M=>rS (SX (aZ (xs:=[(0,.tmp 6),(1,.const (vI 2000)),(4,.const (vI 1)),(5,.const (vI 1)),(6,.const (vI 1)),(2,.tmp 13),(3,.tmp 23)]) (cs:=(cy.cells (cy.mk (bS.mk (bj.mk (some ⟨E,0,none⟩) 1 1)) 2000 (bj.mk (some ⟨L,0,none⟩) 1 1) (bj.mk (some ⟨M,0,none⟩) 3 3) 1 1 1))) U U (a_ Nk U)) U U)<|AL U M7 fun AA=>?_
 refine e7 (es:=(bP.Race.ak.aU.map av.cells)) (C':=[_,_,_,_,(own (some ⟨E,0,none⟩) 1 128 9 (bP.Race.ak.aU.map av.cells)),_]) 4 U (ku av.aN _) U (by show _≤maxLen; exact Nat.le_trans (m:=10) (show (1:Nat)≤10 by decide) dc) U ?_
 refine e7 (es:=(tD.bO.map cV.cells)) (C':=[_,_,_,(own (some ⟨J,0,none⟩) 2 130 3 (tD.bO.map cV.cells)),_,_]) 3 U (ku cV.aN _) U (by show _≤maxLen; exact Nat.le_trans (m:=10) (show (2:Nat)≤10 by decide) dc) U ?_
 refine e7 (es:=(List.zipWith aB.cells bP.Race.ak.ar [((some ⟨J,0,none⟩),2)])) (C':=[_,_,(own (some ⟨L,0,none⟩) 1 133 2 (List.zipWith aB.cells bP.Race.ak.ar [((some ⟨J,0,none⟩),2)])),_,_,_]) 2 U (by intro x hx; change x∈[aB.cells tD ((some ⟨J,0,none⟩),2)] at hx; rw [bW.1 hx]; rfl) U (by show _≤maxLen; exact Nat.le_trans (m:=10) (show (1:Nat)≤10 by decide) dc) U ?_
 refine e7 (es:=(bP.Race.ak.aa.map bD.cells)) (C':=[_,(own (some ⟨M,0,none⟩) 3 137 4 (bP.Race.ak.aa.map bD.cells)),_,_,_,_]) 1 U (ku bD.aN _) U (by show _≤maxLen; exact Nat.le_trans (m:=10) (show (3:Nat)≤10 by decide) dc) U ?_
 refine vN<|Ly (X:=[]) (X':=aX aB.owns bP.Race.ak.ar [((some ⟨J,0,none⟩),2)]) 0 4 rfl rfl rfl<|rL rfl NL rfl<|RK R<|WS fun _ S=>rS (SX (aZ (xs:=[(0,.const (vI 0)),(1,.const (vI 10600))]) (cs:=(aG.cells (aG.mk 0 10600))) rfl rfl (a_ w5 rfl)) rfl rfl)<|rS (SX (aZ (xs:=[(0,.const (vI 0)),(1,.const (vI 11000))]) (cs:=(aG.cells (aG.mk 0 11000))) rfl rfl (a_ w5 rfl)) rfl rfl)<|rS (SX (aZ (xs:=[(0,.const (vI 1)),(1,.const (vI 12600))]) (cs:=(aG.cells (aG.mk 1 12600))) rfl rfl (a_ w5 rfl)) rfl rfl)<|dr (xs:=[.tmp 25,.tmp 26,.tmp 27]) (cs:=((aG.cells (aG.mk 0 10600))++(aG.cells (aG.mk 0 11000))++(aG.cells (aG.mk 1 12600)))) rfl Gz xh rfl rfl rfl rfl (by simp [Value.cells,aG.aN]) rfl rfl fun A=>rS (SX (aZ (xs:=[(0,.const (vI 10000)),(1,.const (vI 20000)),(2,.tmp 28)]) (cs:=(cS.cells (cS.mk 10000 20000 (bj.mk (some ⟨A,0,none⟩) 3 3)))) rfl rfl (a_ NK rfl)) rfl rfl)<|AL rfl Nx fun N=>e7 (es:=(jI.aj.map aG.cells)) (C':=[_,(own (some ⟨A,0,none⟩) 3 113 2 (jI.aj.map aG.cells)),_,_,_,_,_,_]) 1 rfl (ku aG.aN _) rfl dc rfl<|fF rfl NN rfl<|RK S<|aw fun _ O=>Lq (L':=[(0,(vP T)),(1,(vP AA)),(2,(vP N)),(3,(vA (ab.cells (ab.mk 10000 10200)))),(4,(vA (av.cells (av.mk 1 (ab.mk 10000 10200) (ab.mk 0 0) (ab.mk 0 0) 0 0)))),(5,(vS (some ⟨E,0,none⟩) 1 1)),(6,(vA (bS.cells (bS.mk (bj.mk (some ⟨E,0,none⟩) 1 1))))),(7,(vA (ab.cells (ab.mk 0 2)))),(8,(vA (cV.cells (cV.mk 0 (ab.mk 0 2))))),(9,(vA (ab.cells (ab.mk 5 6)))),(10,(vA (cV.cells (cV.mk 100000 (ab.mk 5 6))))),(11,(vS (some ⟨J,0,none⟩) 2 2)),(12,(vA (dV.cells (dV.mk 100 (bj.mk (some ⟨J,0,none⟩) 2 2))))),(13,(vS (some ⟨L,0,none⟩) 1 1)),(14,(vA (ab.cells (ab.mk 1000 1000)))),(15,(vA (cx.cells (cx.mk 0 (ab.mk 1000 1000))))),(16,(vA (bD.cells (bD.mk (cx.mk 0 (ab.mk 1000 1000)) 0)))),(17,(vA (ab.cells (ab.mk 4000 4000)))),(18,(vA (cx.cells (cx.mk 0 (ab.mk 4000 4000))))),(19,(vA (bD.cells (bD.mk (cx.mk 0 (ab.mk 4000 4000)) 0)))),(20,(vA (ab.cells (ab.mk 9000 9000)))),(21,(vA (cx.cells (cx.mk 0 (ab.mk 9000 9000))))),(22,(vA (bD.cells (bD.mk (cx.mk 0 (ab.mk 9000 9000)) 0)))),(23,(vS (some ⟨M,0,none⟩) 3 3)),(24,(vA (cy.cells (cy.mk (bS.mk (bj.mk (some ⟨E,0,none⟩) 1 1)) 2000 (bj.mk (some ⟨L,0,none⟩) 1 1) (bj.mk (some ⟨M,0,none⟩) 3 3) 1 1 1)))),(25,(vA (aG.cells (aG.mk 0 10600)))),(26,(vA (aG.cells (aG.mk 0 11000)))),(27,(vA (aG.cells (aG.mk 1 12600)))),(28,(vS (some ⟨A,0,none⟩) 3 3)),(29,(vA (cS.cells (cS.mk 10000 20000 (bj.mk (some ⟨A,0,none⟩) 3 3)))))]) rfl<|mK cu [0,3,4,5,6,8,9,10,14,15,16,17,19,20,21] [7,11,12,1,2,13,18,22,23,24] [false,false,false,false,false,false,false,false,false,false,false,false,false,false,false] [] [(bU N 41 (cS.cells (cS.mk 10000 20000 (bj.mk (some ⟨A,0,none⟩) 3 3)))),(own (some ⟨A,0,none⟩) 3 113 2 (jI.aj.map aG.cells)),(bx (aX aB.owns bP.Race.ak.ar [((some ⟨J,0,none⟩),2)])),(bU AA 28 (cy.cells (cy.mk (bS.mk (bj.mk (some ⟨E,0,none⟩) 1 1)) 2000 (bj.mk (some ⟨L,0,none⟩) 1 1) (bj.mk (some ⟨M,0,none⟩) 3 3) 1 1 1))),(own (some ⟨M,0,none⟩) 3 137 4 (bP.Race.ak.aa.map bD.cells)),(own (some ⟨L,0,none⟩) 1 133 2 (List.zipWith aB.cells bP.Race.ak.ar [((some ⟨J,0,none⟩),2)])),(own (some ⟨E,0,none⟩) 1 128 9 (bP.Race.ak.aU.map av.cells))] [] kr (aS [0,1,2,3,4,5,6]) (aS [])<|eS rfl (LW 3 rfl ct rfl rfl)<|eS rfl (LW 0 rfl ct rfl rfl)<|eS rfl (SX (aZ (xs:=[(3,.tmp 33)]) (cs:=(aJ.cells (aJ.mk false false (ab.mk 0 0) (cS.mk 10000 20000 (bj.mk (some ⟨A,0,none⟩) 3 3))))) rfl rfl (a_ MF rfl)) rfl rfl)<|eS rfl (CL (jA 2600 2600) (aH) rfl)<|eS rfl (CL (jA 2580 2609) (aH) rfl)<|eS rfl (CL (jA 2555 2559) (aH) rfl)<|eS rfl (CL (jA 2540 2549) (aH) rfl)<|eS rfl (CL (jA 2570 2575) (aH) rfl)<|eS rfl (SX (aZ (xs:=[(0,.const (Value.int .u8 1)),(2,.const (vI 12600)),(3,.const (vI 13000))]) (cs:=(aI.cells (aI.mk 1 0 12600 13000))) rfl rfl (a_ G3 rfl)) rfl rfl)<|eS rfl (SX (aZ (xs:=[(0,.const (Value.int .u8 2)),(1,.const (vI 1)),(2,.const (vI 11003)),(3,.const (vI 11100))]) (cs:=(aI.cells (aI.mk 2 1 11003 11100))) rfl rfl (a_ G3 rfl)) rfl rfl)<|eS rfl (SX (aZ (xs:=[(0,.const (Value.int .u8 3)),(2,.const (vI 10700)),(3,.const (vI 10900))]) (cs:=(aI.cells (aI.mk 3 0 10700 10900))) rfl rfl (a_ G3 rfl)) rfl rfl)<|eS rfl (SX (aZ (xs:=[(0,.const (Value.int .u8 1)),(2,.const (vI 13000)),(3,.const (vI 14000))]) (cs:=(aI.cells (aI.mk 1 0 13000 14000))) rfl rfl (a_ G3 rfl)) rfl rfl)<|eS rfl (SX (aZ (xs:=[(0,.const (vI 2)),(3,.const (vI 0)),(4,.const (vI 72596))]) (cs:=(aV.cells (aV.mk 2 0 0 0 72596))) rfl rfl (a_ CE rfl)) rfl rfl)<|eS rfl (SX (aZ (xs:=[(0,.const (vI 5)),(3,.const (vI 1)),(4,.const (vI 72603))]) (cs:=(aV.cells (aV.mk 5 0 0 1 72603))) rfl rfl (a_ CE rfl)) rfl rfl)<|eS rfl (SX (aZ (xs:=[(0,.const (vI 6)),(3,.const (vI 3)),(4,.const (vI 20000))]) (cs:=(aV.cells (aV.mk 6 0 0 3 20000))) rfl rfl (a_ CE rfl)) rfl rfl)<|er rfl<|Hz [.take 7,.take 11,.op 12,.take 1,.take 2,.op 13,.take 18,.take 22,.op 23,.op 24] [(34,(vA (aJ.cells (aJ.mk false false (ab.mk 0 0) (cS.mk 10000 20000 (bj.mk (some ⟨A,0,none⟩) 3 3)))))),(35,(vA (aJ.cells (aJ.mk false true (ab.mk 2600 2600) (cS.mk 0 0 (bj.mk none 0 0)))))),(36,(vA (aJ.cells (aJ.mk false true (ab.mk 2580 2609) (cS.mk 0 0 (bj.mk none 0 0)))))),(38,(vA (aJ.cells (aJ.mk false true (ab.mk 2555 2559) (cS.mk 0 0 (bj.mk none 0 0)))))),(39,(vA (aJ.cells (aJ.mk false true (ab.mk 2540 2549) (cS.mk 0 0 (bj.mk none 0 0)))))),(40,(vA (aJ.cells (aJ.mk false true (ab.mk 2570 2575) (cS.mk 0 0 (bj.mk none 0 0)))))),(44,(vA (aI.cells (aI.mk 1 0 12600 13000)))),(45,(vA (aI.cells (aI.mk 2 1 11003 11100)))),(46,(vA (aI.cells (aI.mk 3 0 10700 10900)))),(47,(vA (aI.cells (aI.mk 1 0 13000 14000)))),(49,(vA (aV.cells (aV.mk 2 0 0 0 72596)))),(50,(vA (aV.cells (aV.mk 5 0 0 1 72603)))),(51,(vA (aV.cells (aV.mk 6 0 0 3 20000))))] (fun i=>match i with |7=>37|11=>41|1=>31|2=>32|18=>48|22=>52|_=>0) (fun i b=>match i with |7=> .slice (some ⟨b,0,none⟩) 3 3|11=> .slice (some ⟨b,0,none⟩) 3 3|1=> .slice (some ⟨b,0,none⟩) 3 3|2=> .slice (some ⟨b,0,none⟩) 3 3|18=> .slice (some ⟨b,0,none⟩) 4 4|22=> .slice (some ⟨b,0,none⟩) 3 3|_=>undef) (fun i b=>match i with |7=>bU b 43 ((aJ.cells (aJ.mk false false (ab.mk 0 0) (cS.mk 10000 20000 (bj.mk (some ⟨A,0,none⟩) 3 3))))++(aJ.cells (aJ.mk false true (ab.mk 2600 2600) (cS.mk 0 0 (bj.mk none 0 0))))++(aJ.cells (aJ.mk false true (ab.mk 2580 2609) (cS.mk 0 0 (bj.mk none 0 0)))))|11=>bU b 43 ((aJ.cells (aJ.mk false true (ab.mk 2555 2559) (cS.mk 0 0 (bj.mk none 0 0))))++(aJ.cells (aJ.mk false true (ab.mk 2540 2549) (cS.mk 0 0 (bj.mk none 0 0))))++(aJ.cells (aJ.mk false true (ab.mk 2570 2575) (cS.mk 0 0 (bj.mk none 0 0)))))|1=>bU b 3 [(vI 4),(vI 7),(vI 9)]|2=>bU b 3 [(vI 2),(vI 0),(vI 1)]|18=>bU b 86 ((aI.cells (aI.mk 1 0 12600 13000))++(aI.cells (aI.mk 2 1 11003 11100))++(aI.cells (aI.mk 3 0 10700 10900))++(aI.cells (aI.mk 1 0 13000 14000)))|22=>bU b 102 ((aV.cells (aV.mk 2 0 0 0 72596))++(aV.cells (aV.mk 5 0 0 1 72603))++(aV.cells (aV.mk 6 0 0 3 20000)))|_=>bU b 0 []) rfl rfl rfl kr rfl rfl (aS [0,1,2,3,4,5,6]) (ot (tH (xs:=[.tmp 34,.tmp 35,.tmp 36]) (cs:=((aJ.cells (aJ.mk false false (ab.mk 0 0) (cS.mk 10000 20000 (bj.mk (some ⟨A,0,none⟩) 3 3))))++(aJ.cells (aJ.mk false true (ab.mk 2600 2600) (cS.mk 0 0 (bj.mk none 0 0))))++(aJ.cells (aJ.mk false true (ab.mk 2580 2609) (cS.mk 0 0 (bj.mk none 0 0)))))) rfl qB Cm rfl rfl rfl rfl (by simp [Value.cells,aJ.aN]) rfl rfl rfl (fun _=>rfl) fun _=>rfl)<|ot (tH (xs:=[.tmp 38,.tmp 39,.tmp 40]) (cs:=((aJ.cells (aJ.mk false true (ab.mk 2555 2559) (cS.mk 0 0 (bj.mk none 0 0))))++(aJ.cells (aJ.mk false true (ab.mk 2540 2549) (cS.mk 0 0 (bj.mk none 0 0))))++(aJ.cells (aJ.mk false true (ab.mk 2570 2575) (cS.mk 0 0 (bj.mk none 0 0)))))) rfl qB Cm rfl rfl rfl rfl (by simp [Value.cells,aJ.aN]) rfl rfl rfl (fun _=>rfl) fun _=>rfl)<|Ah<|ot (tH (xs:=[.const (vI 4),.const (vI 7),.const (vI 9)]) (cs:=[(vI 4),(vI 7),(vI 9)]) rfl de iy rfl rfl rfl rfl (by simp [Value.cells]) rfl rfl rfl (fun _=>rfl) fun _=>rfl)<|ot (tH (xs:=[.const (vI 2),.const (vI 0),.const (vI 1)]) (cs:=[(vI 2),(vI 0),(vI 1)]) rfl de iy rfl rfl rfl rfl (by simp [Value.cells]) rfl rfl rfl (fun _=>rfl) fun _=>rfl)<|Ah<|ot (tH (xs:=[.tmp 44,.tmp 45,.tmp 46,.tmp 47]) (cs:=((aI.cells (aI.mk 1 0 12600 13000))++(aI.cells (aI.mk 2 1 11003 11100))++(aI.cells (aI.mk 3 0 10700 10900))++(aI.cells (aI.mk 1 0 13000 14000)))) rfl uJ KX rfl rfl rfl rfl (by simp [Value.cells,aI.aN]) rfl rfl rfl (fun _=>rfl) fun _=>rfl)<|ot (tH (xs:=[.tmp 49,.tmp 50,.tmp 51]) (cs:=((aV.cells (aV.mk 2 0 0 0 72596))++(aV.cells (aV.mk 5 0 0 1 72603))++(aV.cells (aV.mk 6 0 0 3 20000)))) rfl CT Fu rfl rfl rfl rfl (by simp [Value.cells,aV.aN]) rfl rfl rfl (fun _=>rfl) fun _=>rfl)<|Ah<|Ah<|IS) ?_
 intro F
 try dsimp only
 intro G
 try dsimp only
 refine Ao U fun Y X K hT=>dr (xs:=[.tmp 37,.tmp 41]) (cs:=[(vS (some ⟨F,0,none⟩) 3 3),(vS (some ⟨G,0,none⟩) 3 3)]) U pk Ny U U U U (by simp [Value.cells]) U U fun B=>vn hT 48 11 U U (fun w hs=>St.jq [3,4,5,6,7,8,9] U U hs) U U ?_
 try dsimp only [List.take]
 intro C
 try dsimp only
 intro D
 try dsimp only
 refine Ao U fun Y X K hT=>rS (SX (aZ (xs:=[(0,.tmp 30),(1,.tmp 31),(2,.tmp 32),(3,.const (vI 2)),(4,.tmp 42)]) (cs:=(cU.cells (cU.mk (cy.mk (bS.mk (bj.mk (some ⟨E,0,none⟩) 1 1)) 2000 (bj.mk (some ⟨L,0,none⟩) 1 1) (bj.mk (some ⟨M,0,none⟩) 3 3) 1 1 1) (bj.mk (some ⟨C,0,none⟩) 3 3) (bj.mk (some ⟨D,0,none⟩) 3 3) 2 (bj.mk (some ⟨B,0,none⟩) 2 2)))) U U (a_ Co U)) U U)<|vn hT 51 13 U U (fun w hs=>St.jq [5,6,7,8,9,10,11] U U hs) U U ?_
 try dsimp only [List.take]
 intro H
 try dsimp only
 intro AC
 try dsimp only
 refine Ao U fun Y X K hT=>rS (SX (aZ (xs:=[(0,.tmp 43),(1,.tmp 48),(2,.tmp 52),(3,.const (vI 1)),(4,.const (vI 500))]) (cs:=(fH.cells (fH.mk (cU.mk (cy.mk (bS.mk (bj.mk (some ⟨E,0,none⟩) 1 1)) 2000 (bj.mk (some ⟨L,0,none⟩) 1 1) (bj.mk (some ⟨M,0,none⟩) 3 3) 1 1 1) (bj.mk (some ⟨C,0,none⟩) 3 3) (bj.mk (some ⟨D,0,none⟩) 3 3) 2 (bj.mk (some ⟨B,0,none⟩) 2 2)) (bj.mk (some ⟨H,0,none⟩) 4 4) (bj.mk (some ⟨AC,0,none⟩) 3 3) 1 500))) U U (a_ NB U)) U U)<|vn hT 54 15 U U (fun w hs=>St.jq [7,8,9,10,11,12,13] U U hs) U U ?_
 try dsimp only [List.take]
 refine Ao U fun Y X K hT=>fz (vs:=(fH.cells (fH.mk (cU.mk (cy.mk (bS.mk (bj.mk (some ⟨E,0,none⟩) 1 1)) 2000 (bj.mk (some ⟨L,0,none⟩) 1 1) (bj.mk (some ⟨M,0,none⟩) 3 3) 1 1 1) (bj.mk (some ⟨C,0,none⟩) 3 3) (bj.mk (some ⟨D,0,none⟩) 3 3) 2 (bj.mk (some ⟨B,0,none⟩) 2 2)) (bj.mk (some ⟨H,0,none⟩) 4 4) (bj.mk (some ⟨AC,0,none⟩) 3 3) 1 500))) (cs':=(fH.cells (fH.mk (cU.mk (cy.mk (bS.mk (bj.mk (some ⟨E,0,none⟩) 1 1)) 2000 (bj.mk (some ⟨L,0,none⟩) 1 1) (bj.mk (some ⟨M,0,none⟩) 3 3) 1 1 1) (bj.mk (some ⟨C,0,none⟩) 3 3) (bj.mk (some ⟨D,0,none⟩) 3 3) 2 (bj.mk (some ⟨B,0,none⟩) 2 2)) (bj.mk (some ⟨H,0,none⟩) 4 4) (bj.mk (some ⟨AC,0,none⟩) 3 3) 1 500))) (C':=[_,_,_,_,_,_,_,_,_,_,_,_,_,_,(bU T 36 (fH.cells (fH.mk (cU.mk (cy.mk (bS.mk (bj.mk (some ⟨E,0,none⟩) 1 1)) 2000 (bj.mk (some ⟨L,0,none⟩) 1 1) (bj.mk (some ⟨M,0,none⟩) 3 3) 1 1 1) (bj.mk (some ⟨C,0,none⟩) 3 3) (bj.mk (some ⟨D,0,none⟩) 3 3) 2 (bj.mk (some ⟨B,0,none⟩) 2 2)) (bj.mk (some ⟨H,0,none⟩) 4 4) (bj.mk (some ⟨AC,0,none⟩) 3 3) 1 500)))]++X) 14 U U U JX U U U U U U U<|vn hT 54 15 U U (fun w hs=>St.jq [7,8,9,10,11,12,13] U U hs) U U ?_
 try dsimp only [List.take]
 refine KK O ?_
 refine jU (es:=(bP.Race.aR.map iC)) (C':=[_,_,_,(own (some ⟨C,0,none⟩) 3 3 1 (bP.Race.aR.map iC)),_,_,_,_,_,_,_,_,_,_,_]) 3 U (ku bp _) U (by show _≤maxLen; exact Nat.le_trans (m:=10) (show (3:Nat)≤10 by decide) dc) U ?_
 refine jU (es:=(bP.Race.b_.map iC)) (C':=[_,_,(own (some ⟨D,0,none⟩) 3 3 1 (bP.Race.b_.map iC)),_,_,_,_,_,_,_,_,_,_,_,_]) 2 U (ku bp _) U (by show _≤maxLen; exact Nat.le_trans (m:=10) (show (3:Nat)≤10 by decide) dc) U ?_
 refine jU (es:=(bP.aC.map aI.cells)) (C':=[_,(own (some ⟨H,0,none⟩) 4 86 4 (bP.aC.map aI.cells)),_,_,_,_,_,_,_,_,_,_,_,_,_]) 1 U (ku aI.aN _) U (by show _≤maxLen; exact Nat.le_trans (m:=10) (show (4:Nat)≤10 by decide) dc) U ?_
 refine jU (es:=(bP.aD.map aV.cells)) (C':=[(own (some ⟨AC,0,none⟩) 3 102 5 (bP.aD.map aV.cells)),_,_,_,_,_,_,_,_,_,_,_,_,_,_]) 0 U (ku aV.aN _) U (by show _≤maxLen; exact Nat.le_trans (m:=10) (show (3:Nat)≤10 by decide) dc) U ?_
 refine jU (es:=(List.zipWith aq.cells yo [((some ⟨A,0,none⟩),3),(none,0),(none,0)])) (C':=[_,_,_,_,_,_,(own (some ⟨F,0,none⟩) 3 43 7 (List.zipWith aq.cells yo [((some ⟨A,0,none⟩),3),(none,0),(none,0)])),_,_,_,_,_,_,_,_]) 6 U (nJ AB) U (by show _≤maxLen; exact Nat.le_trans (m:=10) (show (3:Nat)≤10 by decide) dc) U ?_
 refine jU (es:=(List.zipWith aq.cells Mb [(none,0),(none,0),(none,0)])) (C':=[_,_,_,_,_,(own (some ⟨G,0,none⟩) 3 43 7 (List.zipWith aq.cells Mb [(none,0),(none,0),(none,0)])),_,_,_,_,_,_,_,_,_]) 5 U (nJ AB) U (by show _≤maxLen; exact Nat.le_trans (m:=10) (show (3:Nat)≤10 by decide) dc) U ?_
 refine jU (es:=(List.zipWith cc bP.Race.ax [(((some ⟨F,0,none⟩),3),[((some ⟨A,0,none⟩),3),(none,0),(none,0)]),(((some ⟨G,0,none⟩),3),[(none,0),(none,0),(none,0)])])) (C':=[_,_,_,_,(own (some ⟨B,0,none⟩) 2 75 1 (List.zipWith cc bP.Race.ax [(((some ⟨F,0,none⟩),3),[((some ⟨A,0,none⟩),3),(none,0),(none,0)]),(((some ⟨G,0,none⟩),3),[(none,0),(none,0),(none,0)])])),_,_,_,_,_,_,_,_,_,_]) 4 U (nJ Ec) U (by show _≤maxLen; exact Nat.le_trans (m:=10) (show (2:Nat)≤10 by decide) dc) U ?_
 refine eH 113 2<|eH 113 2<|eH 113 2<|eH 113 2<|eH 113 2<|Cd (aX jC bP.Race.ax [(((some ⟨F,0,none⟩),3),[((some ⟨A,0,none⟩),3),(none,0),(none,0)]),(((some ⟨G,0,none⟩),3),[(none,0),(none,0),(none,0)])]) [11,13,0,1,10,2,3,4] [5,6,7,8,9,12,14,15,16,17,18,19] U U<|ay ?_
 refine LX hQ ((some ⟨E,0,none⟩),1,(some ⟨L,0,none⟩),1,[((some ⟨J,0,none⟩),2)],(some ⟨M,0,none⟩),3,(some ⟨C,0,none⟩),3,(some ⟨D,0,none⟩),3,(some ⟨B,0,none⟩),2,[(((some ⟨F,0,none⟩),3),[((some ⟨A,0,none⟩),3),(none,0),(none,0)]),(((some ⟨G,0,none⟩),3),[(none,0),(none,0),(none,0)])],(some ⟨H,0,none⟩),4,(some ⟨AC,0,none⟩),3) [11,10,7,9,4,3,5,0,2,1] [0] (mc 12 U I) U (by show List.all _ _=true; simp only [gf,List.all_nil,mJ,sX,Bool.and_true]; rfl) U U ?_
 exact ⟨I1 (LR 1 dc) Eh,U,Eh⟩
end
section
open Go.RowKit
theorem vj (G:List (List Int)) (H:List (List Int)) (gz:List RA) (gA:OA) (gC:Nat) (hz:List RA) (hA:OA) (hC:Nat) (h1:G.length≤1000000) (h2:H.length≤1000000) (h3: ∀ l∈G,l.length≤1000000) (h4: ∀ l∈H,l.length≤1000000) (hgz:gz.length=G.length) (hhz:hz.length=H.length):
 c_ Tryz.prog 13 [(vS gA G.length gC),(vS hA H.length hC)] [(rd gA G.length 1 (List.zipWith qQ G gz)),(dw (aX Jf G gz)),(rd hA H.length 1 (List.zipWith qQ H hz)),(dw (aX Jf H hz))] (vB (decide (G=H))):=by
 refine bq kr Tryz.func13 U U fun Z Q hQ hN=>?_
 try dsimp only
 refine WS fun _ N=>br 1 U<|RK N<|aw fun _ O=>WS fun _ P=>rP 5 [] I ?_
 refine RK P<|cO U (bI fun hl=>?_) (bH fun hl=>?_)
 ·refine WS fun _ R=>rP 1 [] I ?_
  refine RK R<|ay<|Q1 hQ U U U ?_
  exact cB (eV (fun e=>by subst e; omega)).symm
 refine WK O<|aw fun _ S=>WS fun _ T=>rP 1 [] I ?_
 refine RK T<|aL ?_
 have A:(0≤G.length)∧(G.take 0=H.take 0):=by exact ⟨Nat.zero_le _,rfl⟩
 refine cq (ι:={z:Nat // (z≤G.length)∧(G.take z=H.take z)}) [0,1] [0,1,2,3] U U (fun z=>[(5,(vI (z.1:Int)))]) (fun z=>[]) (fun _=>rfl) (fun _=>rfl) (fun z=>G.length-z.1) ⟨0,A⟩ (bw U) (aS [0,1,2,3]) ?_
 clear A
 rintro ⟨i,⟨W,B⟩⟩ J7 M
 try dsimp only
 refine aw fun _ AA=>WS fun _ V=>rP 4 [] I ?_
 refine RK V<|cP U (bf fun L=>?_) (bc fun L=>?_)
 ·refine bV<|ao<|ao<|aM<|KK S<|WS fun _ F=>rP 1 [] I ?_
  refine RK F<|ay<|Q1 hQ U U U ?_
  exact cB (gX (sD om B om)).symm
 refine WK AA<|aw fun _ C=>aL<|aw fun _ D=>dh cu 10 kr<|dP 2 [] I ?_
 obtain ⟨x,hx⟩:=aO G i om
 obtain ⟨xa,J⟩:=aO gz i om
 have X:(List.zipWith qQ G gz)[i]? =some (qQ x xa):=dj hx J
 refine dS (IA i U (aQ 0 U) E5 dc om om)<|dS (iY i 0 (vS xa.1 x.length xa.2) U ct (aQ 0 U) X U dc U)<|dP 2 [] I ?_
 obtain ⟨y,hy⟩:=aO H i om
 obtain ⟨ya,K⟩:=aO hz i om
 have Y:(List.zipWith qQ H hz)[i]? =some (qQ y ya):=dj hy K
 refine dS (IA i U (aQ 2 U) E5 dc om om)<|dS (iY i 0 (vS ya.1 y.length ya.2) U ct (aQ 2 U) Y U dc U)<|dS (CL (xf x xa.1 xa.2 y ya.1 ya.2 (by exact h3 x (aP hx)) (by exact h4 y (aP hy))) (ai (show iE _ (rd xa.1 x.length 1 (x.map iC)).holds from (cY 1 U (bM hx J (by simp [Jf]))))<|ai (show iE _ (rd ya.1 y.length 1 (y.map iC)).holds from (cY 3 U (bM hy K (by simp [Jf]))))<|aH) U)<|dP 1 [] I ?_
 refine du<|RK D<|cO U (bI fun h=>?_) (bH fun h=>?_)
 ·refine WS fun _ E=>rP 1 [] I ?_
  refine RK E<|ay<|Q1 hQ U U U ?_
  exact cB (eV (si hx hy h)).symm
 refine cT<|aW<|KK C<|aF<|rP 3 [] I ?_
 refine aK ?_
 have AB:(vI (((i+1):Nat):Int))=(vI ((i:Int)+1)):=by exact cI om
 refine bu (M ⟨(i+1),⟨om,qn B hx hy h⟩⟩ _ _ _ U os (eb.cons U<|eb.cons U<|bJ U AB<|eb.nil _) (aS [0,1,2,3]))
theorem oh (fq sq x:Int):
 c_ Tryz.prog 29 [(vI fq),(vI sq),(Value.int .u8 x)] [(rd ek 3 2 dH)] (vB (decide (jW bP fq 0 sq=0∧kG bP fq 0 sq=x))):=by
 refine bq kr Tryz.func29 U U fun c Q hQ hN=>?_
 try dsimp only
 refine WS fun _ X=>rP 1 [] I ?_
 refine RK X<|WS fun _ Y=>cX gS (aH) U fun b a=>?_
 obtain ⟨S,V,T,W,AA,C,G,D,H,E,AB,F,J,O,K,L,P,R⟩:=b
 try dsimp only
 obtain ⟨N,Z,M⟩:=a
 refine br 2 U<|rS (CL (z6 bP S V AA T W C G D H E AB O F J K L P R fq 0 sq (by exact N)) (dN 10 U U<|ai (ag (n:=bP.Race.ak.aU.length) 0 U sm)<|ai (ag (n:=bP.Race.ak.ar.length) 1 U (ew Z))<|ai (cR 2 U eY)<|ai (ag (n:=bP.Race.ak.aa.length) 3 U sm)<|ai (ag (n:=bP.Race.aR.length) 4 U sm)<|ai (ag (n:=bP.Race.b_.length) 5 U sm)<|ai (ag (n:=bP.Race.ax.length) 6 U (dq M.1))<|ai (ed 7 U M)<|ai (ag (n:=bP.aC.length) 8 U sm)<|ai (ag (n:=bP.aD.length) 9 U sm)<|aH) U)<|br 5 U<|RK Y<|WS fun _ A=>rP 3 [] I ?_
 refine cw (t:=18) U (bf fun B=>?_) (bc fun B=>?_)
 ·refine rP 5 [] I ?_
  refine RK A<|ay<|Q1 hQ U U U ?_
  exact cB (eV fun q=>B q.1).symm
 refine br 2 U<|rS (BI U s_)<|rP 2 [] I ?_
 refine RK A<|ay<|Q1 hQ U U U ?_
 exact cB (gM.2 ⟨fun q=>⟨B,q⟩,fun q=>q.2⟩)
theorem vw (iq x:Int):
 c_ Tryz.prog 30 [(vI iq),(Value.int .u8 x)] [(rd ek 3 2 dH)] (vB (decide (n5 bP iq=0∧p7 bP iq=x))):=by
 refine bq kr Tryz.func30 U U fun c Q hQ hN=>?_
 try dsimp only
 refine WS fun _ X=>rP 1 [] I ?_
 refine RK X<|WS fun _ Y=>cX gS (aH) U fun b a=>?_
 obtain ⟨S,V,T,W,AA,C,G,D,H,E,AB,F,J,O,K,L,P,R⟩:=b
 try dsimp only
 obtain ⟨N,Z,M⟩:=a
 refine br 1 U<|rS (CL (Dd bP S V AA T W C G D H E AB O F J K L P R iq (by exact N)) (dN 10 U U<|ai (ag (n:=bP.Race.ak.aU.length) 0 U sm)<|ai (ag (n:=bP.Race.ak.ar.length) 1 U (ew Z))<|ai (cR 2 U eY)<|ai (ag (n:=bP.Race.ak.aa.length) 3 U sm)<|ai (ag (n:=bP.Race.aR.length) 4 U sm)<|ai (ag (n:=bP.Race.b_.length) 5 U sm)<|ai (ag (n:=bP.Race.ax.length) 6 U (dq M.1))<|ai (ed 7 U M)<|ai (ag (n:=bP.aC.length) 8 U sm)<|ai (ag (n:=bP.aD.length) 9 U sm)<|aH) U)<|br 5 U<|RK Y<|WS fun _ A=>rP 3 [] I ?_
 refine cw (t:=15) U (bf fun B=>?_) (bc fun B=>?_)
 ·refine rP 5 [] I ?_
  refine RK A<|ay<|Q1 hQ U U U ?_
  exact cB (eV fun q=>B q.1).symm
 refine br 2 U<|rS (BI U s_)<|rP 2 [] I ?_
 refine RK A<|ay<|Q1 hQ U U U ?_
 exact cB (gM.2 ⟨fun q=>⟨B,q⟩,fun q=>q.2⟩)
end
section
open Go.RowKit
theorem uu (j:cn) (kA:OA) (kC:Nat) (az:List RA) (cA:OA) (cC:Nat) (bA:OA) (bC:Nat) (slA:OA) (slC:Nat) (drA:OA) (drC:Nat) (ha:List cg) (heA:OA) (heC:Nat) (faA:OA) (faC:Nat) (prA:OA) (prC:Nat) (hin:eB j az ha) (hok:cH j=0):
 lX Tryz.prog 45 [(vA (ck.cells (ck.mk (lY j kA kC cA cC bA bC slA slC drA drC heA heC faA faC prA prC))))] [(rd kA j.Race.ak.aU.length 9 (j.Race.ak.aU.map av.cells)),(rd cA j.Race.ak.ar.length 2 (List.zipWith aB.cells j.Race.ak.ar az)),(dw (aX aB.gQ j.Race.ak.ar az)),(rd bA j.Race.ak.aa.length 4 (j.Race.ak.aa.map bD.cells)),(rd slA j.Race.aR.length 1 (j.Race.aR.map iC)),(rd drA j.Race.b_.length 1 (j.Race.b_.map iC)),(rd heA j.Race.ax.length 1 (List.zipWith cc j.Race.ax ha)),(dw (aX ep j.Race.ax ha)),(rd faA j.aC.length 4 (j.aC.map aI.cells)),(rd prA j.aD.length 5 (j.aD.map aV.cells))] (fun (x:(List RA)×(OA)×Nat)=>(vS x.2.1 ((eg j).length) x.2.2)) (fun (x:(List RA)×(OA)×Nat)=>x.1.length=(eg j).length) (fun (x:(List RA)×(OA)×Nat)=>[(own x.2.1 x.2.2 29 1 (List.zipWith qQ (eg j) x.1)),(bx (aX yX (eg j) x.1))]):=by
 have AC:=hin.race
 have i:=hin.race.line
 have A4:=hin.race.gv
 have A5:=hin.race.has
 have AO:=hin.race.gD
 have u:=hin.nf
 have y:=hin.np
 have P:=(dJ hok).1
 have O:=(dJ hok).2
 have h:=(dx P).1
 have A8:=(dx P).2
 have d:=(en h).2.head
 unfold fP at d
 have A6:=O.np
 have w:=r8 (j:=j)
 refine dI kr Tryz.func45 U U fun w0 Q hQ hN=>?_
 try dsimp only
 refine WS fun _ Y=>e8 U fun b2=>rP 1 [] I ?_
 refine RK Y<|WS fun _ Z=>jy (kV:=iV) U U fun T=>?_
 try dsimp only
 refine br 1 U<|RK Z<|aw fun _ a=>WS fun _ b=>rP 4 [] (mc 1 U I) ?_
 refine rS (FU U) ?_
 refine cX (vg j.aD prA prC (Value.func (.func 42) [(vA (ck.cells (ck.mk (lY j kA kC cA cC bA bC slA slC drA drC heA heC faA faC prA prC))))].toArray [].toArray) (fun q S=>(fV j S)) (dw [(rd kA j.Race.ak.aU.length 9 (j.Race.ak.aU.map av.cells)),(rd cA j.Race.ak.ar.length 2 (List.zipWith aB.cells j.Race.ak.ar az)),(dw (aX aB.gQ j.Race.ak.ar az)),(rd bA j.Race.ak.aa.length 4 (j.Race.ak.aa.map bD.cells)),(rd slA j.Race.aR.length 1 (j.Race.aR.map iC)),(rd drA j.Race.b_.length 1 (j.Race.b_.map iC)),(rd heA j.Race.ax.length 1 (List.zipWith cc j.Race.ax ha)),(dw (aX ep j.Race.ax ha)),(rd faA j.aC.length 4 (j.aC.map aI.cells)),(rd prA j.aD.length 5 (j.aD.map aV.cells))]) (by intro q S k; exact jd (fi:=[(vA (ck.cells (ck.mk (lY j kA kC cA cC bA bC slA slC drA drC heA heC faA faC prA prC))))]) (ca:=[]) (ib (qD j kA kC az cA cC bA bC slA slC drA drC ha heA heC faA faC prA prC q S asm asm (by (obtain ⟨i_,_,e⟩:=k; exact ⟨i_,e⟩))) (aY [0,1,2,3,4,5,6,7,8,9]))) asm) (dN 11 rfl rfl<|ai (ij (aY [2,3,4,5,6,7,8,9,10,11]))<|aH) rfl fun y9 AP=>?_
 obtain ⟨A1,A2⟩:=y9
 try dsimp only
 rw [show (jQ (fI j.aD (fun q S=>(fV j S))) j.aD.length)=gd j from rfl]
 refine rP 2 [] I ?_
 refine RK b<|aL ?_
 skip
 have A:(0≤(gd j).length):=by exact Nat.zero_le _
 refine cq (ι:={z:Nat // (z≤(gd j).length)}) [1,3,12,13] [0,2,3,4,5,6,7,8,9,10,11,12] U U (fun z=>[(14,(vI (z.1:Int)))]) (fun z=>[(iB iV T (b0 vB (ru j.aC (Be j z.1))))]) (fun _=>rfl) (fun _=>rfl) (fun z=>(gd j).length-z.1) ⟨0,A⟩ (bw U) (aS [0,2,3,4,5,6,7,8,9,10,11,12,1]) ?_
 clear A
 rintro ⟨t,g⟩ J13 E
 try dsimp only
 refine WS fun _ F=>rP 1 [] I ?_
 refine RK F<|aw fun _ G=>cP U (bf fun X=>?_) (bc fun X=>?_)
 ·refine bV<|ao<|ao<|aM<|KK a<|WS fun _ J=>rP 2 [] (mc 1 U I) ?_
  refine cX (Ee T j kA kC cA cC bA bC slA slC drA drC heA heC faA faC prA prC) (aH) U fun r A0=>?_
  obtain ⟨V,C⟩:=r
  try dsimp only
  refine cX (zK (ru j.aC (Be j t)) T j kA kC az cA cC bA bC slA slC drA drC ha heA heC faA faC prA prC V C hin hok) (aY [14,4,5,6,7,8,9,10,11,12,13,0,1]) U fun s R=>?_
  obtain ⟨D,AA,W⟩:=s
  try dsimp only
  have N:=R
  have o:(e5 j (iR j.aC (ru j.aC (Be j t))))=(eg j):=by exact yl om
  rw [o] at N ⊢
  refine rP 1 [] I ?_
  refine RK J<|ay ?_
  refine LX hQ (D,AA,W) [0,1] [] I U (by show List.all _ _=true; simp only [gf,List.all_nil,nQ,Bool.and_true]; rfl) U U ?_
  exact N
 refine WK G<|aw fun _ H=>aL<|WS fun _ AB=>?_
 obtain ⟨gi,B⟩:=aO (gd j) t om
 have M:=cD iC B
 refine rS (IA t U (ag (n:=(gd j).length) 0 U sm) de dc om om)<|rS (iY t 0 (vI gi) U ct (ag (n:=(gd j).length) 0 U sm) M U dc U)<|br 1 U<|RK AB<|dh cu 17 kr<|dP 10 [] (mc 1 U I) ?_
 obtain ⟨gk,A3,v⟩:=Cb B
 refine dP 1 [] I ?_
 obtain ⟨p,hp⟩:=aO j.aD ((gi).toNat) om
 have l:=cD aV.cells hp
 refine dS (IA ((gi).toNat) U (aQ 11 U) CT dc om om)<|dS (x9 ((((gi).toNat)*5)+3) U (aQ 11 U) (Nat.mul_pos om dc) fc U) ?_
 have m:=O.GG _ p hp
 have A7:=m.fault
 refine dS (iY ((gi).toNat) 3 (vI p.jn) U ct (aQ 11 U) l U dc U) ?_
 obtain ⟨f,hf⟩:=aO j.aC ((p.jn).toNat) om
 have c:=cD aI.cells hf
 refine dS (IA ((p.jn).toNat) U (aQ 10 U) uJ dc om om)<|dS (nz ((p.jn).toNat) 0 (aI.cells f) U ct (aQ 10 U) c U dc U U)<|dS (CL (rV j.aC faA faC f asm) (aY [10]) U)<|du ?_
 have K:(c3 (ru j.aC (Be j t)) (iM j.aC f) true)=(ru j.aC (Be j (t+1))):=by rw [D8 B hp hf,B_]
 refine gu (kV:=iV) (x:=(iM j.aC f)) (C':=[_,_,_,_,_,_,_,_,_,_,_,_,(iB iV T (b0 vB (ru j.aC (Be j (t+1)))))]) 12 U U U U ud (fM pq) U ((ei _ _ _ _).symm.trans (congrArg _ K)) U<|aK<|aW<|KK H<|aF<|rP 2 [] I ?_
 refine aK ?_
 have L:(vI (((t+1):Nat):Int))=(vI ((t:Int)+1)):=by exact cI om
 refine bu (E ⟨(t+1),(by first|omega|(simp only []; omega))⟩ _ _ _ U os (c0 4<|bJ U L<|eb.nil _) (aS [0,1,2,3,4,5,6,7,8,9,10,11,12]))
theorem BE (j:cn) (kA:OA) (kC:Nat) (az:List RA) (cA:OA) (cC:Nat) (bA:OA) (bC:Nat) (slA:OA) (slC:Nat) (drA:OA) (drC:Nat) (ha:List cg) (heA:OA) (heC:Nat) (faA:OA) (faC:Nat) (prA:OA) (prC:Nat) (hin:eB j az ha):
 lX Tryz.prog 10 [(vA (fH.cells (lY j kA kC cA cC bA bC slA slC drA drC heA heC faA faC prA prC)))] [(rd ek 3 2 dH),(rd kA j.Race.ak.aU.length 9 (j.Race.ak.aU.map av.cells)),(rd cA j.Race.ak.ar.length 2 (List.zipWith aB.cells j.Race.ak.ar az)),(dw (aX aB.gQ j.Race.ak.ar az)),(rd bA j.Race.ak.aa.length 4 (j.Race.ak.aa.map bD.cells)),(rd slA j.Race.aR.length 1 (j.Race.aR.map iC)),(rd drA j.Race.b_.length 1 (j.Race.b_.map iC)),(rd heA j.Race.ax.length 1 (List.zipWith cc j.Race.ax ha)),(dw (aX ep j.Race.ax ha)),(rd faA j.aC.length 4 (j.aC.map aI.cells)),(rd prA j.aD.length 5 (j.aD.map aV.cells))] (fun (x:(List RA)×(OA)×Nat)=>(vT [(vS x.2.1 ((fG j).length) x.2.2),(vI (cH j))])) (fun (x:(List RA)×(OA)×Nat)=>x.1.length=(fG j).length) (fun (x:(List RA)×(OA)×Nat)=>[(own x.2.1 x.2.2 29 1 (List.zipWith qQ (fG j) x.1)),(bx (aX yX (fG j) x.1))]):=by
 have S:=hin.race
 have N:=hin.race.line
 have AA:=hin.race.gv
 have V:=hin.race.has
 have T:=hin.race.gD
 have P:=hin.nf
 have R:=hin.np
 refine dI kr Tryz.func10 U U fun Z Q hQ hN=>?_
 try dsimp only
 refine WS fun _ H=>e8 U fun X=>br 1 U<|br 1 U<|RK H<|WS fun _ AB=>gO 1 [] (mc 0 U I) U<|rS (CL (m_ j kA kC az cA cC bA bC slA slC drA drC ha heA heC faA faC prA prC hin) (aY [1,2,3,4,5,6,7,8,9,10,11]) U)<|br 3 U<|AL U xU fun Y=>fF U wk U<|br 1 U<|RK AB<|aw fun _ J=>WS fun _ K=>rP 2 [] I ?_
 refine RK K<|cO U (bI fun A=>?_) (bH fun A=>?_)
 ·refine WS fun _ L=>?_
  have C:(fG j)=[]:=q6 A
  have B:([]:List RA).length=(fG j).length:=by rw [C]; rfl
  refine fy 29 1<|vN ?_
  rw [show (own none 0 29 1 ([]:List (List Value)))=own none 0 29 1 (List.zipWith qQ (fG j) []) from by rw [C]; rfl,show bx []=bx (aX yX (fG j) []) from by rw [C]; rfl]
  refine br 2 U<|rP 1 [] I ?_
  refine RK L<|ay ?_
  refine LX hQ ([],none,0) [1,0] [] I U (by show List.all _ _=true; simp only [gf,List.all_nil,nQ,Bool.and_true]; rfl) U ?_ ?_
  ·(rw [q6 A]; rfl)
  ·exact B
 refine WK J<|WS fun _ M=>rP 1 [] (mc 0 U I) ?_
 refine cX (uu j kA kC az cA cC bA bC slA slC drA drC ha heA heC faA faC prA prC hin asm) (aY [3,4,5,6,7,8,9,10,11,12]) U fun W E=>?_
 obtain ⟨D,F,G⟩:=W
 try dsimp only
 have B:=E
 refine rP 1 [] I ?_
 have O:(eg j)=(fG j):=by exact (lF A).symm
 rw [O] at B ⊢
 refine rP 1 [] I ?_
 refine RK M<|ay ?_
 refine LX hQ (D,F,G) [0,1] [] I U (by show List.all _ _=true; simp only [gf,List.all_nil,nQ,Bool.and_true]; rfl) U ?_ ?_
 ·(rw [A]; rfl)
 ·exact B
end
section
open Go.RowKit
theorem Fy:
 c_ Tryz.prog 22 [] [(rd ek 3 2 dH)] (vB true):=by
 refine bq kr Tryz.func22 U U fun w0 Q hQ hN=>?_
 try dsimp only
 refine WS fun _ J2=>rP 1 [] I ?_
 refine RK J2<|WS fun _ J3=>cX gS (aH) U fun y3 J4=>?_
 obtain ⟨IO,JR,Id,Jt,JJ,K,l,O,r,T,w,X,AC,Fd,A1,A5,GE,Go⟩:=y3
 try dsimp only
 obtain ⟨B,C,A⟩:=J4
 refine cX (xE bP IO JR JJ Id Jt K l O r T w Fd X AC A1 A5 GE Go (by exact B)) (dN 10 U U<|ai (ag (n:=bP.Race.ak.aU.length) 0 U sm)<|ai (ag (n:=bP.Race.ak.ar.length) 1 U (ew C))<|ai (cR 2 U eY)<|ai (ag (n:=bP.Race.ak.aa.length) 3 U sm)<|ai (ag (n:=bP.Race.aR.length) 4 U sm)<|ai (ag (n:=bP.Race.b_.length) 5 U sm)<|ai (ag (n:=bP.Race.ax.length) 6 U (dq A.1))<|ai (ed 7 U A)<|ai (ag (n:=bP.aC.length) 8 U sm)<|ai (ag (n:=bP.aD.length) 9 U sm)<|aH) U fun J5 KL=>?_
 obtain ⟨IR,Ja⟩:=J5
 try dsimp only
 refine uN [0,11] U U<|rP 5 [] I ?_
 refine RK J3<|WS fun _ C3=>cX gS (aH) U fun J6 Eq=>?_
 obtain ⟨E,f,H,i,c,L,o,P,s,AA,x,Y,AO,Fk,A2,A6,GG,HH⟩:=J6
 try dsimp only
 obtain ⟨B,C,A⟩:=Eq
 refine cX (BE bP E f c H i L o P s AA x Fk Y AO A2 A6 GG HH (by exact B)) (dN 11 U U<|ai (ag (n:=bP.Race.ak.aU.length) 0 U sm)<|ai (ag (n:=bP.Race.ak.ar.length) 1 U (ew C))<|ai (cR 2 U eY)<|ai (ag (n:=bP.Race.ak.aa.length) 3 U sm)<|ai (ag (n:=bP.Race.aR.length) 4 U sm)<|ai (ag (n:=bP.Race.b_.length) 5 U sm)<|ai (ag (n:=bP.Race.ax.length) 6 U (dq A.1))<|ai (ed 7 U A)<|ai (ag (n:=bP.aC.length) 8 U sm)<|ai (ag (n:=bP.aD.length) 9 U sm)<|aH) U fun J7 E2=>?_
 obtain ⟨A9,If,J1⟩:=J7
 try dsimp only
 have ER:=E2
 refine uN [0,1,12,13] U U<|rP 5 [] I ?_
 refine RK C3<|WS fun _ Di=>cX gS (aH) U fun J8 FI=>?_
 obtain ⟨F,g,AB,j,d,M,p,R,u,V,y,Z,AP,Fn,A3,A7,GT,Hi⟩:=J8
 try dsimp only
 obtain ⟨B,C,A⟩:=FI
 refine rS (CL (HA bP F g d AB j M p R u V y Fn Z AP A3 A7 GT Hi (by exact B)) (dN 13 U U<|ai (ag (n:=bP.Race.ak.aU.length) 0 U sm)<|ai (ag (n:=bP.Race.ak.ar.length) 1 U (ew C))<|ai (cR 2 U eY)<|ai (ag (n:=bP.Race.ak.aa.length) 3 U sm)<|ai (ag (n:=bP.Race.aR.length) 4 U sm)<|ai (ag (n:=bP.Race.b_.length) 5 U sm)<|ai (ag (n:=bP.Race.ax.length) 6 U (dq A.1))<|ai (ed 7 U A)<|ai (ag (n:=bP.aC.length) 8 U sm)<|ai (ag (n:=bP.aD.length) 9 U sm)<|aH) U)<|uN [10,11,12,13] U U<|rP 7 [] I ?_
 refine RK Di<|WS fun _ Do=>cX gS (aH) U fun J9 FS=>?_
 obtain ⟨G,h,J,k,e,N,q,S,v,W,z,a,A0,Ft,A4,A8,GV,H1⟩:=J9
 try dsimp only
 obtain ⟨B,C,A⟩:=FS
 refine rS (CL (zP bP G h e J k N q S v W z Ft a A0 A4 A8 GV H1 0 (by exact B)) (dN 13 U U<|ai (ag (n:=bP.Race.ak.aU.length) 0 U sm)<|ai (ag (n:=bP.Race.ak.ar.length) 1 U (ew C))<|ai (cR 2 U eY)<|ai (ag (n:=bP.Race.ak.aa.length) 3 U sm)<|ai (ag (n:=bP.Race.aR.length) 4 U sm)<|ai (ag (n:=bP.Race.b_.length) 5 U sm)<|ai (ag (n:=bP.Race.ax.length) 6 U (dq A.1))<|ai (ed 7 U A)<|ai (ag (n:=bP.aC.length) 8 U sm)<|ai (ag (n:=bP.aD.length) 9 U sm)<|aH) U)<|uN [10,11,12,13] U U<|br 5 U<|RK Do<|WS fun _ EQ=>rS (CL (oh 0 0 1) (aY [3]) U)<|rP 1 [] I ?_
 refine cw (t:=32) U (bf fun B3=>?_) (bc fun B3=>?_)
 ·exact absurd (Kf) B3
 refine rS (CL (oh 1 0 2) (aY [3]) U)<|rP 2 [] I ?_
 refine cw (t:=35) U (bf fun B8=>?_) (bc fun B8=>?_)
 ·exact absurd (Kb) B8
 refine rS (CL (oh 3 0 0) (aY [3]) U)<|rP 2 [] I ?_
 refine cw (t:=38) U (bf fun B9=>?_) (bc fun B9=>?_)
 ·exact absurd (Jb) B9
 refine rS (CL (vw 0 0) (aY [3]) U)<|rP 2 [] I ?_
 refine cw (t:=41) U (bf fun CK=>?_) (bc fun CK=>?_)
 ·exact absurd (IV) CK
 refine rS (CL (vw 1 2) (aY [3]) U)<|rP 2 [] I ?_
 refine cw (t:=44) U (bf fun CV=>?_) (bc fun CV=>?_)
 ·exact absurd (IH) CV
 refine rP 4 [] I ?_
 refine cw (t:=48) U (bf fun Ci=>?_) (bc fun Ci=>?_)
 ·exact absurd (g8) Ci
 refine rP 1 [] I ?_
 refine dr (xs:=[.const (vI 0)]) (cs:=[(vI 0)]) U de iy U U U U (by simp [Value.cells]) U U fun In=>?_
 refine rS (CL (yV (iH bP) IR Ja ([0]) (some ⟨In,0,none⟩) 1 (by rw [Ir]; decide) dc) (ai (ag (n:=(iH bP).length) 3 U sm)<|ai (aT 0 U U (by simp [bp]) U)<|aH) U) ?_
 refine rP 2 [] I ?_
 refine cw (t:=53) U (bf fun Ck=>?_) (bc fun Ck=>?_)
 ·exact absurd (Ir) Ck
 refine rP 4 [] I ?_
 refine cw (t:=57) U (bf fun Cp=>?_) (bc fun Cp=>?_)
 ·exact absurd (g8) Cp
 refine rP 1 [] I ?_
 refine dr (xs:=[.const (vI 0)]) (cs:=[(vI 0)]) U de iy U U U U (by simp [Value.cells]) U U fun D=>dr (xs:=[.tmp 59,.const (vS none 0 0)]) (cs:=[(vS (some ⟨D,0,none⟩) 1 1),(vS none 0 0)]) U E5 KW U U U U (by simp [Value.cells]) U U fun b=>?_
 refine e7 (es:=(([0]:List Int).map iC)) (C':=[_,(own (some ⟨D,0,none⟩) 1 3 1 (([0]:List Int).map iC)),_,_,_,_,_]) 1 U (ku bp _) U (by show _≤maxLen; exact Nat.le_trans (m:=10) (show (1:Nat)≤10 by decide) dc) U ?_
 refine fy 3 1 ?_
 refine e7 (es:=(List.zipWith qQ [([0]:List Int),([]:List Int)] [((some ⟨D,0,none⟩),1),(none,0)])) (C':=[_,(own (some ⟨b,0,none⟩) 2 29 1 (List.zipWith qQ [([0]:List Int),([]:List Int)] [((some ⟨D,0,none⟩),1),(none,0)])),_,_,_,_,_,_]) 1 U (nJ IM) U (by show _≤maxLen; exact Nat.le_trans (m:=10) (show (2:Nat)≤10 by decide) dc) U ?_
 refine Bv (aX yX [([0]:List Int),([]:List Int)] [((some ⟨D,0,none⟩),1),(none,0)]) [2,0] [1,3,4,5,6,7] U U ?_
 refine rS (CL (vj (fG bP) ([([0]:List Int),([]:List Int)]) A9 If J1 ([((some ⟨D,0,none⟩),1),(none,0)]) (some ⟨b,0,none⟩) 2 (by rw [Fe]; decide) dc (by rw [Fe]; decide) dc (by exact ER) (by rfl)) (ai (ag (n:=(fG bP).length) 3 U (pA ER))<|ai (cR 4 U EV)<|ai (ag (n:=([([0]:List Int),([]:List Int)]).length) 1 U sm)<|ai (cR 0 U EV)<|aH) U) ?_
 refine rP 2 [] I ?_
 refine cw (t:=63) U (bf fun Cu=>?_) (bc fun Cu=>?_)
 ·exact absurd (Fe) Cu
 refine rP 4 [] I ?_
 refine cw (t:=67) U (bf fun Cx=>?_) (bc fun Cx=>?_)
 ·exact absurd (g8) Cx
 refine rP 4 [] I ?_
 refine cw (t:=71) U (bf fun C0=>?_) (bc fun C0=>?_)
 ·exact absurd (HP.1) C0
 refine rP 4 [] I ?_
 refine cw (t:=75) U (bf fun C1=>?_) (bc fun C1=>?_)
 ·exact absurd (HP.2) C1
 refine rP 4 [] I ?_
 refine cw (t:=79) U (bf fun C2=>?_) (bc fun C2=>?_)
 ·exact absurd (Ip.1) C2
 refine rP 4 [] I ?_
 refine RK EQ<|ay<|Q1 hQ U U U ?_
 exact cB (gX Ip.2)
end
section
open Go.RowKit
theorem FD (l:List av) (lA:OA) (lC:Nat) (hlen:l.length≤1000000):
 lX Tryz.prog 79 [(vS lA l.length lC)] [(rd lA l.length 9 (l.map av.cells))] (fun (x:(OA)×Nat)=>(vS x.1 l.length x.2)) (fun (x:(OA)×Nat)=>True) (fun (x:(OA)×Nat)=>[(own x.1 x.2 128 9 (l.map av.cells))]):=by
 refine dI kr Tryz.func79 U U fun L Q hQ hN=>?_
 try dsimp only
 refine WS fun _ D=>br 1 U<|RK D<|aw fun _ E=>WS fun _ F=>rP 1 [] I ?_
 refine rS (BI U (nT Md))<|RK F<|cO U (bc fun B=>?_) (bf fun B=>?_)
 ·refine WS fun _ G=>kb (aQ 0 U) B dc fun C=>?_
  have A:l=[]:=by simpa using C
  refine fy 128 9 ?_
  rw [show (own none 0 128 9 ([]:List (List Value)))=own none 0 128 9 (l.map av.cells) from by rw [A]; rfl]
  refine rP 1 [] I ?_
  refine RK G<|ay ?_
  refine LX hQ (none,0) [0] [] I U U U ?_ ?_
  ·first|rfl|(rw [A]; rfl)
  ·trivial
 refine WK E<|WS fun _ H=>q9 U Bq U fun J=>rP 1 [] I ?_
 refine e7 (es:=(List.map av.cells [])) (C':=[own (some ⟨J,0,none⟩) 0 128 9 (List.map av.cells []),_]) 0 U sm U (by simp [maxLen]) U ?_
 refine eD (es2:=(List.map av.cells l)) (m':=l.length) 0 U U U Nr U U sm (aQ 1 U) (oV _) os (by first|(simp only [maxLen]; omega)|(simp [maxLen]; omega)) sm sm U fun AA K=>?_
 try dsimp only
 refine rP 1 [] I ?_
 refine RK H<|ay ?_
 refine LX hQ (AA,K) [0] [] I U U U ?_ ?_
 ·first|rfl|(rw [A]; rfl)
 ·trivial
theorem Fi (l:List bD) (lA:OA) (lC:Nat) (hlen:l.length≤1000000):
 lX Tryz.prog 80 [(vS lA l.length lC)] [(rd lA l.length 4 (l.map bD.cells))] (fun (x:(OA)×Nat)=>(vS x.1 l.length x.2)) (fun (x:(OA)×Nat)=>True) (fun (x:(OA)×Nat)=>[(own x.1 x.2 137 4 (l.map bD.cells))]):=by
 refine dI kr Tryz.func80 U U fun L Q hQ hN=>?_
 try dsimp only
 refine WS fun _ D=>br 1 U<|RK D<|aw fun _ E=>WS fun _ F=>rP 1 [] I ?_
 refine rS (BI U (nT JE))<|RK F<|cO U (bc fun B=>?_) (bf fun B=>?_)
 ·refine WS fun _ G=>kb (aQ 0 U) B dc fun C=>?_
  have A:l=[]:=by simpa using C
  refine fy 137 4 ?_
  rw [show (own none 0 137 4 ([]:List (List Value)))=own none 0 137 4 (l.map bD.cells) from by rw [A]; rfl]
  refine rP 1 [] I ?_
  refine RK G<|ay ?_
  refine LX hQ (none,0) [0] [] I U U U ?_ ?_
  ·first|rfl|(rw [A]; rfl)
  ·trivial
 refine WK E<|WS fun _ H=>q9 U B7 U fun J=>rP 1 [] I ?_
 refine e7 (es:=(List.map bD.cells [])) (C':=[own (some ⟨J,0,none⟩) 0 137 4 (List.map bD.cells []),_]) 0 U sm U (by simp [maxLen]) U ?_
 refine eD (es2:=(List.map bD.cells l)) (m':=l.length) 0 U U U Nl U U sm (aQ 1 U) (rp _) os (by first|(simp only [maxLen]; omega)|(simp [maxLen]; omega)) sm sm U fun AA K=>?_
 try dsimp only
 refine rP 1 [] I ?_
 refine RK H<|ay ?_
 refine LX hQ (AA,K) [0] [] I U U U ?_ ?_
 ·first|rfl|(rw [A]; rfl)
 ·trivial
theorem E9 (l:List cV) (lA:OA) (lC:Nat) (hlen:l.length≤1000000):
 lX Tryz.prog 82 [(vS lA l.length lC)] [(rd lA l.length 3 (l.map cV.cells))] (fun (x:(OA)×Nat)=>(vS x.1 l.length x.2)) (fun (x:(OA)×Nat)=>True) (fun (x:(OA)×Nat)=>[(own x.1 x.2 130 3 (l.map cV.cells))]):=by
 refine dI kr Tryz.func82 U U fun L Q hQ hN=>?_
 try dsimp only
 refine WS fun _ D=>br 1 U<|RK D<|aw fun _ E=>WS fun _ F=>rP 1 [] I ?_
 refine rS (BI U (nT Lj))<|RK F<|cO U (bc fun B=>?_) (bf fun B=>?_)
 ·refine WS fun _ G=>kb (aQ 0 U) B dc fun C=>?_
  have A:l=[]:=by simpa using C
  refine fy 130 3 ?_
  rw [show (own none 0 130 3 ([]:List (List Value)))=own none 0 130 3 (l.map cV.cells) from by rw [A]; rfl]
  refine rP 1 [] I ?_
  refine RK G<|ay ?_
  refine LX hQ (none,0) [0] [] I U U U ?_ ?_
  ·first|rfl|(rw [A]; rfl)
  ·trivial
 refine WK E<|WS fun _ H=>q9 U tJ U fun J=>rP 1 [] I ?_
 refine e7 (es:=(List.map cV.cells [])) (C':=[own (some ⟨J,0,none⟩) 0 130 3 (List.map cV.cells []),_]) 0 U sm U (by simp [maxLen]) U ?_
 refine eD (es2:=(List.map cV.cells l)) (m':=l.length) 0 U U U L4 U U sm (aQ 1 U) (rl _) os (by first|(simp only [maxLen]; omega)|(simp [maxLen]; omega)) sm sm U fun AA K=>?_
 try dsimp only
 refine rP 1 [] I ?_
 refine RK H<|ay ?_
 refine LX hQ (AA,K) [0] [] I U U U ?_ ?_
 ·first|rfl|(rw [A]; rfl)
 ·trivial
theorem wc (l:List aG) (lA:OA) (lC:Nat) (hlen:l.length≤1000000):
 lX Tryz.prog 53 [(vS lA l.length lC)] [(rd lA l.length 2 (l.map aG.cells))] (fun (x:(OA)×Nat)=>(vS x.1 l.length x.2)) (fun (x:(OA)×Nat)=>True) (fun (x:(OA)×Nat)=>[(own x.1 x.2 113 2 (l.map aG.cells))]):=by
 refine dI kr Tryz.func53 U U fun L Q hQ hN=>?_
 try dsimp only
 refine WS fun _ D=>br 1 U<|RK D<|aw fun _ E=>WS fun _ F=>rP 1 [] I ?_
 refine rS (BI U (nT Oe))<|RK F<|cO U (bc fun B=>?_) (bf fun B=>?_)
 ·refine WS fun _ G=>kb (aQ 0 U) B dc fun C=>?_
  have A:l=[]:=by simpa using C
  refine fy 113 2 ?_
  rw [show (own none 0 113 2 ([]:List (List Value)))=own none 0 113 2 (l.map aG.cells) from by rw [A]; rfl]
  refine rP 1 [] I ?_
  refine RK G<|ay ?_
  refine LX hQ (none,0) [0] [] I U U U ?_ ?_
  ·first|rfl|(rw [A]; rfl)
  ·trivial
 refine WK E<|WS fun _ H=>q9 U Gz U fun J=>rP 1 [] I ?_
 refine e7 (es:=(List.map aG.cells [])) (C':=[own (some ⟨J,0,none⟩) 0 113 2 (List.map aG.cells []),_]) 0 U sm U (by simp [maxLen]) U ?_
 refine eD (es2:=(List.map aG.cells l)) (m':=l.length) 0 U U U Nj U U sm (aQ 1 U) (pB _) os (by first|(simp only [maxLen]; omega)|(simp [maxLen]; omega)) sm sm U fun AA K=>?_
 try dsimp only
 refine rP 1 [] I ?_
 refine RK H<|ay ?_
 refine LX hQ (AA,K) [0] [] I U U U ?_ ?_
 ·first|rfl|(rw [A]; rfl)
 ·trivial
theorem Dh (es:List (List Value)) (lA:OA) (n lC:Nat) (hlen:n≤1000000) (hes:es.length=n) (hone: ∀ v∈es.flatten,v.oneCell'=true):
 lX Tryz.prog 81 [(vS lA n lC)] [(rd lA n 2 es)] (fun (x:(OA)×Nat)=>(vS x.1 n x.2)) (fun (x:(OA)×Nat)=>True) (fun (x:(OA)×Nat)=>[(own x.1 x.2 133 2 es)]):=by
 refine dI kr Tryz.func81 U U fun L Q hQ hN=>?_
 try dsimp only
 refine WS fun _ D=>br 1 U<|RK D<|aw fun _ E=>WS fun _ F=>rP 1 [] I ?_
 refine rS (BI U (nT NA))<|RK F<|cO U (bc fun B=>?_) (bf fun B=>?_)
 ·refine WS fun _ G=>kb (aQ 0 U) B dc fun C=>?_
  have A:es=[]:=C
  refine fy 133 2 ?_
  rw [show (own none 0 133 2 ([]:List (List Value)))=own none 0 133 2 es from by rw [A]]
  refine rP 1 [] I ?_
  refine RK G<|ay ?_
  refine LX hQ (none,0) [0] [] I U U U ?_ ?_
  ·first|rfl|(rw [hes]; rfl)|(rw [← hes,A]; rfl)
  ·trivial
 refine WK E<|WS fun _ H=>q9 U BN U fun J=>rP 1 [] I ?_
 refine e7 (es:=(List.map dV.cells [])) (C':=[own (some ⟨J,0,none⟩) 0 133 2 (List.map dV.cells []),_]) 0 U sm U (by simp [maxLen]) U ?_
 refine eD (es2:=es) (m':=es.length) 0 U U U Od U U sm (aQ 1 U) hone (by simp; omega) (by simp [maxLen]; omega) sm U U fun AA K=>?_
 try dsimp only
 refine rP 1 [] I ?_
 refine RK H<|ay ?_
 refine LX hQ (AA,K) [0] [] I U U U ?_ ?_
 ·first|rfl|(rw [hes]; rfl)|(rw [← hes,A]; rfl)
 ·trivial
theorem Dm (es:List (List Value)) (lA:OA) (n lC:Nat) (hlen:n≤1000000) (hes:es.length=n) (hone: ∀ v∈es.flatten,v.oneCell'=true):
 lX Tryz.prog 85 [(vS lA n lC)] [(rd lA n 7 es)] (fun (x:(OA)×Nat)=>(vS x.1 n x.2)) (fun (x:(OA)×Nat)=>True) (fun (x:(OA)×Nat)=>[(own x.1 x.2 43 7 es)]):=by
 refine dI kr Tryz.func85 U U fun L Q hQ hN=>?_
 try dsimp only
 refine WS fun _ D=>br 1 U<|RK D<|aw fun _ E=>WS fun _ F=>rP 1 [] I ?_
 refine rS (BI U (nT NC))<|RK F<|cO U (bc fun B=>?_) (bf fun B=>?_)
 ·refine WS fun _ G=>kb (aQ 0 U) B dc fun C=>?_
  have A:es=[]:=C
  refine fy 43 7 ?_
  rw [show (own none 0 43 7 ([]:List (List Value)))=own none 0 43 7 es from by rw [A]]
  refine rP 1 [] I ?_
  refine RK G<|ay ?_
  refine LX hQ (none,0) [0] [] I U U U ?_ ?_
  ·first|rfl|(rw [hes]; rfl)|(rw [← hes,A]; rfl)
  ·trivial
 refine WK E<|WS fun _ H=>q9 U qB U fun J=>rP 1 [] I ?_
 refine e7 (es:=(List.map aJ.cells [])) (C':=[own (some ⟨J,0,none⟩) 0 43 7 (List.map aJ.cells []),_]) 0 U sm U (by simp [maxLen]) U ?_
 refine eD (es2:=es) (m':=es.length) 0 U U U M9 U U sm (aQ 1 U) hone (by simp; omega) (by simp [maxLen]; omega) sm U U fun AA K=>?_
 try dsimp only
 refine rP 1 [] I ?_
 refine RK H<|ay ?_
 refine LX hQ (AA,K) [0] [] I U U U ?_ ?_
 ·first|rfl|(rw [hes]; rfl)|(rw [← hes,A]; rfl)
 ·trivial
theorem Eu (es:List (List Value)) (lA:OA) (n lC:Nat) (hlen:n≤1000000) (hes:es.length=n) (hone: ∀ v∈es.flatten,v.oneCell'=true):
 lX Tryz.prog 84 [(vS lA n lC)] [(rd lA n 1 es)] (fun (x:(OA)×Nat)=>(vS x.1 n x.2)) (fun (x:(OA)×Nat)=>True) (fun (x:(OA)×Nat)=>[(own x.1 x.2 75 1 es)]):=by
 refine dI kr Tryz.func84 U U fun L Q hQ hN=>?_
 try dsimp only
 refine WS fun _ D=>br 1 U<|RK D<|aw fun _ E=>WS fun _ F=>rP 1 [] I ?_
 refine rS (BI U (nT ND))<|RK F<|cO U (bc fun B=>?_) (bf fun B=>?_)
 ·refine WS fun _ G=>kb (aQ 0 U) B dc fun C=>?_
  have A:es=[]:=C
  refine fy 75 1 ?_
  rw [show (own none 0 75 1 ([]:List (List Value)))=own none 0 75 1 es from by rw [A]]
  refine rP 1 [] I ?_
  refine RK G<|ay ?_
  refine LX hQ (none,0) [0] [] I U U U ?_ ?_
  ·first|rfl|(rw [hes]; rfl)|(rw [← hes,A]; rfl)
  ·trivial
 refine WK E<|WS fun _ H=>q9 U pk U fun J=>rP 1 [] I ?_
 refine e7 (es:=(List.map sC [])) (C':=[own (some ⟨J,0,none⟩) 0 75 1 (List.map sC []),_]) 0 U sm U (by simp [maxLen]) U ?_
 refine eD (es2:=es) (m':=es.length) 0 U U U N4 U U sm (aQ 1 U) hone (by simp; omega) (by simp [maxLen]; omega) sm U U fun AA K=>?_
 try dsimp only
 refine rP 1 [] I ?_
 refine RK H<|ay ?_
 refine LX hQ (AA,K) [0] [] I U U U ?_ ?_
 ·first|rfl|(rw [hes]; rfl)|(rw [← hes,A]; rfl)
 ·trivial
end
section
open Go.RowKit
theorem Dg (l:List Int) (lA:OA) (lC:Nat) (n:Int) (hlen:l.length≤1000000):
 lX Tryz.prog 78 [(vS lA l.length lC),(vI n)] [(rd lA l.length 1 (l.map iC))] (fun (x:Int)=>(vI x)) (fun (x:Int)=>(0≤x↔n∈l)) (fun (x:Int)=>[]):=by
 refine dI kr Tryz.func78 U U fun AA Q hQ hN=>?_
 try dsimp only
 refine WS fun _ AB=>br 1 U<|RK AB<|aw fun _ J=>WS fun _ K=>rP 3 [] I ?_
 refine RK K<|aL ?_
 have A:(0≤l.length)∧(∀ y∈l.take 0,y≠n):=by exact ⟨Nat.zero_le _,fun y hy=>by simp at hy⟩
 refine cq (ι:={z:Nat // (z≤l.length)∧(∀ y∈l.take z,y≠n)}) [0,1,7] [0] U U (fun z=>[(8,(vI (z.1:Int)))]) (fun z=>[]) (fun _=>rfl) (fun _=>rfl) (fun z=>l.length-z.1) ⟨0,A⟩ (bw U) (aS [0]) ?_
 clear A
 rintro ⟨i,⟨P,B⟩⟩ J4 H
 try dsimp only
 refine WS fun _ L=>rP 1 [] I ?_
 refine RK L<|aw fun _ M=>cP U (bf fun S=>?_) (bc fun S=>?_)
 ·refine bV<|ao<|ao<|aM<|KK J<|WS fun _ F=>rP 1 [] I ?_
  refine RK F<|ay<|LX hQ (-1) [] [] I U U U U ?_
  exact ⟨fun q=>absurd q dc,fun q=>absurd q (fun T=>B _ (by rw [List.take_of_length_le om]; exact T) U)⟩
 refine WK M<|aw fun _ N=>aL<|WS fun _ O=>br 2 U<|RK O<|WS fun _ D=>rP 3 [] I ?_
 obtain ⟨x,hx⟩:=aO l i om
 have R:=cD iC hx
 refine rS (IA i U (aQ 0 U) de dc om om)<|rS (iY i 0 (vI x) U ct (aQ 0 U) R U dc U)<|rP 1 [] I ?_
 refine RK D<|cO U (bc fun C=>?_) (bf fun C=>?_)
 ·refine WS fun _ E=>rP 2 [] I ?_
  refine RK E<|ay<|LX hQ (i:Int) [] [] I U U U U ?_
  exact ⟨fun _=>by rw [C]; exact aP hx,fun _=>by omega⟩
 refine cT<|aW<|KK N<|aF<|rP 2 [] I ?_
 refine aK ?_
 have G:(vI (((i+1):Nat):Int))=(vI ((i:Int)+1)):=by exact cI om
 refine bu (H ⟨(i+1),⟨om,fun y hy=>by rw [List.take_add_one,hx] at hy; rcases gn.1 hy with q|q; exact B y q; exact (bW.1 q)▸fun e=>C e.symm⟩⟩ _ _ _ rfl os (c0 3<|bJ rfl G<|eb.nil _) (aS [0]))
theorem w6 (l:List Int) (lA:OA) (lC:Nat) (n:Int) (hlen:l.length≤1000000):
 c_ Tryz.prog 51 [(vS lA l.length lC),(vI n)] [(rd lA l.length 1 (l.map iC))] (vB (decide (n∈l))):=by
 refine bq kr Tryz.func51 U U fun F Q hQ hN=>?_
 try dsimp only
 refine WS fun _ A=>br 1 U<|RK A<|WS fun _ B=>rP 2 [] I ?_
 refine cX (Dg l lA lC n hlen) (aY [0]) U fun E D=>?_
 try dsimp only
 have C:=D
 refine rP 2 [] I ?_
 refine RK B<|ay<|Q1 hQ U U U ?_
 exact cB (gM.2 C)
end
section
open Go.RowKit
theorem Ad (l:List Int) (lA:OA) (lC:Nat) (hlen:l.length≤1000000):
 lX Tryz.prog 83 [(vS lA l.length lC)] [(rd lA l.length 1 (l.map iC))] (fun (x:(OA)×Nat)=>(vS x.1 l.length x.2)) (fun (x:(OA)×Nat)=>True) (fun (x:(OA)×Nat)=>[(own x.1 x.2 3 1 (l.map iC))]):=by
 refine dI kr Tryz.func83 U U fun L Q hQ hN=>?_
 try dsimp only
 refine WS fun _ D=>br 1 U<|RK D<|aw fun _ E=>WS fun _ F=>rP 1 [] I ?_
 refine rS (BI U (nT NZ))<|RK F<|cO U (bc fun B=>?_) (bf fun B=>?_)
 ·refine WS fun _ G=>kb (aQ 0 U) B dc fun C=>?_
  have A:l=[]:=by simpa using C
  refine fy 3 1 ?_
  rw [show (own none 0 3 1 ([]:List (List Value)))=own none 0 3 1 (l.map iC) from by rw [A]; rfl]
  refine rP 1 [] I ?_
  refine RK G<|ay ?_
  refine LX hQ (none,0) [0] [] I U U U ?_ ?_
  ·first|rfl|(rw [A]; rfl)
  ·trivial
 refine WK E<|WS fun _ H=>q9 U de U fun J=>rP 1 [] I ?_
 refine e7 (es:=(List.map iC [])) (C':=[own (some ⟨J,0,none⟩) 0 3 1 (List.map iC []),_]) 0 U sm U (by simp [maxLen]) U ?_
 refine eD (es2:=(List.map iC l)) (m':=l.length) 0 U U U ve U U sm (aQ 1 U) (m8 _) os (by first|(simp only [maxLen]; omega)|(simp [maxLen]; omega)) sm sm U fun AA K=>?_
 try dsimp only
 refine rP 1 [] I ?_
 refine RK H<|ay ?_
 refine LX hQ (AA,K) [0] [] I U U U ?_ ?_
 ·first|rfl|(rw [A]; rfl)
 ·trivial
end
section
open Go.RowKit
theorem EW (r:eJ) (kA:OA) (kC:Nat) (az:List RA) (cA:OA) (cC:Nat) (bA:OA) (bC:Nat) (slA:OA) (slC:Nat) (drA:OA) (drC:Nat) (ha:List cg) (heA:OA) (heC:Nat) (hin:jv r az ha):
 lX Tryz.prog 52 [(vA (cU.cells (wA r kA kC cA cC bA bC slA slC drA drC heA heC)))] [(rd kA r.ak.aU.length 9 (r.ak.aU.map av.cells)),(rd cA r.ak.ar.length 2 (List.zipWith aB.cells r.ak.ar az)),(dw (aX aB.gQ r.ak.ar az)),(rd bA r.ak.aa.length 4 (r.ak.aa.map bD.cells)),(rd slA r.aR.length 1 (r.aR.map iC)),(rd drA r.b_.length 1 (r.b_.map iC)),(rd heA r.ax.length 1 (List.zipWith cc r.ax ha)),(dw (aX ep r.ax ha))] (fun (x:(OA)×Nat×(OA)×Nat×(List RA)×(OA)×Nat×(OA)×Nat×(OA)×Nat×(OA)×Nat×(List cg))=>(vA (cU.cells (cU.mk (cy.mk (bS.mk (bj.mk x.1 r.ak.aU.length x.2.1)) r.ak.iQ (bj.mk x.2.2.1 r.ak.ar.length x.2.2.2.1) (bj.mk x.2.2.2.2.2.1 r.ak.aa.length x.2.2.2.2.2.2.1) r.ak.cj r.ak.fZ r.ak.eR) (bj.mk x.2.2.2.2.2.2.2.1 r.aR.length x.2.2.2.2.2.2.2.2.1) (bj.mk x.2.2.2.2.2.2.2.2.2.1 r.b_.length x.2.2.2.2.2.2.2.2.2.2.1) r.ks (bj.mk x.2.2.2.2.2.2.2.2.2.2.2.1 r.ax.length x.2.2.2.2.2.2.2.2.2.2.2.2.1))))) (fun (x:(OA)×Nat×(OA)×Nat×(List RA)×(OA)×Nat×(OA)×Nat×(OA)×Nat×(OA)×Nat×(List cg))=>(x.2.2.2.2.1.length=r.ak.ar.length∧pS r.ak.ar x.2.2.2.2.1)∧rn r.ax x.2.2.2.2.2.2.2.2.2.2.2.2.2) (fun (x:(OA)×Nat×(OA)×Nat×(List RA)×(OA)×Nat×(OA)×Nat×(OA)×Nat×(OA)×Nat×(List cg))=>[(own x.1 x.2.1 128 9 (r.ak.aU.map av.cells)),(own x.2.2.1 x.2.2.2.1 133 2 (List.zipWith aB.cells r.ak.ar x.2.2.2.2.1)),(bx (aX aB.owns r.ak.ar x.2.2.2.2.1)),(own x.2.2.2.2.2.1 x.2.2.2.2.2.2.1 137 4 (r.ak.aa.map bD.cells)),(own x.2.2.2.2.2.2.2.1 x.2.2.2.2.2.2.2.2.1 3 1 (r.aR.map iC)),(own x.2.2.2.2.2.2.2.2.2.1 x.2.2.2.2.2.2.2.2.2.2.1 3 1 (r.b_.map iC)),(own x.2.2.2.2.2.2.2.2.2.2.2.1 x.2.2.2.2.2.2.2.2.2.2.2.2.1 75 1 (List.zipWith cc r.ax x.2.2.2.2.2.2.2.2.2.2.2.2.2)),(bx (aX jC r.ax x.2.2.2.2.2.2.2.2.2.2.2.2.2))]):=by
 have C:=hin.line
 have J4:=hin.gv
 have M:=hin.has
 have LA:=hin.gD
 have K5:=hin.draw
 have LE:=jg (r:=r)
 have NE:=C.vZ
 have MY:=C.v7
 have L9:=C.vW
 have J1:=C.oL
 refine dI kr Tryz.func52 U U fun w0 Q hQ hN=>?_
 try dsimp only
 refine WS fun _ JJ=>e8 U fun b2=>AL U ye fun b3=>RK JJ<|WS fun _ JR=>rP 2 [] I ?_
 refine RK JR<|aw fun _ Ja=>dE cu [8,13,18,22,25,28] [7,11,15] [0,1,2] [0,2,3,4,5,6,7,8,9] [0,1,2,3,4,5,6,7,8,9] U U U U U<|eS U (MV U)<|eS U (MV U)<|eS U (MV U)<|eS U (MV U)<|eS U (SX (bK U U) U U)<|eS U (FA 0 U fc U)<|eS U (FA 0 U fc U)<|fS U (L1 (vS kA r.ak.aU.length kC) 1 U ct U U)<|eS U (MV U)<|eS U (SX (bK U U) U U)<|eS U (FA 3 U fc U)<|fS U (L1 (vS bA r.ak.aa.length bC) 1 U ct U U)<|eS U (MV U)<|eS U (SX (bK U U) U U)<|eS U (FA 2 U fc U)<|fS U (L1 (vS cA r.ak.ar.length cC) 1 U ct U U)<|eS U (SX (bK U U) U U)<|eS U (FA 0 U fc U)<|eS U (FA 0 U fc U)<|eS U (SX (bK U U) U U)<|eS U (FA 3 U fc U)<|eS U (SX (bK U U) U U)<|eS U (FA 2 U fc U)<|er U<|gF U fun T6 Jt=>cX (FD r.ak.aU kA kC asm) (aY [2]) U fun y7 NJ=>?_
 obtain ⟨a9,S⟩:=y7
 try dsimp only
 refine aK (Jt _ _ (aS [1,3,4,5,6,7,8,9,10]) (aS [1,2,3,4,5,6,7,8,9,10]) ?_)
 refine gF U fun T11 EQ=>cX (Fi r.ak.aa bA bC asm) (aY [6]) U fun J6 LO=>?_
 obtain ⟨W,Y⟩:=J6
 try dsimp only
 refine aK (EQ _ _ (aS [2,4,5,6,7,8,9,10,11]) (aS [2,3,4,5,6,7,8,9,10,11]) ?_)
 refine gF U fun T16 ER=>cX (Dh (List.zipWith aB.cells r.ak.ar az) cA r.ak.ar.length cC asm (by exact ew J1) (by exact zb _ _)) (aY [5]) U fun J7 LT=>?_
 obtain ⟨J,K⟩:=J7
 try dsimp only
 refine aK (ER _ _ (aS [3,5,6,7,8,9,10,11,12]) (aS [3,4,5,6,7,8,9,10,11,12]) ?_)
 refine cb U fun T21 Eq=>Nv (cU.cells (cU.mk (cy.mk (bS.mk (bj.mk a9 r.ak.aU.length S)) r.ak.iQ (bj.mk cA r.ak.ar.length cC) (bj.mk bA r.ak.aa.length bC) r.ak.cj r.ak.fZ r.ak.eR) (bj.mk slA r.aR.length slC) (bj.mk drA r.b_.length drC) r.ks (bj.mk heA r.ax.length heC))) U NH U U<|aK (Eq _ _ (aS [3,5,6,7,8,9,10,11,12]) ?_)
 refine cb U fun T22 E2=>Nv (cU.cells (cU.mk (cy.mk (bS.mk (bj.mk a9 r.ak.aU.length S)) r.ak.iQ (bj.mk cA r.ak.ar.length cC) (bj.mk W r.ak.aa.length Y) r.ak.cj r.ak.fZ r.ak.eR) (bj.mk slA r.aR.length slC) (bj.mk drA r.b_.length drC) r.ks (bj.mk heA r.ax.length heC))) U N2 U U<|aK (E2 _ _ (aS [3,5,6,7,8,9,10,11,12]) ?_)
 refine cb U fun T23 FI=>Nv (cU.cells (cU.mk (cy.mk (bS.mk (bj.mk a9 r.ak.aU.length S)) r.ak.iQ (bj.mk J r.ak.ar.length K) (bj.mk W r.ak.aa.length Y) r.ak.cj r.ak.fZ r.ak.eR) (bj.mk slA r.aR.length slC) (bj.mk drA r.b_.length drC) r.ks (bj.mk heA r.ax.length heC))) U Nu U U<|aK (FI _ _ (aS [3,5,6,7,8,9,10,11,12]) ?_)
 refine fD U<|KK Ja<|aw fun _ A5=>WS fun _ A6=>br 1 U<|rS (SX (bK U U) U U)<|rP 4 [] (mc 4 U I) ?_
 refine RK A6<|aL<|mM ?_
 have E:(0≤r.ak.ar.length)∧(([]:List RA).length=0)∧(pS r.ak.ar ([]:List RA)):=by exact ⟨Nat.zero_le _,rfl,fun k m a _ h=>by simp at h⟩
 refine cq (ι:={z:Nat×(List RA) // (z.1≤r.ak.ar.length)∧(z.2.length=z.1)∧(pS r.ak.ar z.2)}) [1,2,3,39] [2,3,4,5,6,7,8,9,10,11,12,13] U U (fun z=>[(40,(vI (z.1.1:Int)))]) (fun z=>[(bx (aX aB.owns (r.ak.ar.take z.1.1) z.1.2)),(own J K 133 2 (List.zipWith aB.cells r.ak.ar (iT z.1.2 az z.1.1)))]) (fun _=>rfl) (fun _=>rfl) (fun z=>r.ak.ar.length-z.1.1) ⟨(0,([]:List RA)),E⟩ (bw U) (aS [2,3,4,5,6,7,8,9,10,11,12,13,0,1]) ?_
 clear E
 rintro ⟨⟨i,bz⟩,⟨A1,B,V⟩⟩ J26 A2
 try dsimp only at A1 B V
 try dsimp only
 refine WS fun _ A7=>rP 1 [] I ?_
 refine RK A7<|aw fun _ A8=>cO U (bc fun Id=>?_) (bf fun Id=>?_)
 ·refine WK A8<|aw fun _ A9=>aL<|WS fun _ B3=>rP 2 [] I ?_
  refine RK B3<|dE cu [13,16] [10,11,12,13,14] [0] [0,1,2,3,4,5,6,7,8,9,10,11,12] [0,1,2,3,4,5,6,7,8,9,10,11,12,13] U U U U U<|eS U (MV U)<|eS U (SX (bK U U) U U)<|eS U (FA 2 U fc U)<|eS U (L1 (vS J r.ak.ar.length K) 3 U ct U U)<|eS U (MV U)<|eS U (MV U)<|eS U (SX (bK U U) U U)<|eS U (FA 2 U fc U)<|eS U (L1 (vS J r.ak.ar.length K) 3 U ct U U)<|eS U (MV U) ?_
  obtain ⟨x,hx⟩:=aO r.ak.ar i om
  obtain ⟨xa,s⟩:=aO az i om
  have IR:(List.zipWith aB.cells r.ak.ar (iT bz az i))[i]? =some (aB.cells x xa):=dj hx (vD B s)
  have M2:=(C.M0 _ _ _ hx s).2
  refine fS U (IA i U (ag (n:=r.ak.ar.length) 13 U (ew (by rw [gG B om]; exact C.oL))) BN dc om om) ?_
  refine fS U (x9 ((i*2)+1) U (ag (n:=r.ak.ar.length) 13 U (ew (by rw [gG B om]; exact C.oL))) (Nat.mul_pos om dc) fc U) ?_
  refine fS U (iY i 1 (vS xa.1 x.bO.length xa.2) U ct (ag (n:=r.ak.ar.length) 13 U (ew (by rw [gG B om]; exact C.oL))) IR U dc U) ?_
  refine fS U (IA i U (ag (n:=r.ak.ar.length) 13 U (ew (by rw [gG B om]; exact C.oL))) BN dc om om) ?_
  refine fS U (x9 ((i*2)+1) U (ag (n:=r.ak.ar.length) 13 U (ew (by rw [gG B om]; exact C.oL))) (Nat.mul_pos om dc) fc U) ?_
  refine er U<|gF U fun T32 FS=>cX (E9 x.bO xa.1 xa.2 asm) (ai (show iE _ (rd xa.1 x.bO.length 3 (x.bO.map cV.cells)).holds from (cY 6 U (bM hx s (by simp [aB.gQ]))))<|aH) U fun J8 Li=>?_
  obtain ⟨P,T⟩:=J8
  try dsimp only
  refine aK (FS _ _ (aS [1,2,3,4,5,6,7,8,9,10,11,12,13]) (aS [1,2,3,4,5,6,7,8,9,10,11,12,13,14]) ?_)
  refine cb U fun T37 Fd=>eK (k:=i) (o:=1) (vs:=[(vS P x.bO.length T)]) (es':=(List.zipWith aB.cells r.ak.ar (iT (bz++[(P,T)]) az (i+1)))) (C':=[_,_,_,_,_,_,_,_,_,_,_,_,_,_,(own J K 133 2 (List.zipWith aB.cells r.ak.ar (iT (bz++[(P,T)]) az (i+1))))]) 14 U U U KQ U U U U IR U dc (by exact sT (c:=aB.cells) (b:=(P,T)) hx B s) U<|aK (Fd _ _ (aS [1,2,3,4,5,6,7,8,9,10,11,12,13]) ?_)
  refine fD U<|aW<|KK A9<|aF<|rP 2 [] I ?_
  refine aK<|JB 0 U fun t=>?_
  simp only [List.length_map] at t
  refine FG (Y':=aX aB.owns (r.ak.ar.take (i+1)) (bz++[(P,T)])) 13 0 U U (oY (f:=aB.owns) (b:=(P,T)) hx B) ?_
  have HH:(vI (((i+1):Nat):Int))=(vI ((i:Int)+1)):=by exact cI om
  refine bu (A2 ⟨((i+1),(bz++[(P,T)])),⟨om,by simp; omega,Du V B hx t⟩⟩ _ _ _ U os (c0 4<|bJ U HH<|eb.nil _) (aS [1,2,3,4,5,6,7,8,9,10,11,12,0,13]))
 refine bV<|ao<|ao<|aM<|KK A5<|aw fun _ B8=>?_
 have J2:bz.length=r.ak.ar.length:=by omega
 have J3:=V
 rw [show (iT bz az i)=bz from sE om,show r.ak.ar.take i=r.ak.ar from List.take_of_length_le om]
 refine dE cu [2,5,8,10,12,14] [1,3,5] [0,1,2] [0,1,2,4,5,6,7,8,9,10,11,12,13] [0,1,2,3,4,5,6,7,8,9,10,11,12,13] U U U U U<|eS U (FA 7 U fc U)<|fS U (L1 (vS slA r.aR.length slC) 3 U ct U U)<|eS U (FA 8 U fc U)<|fS U (L1 (vS drA r.b_.length drC) 3 U ct U U)<|eS U (FA 10 U fc U)<|fS U (L1 (vS heA r.ax.length heC) 3 U ct U U)<|eS U (FA 7 U fc U)<|eS U (FA 8 U fc U)<|eS U (FA 10 U fc U)<|er U<|gF U fun T40 Fk=>cX (Ad r.aR slA slC asm) (aY [8]) U fun J9 Lk=>?_
 obtain ⟨g,j⟩:=J9
 try dsimp only
 refine aK (Fk _ _ (aS [1,2,3,5,6,7,8,9,10,11,12,13,14]) (aS [1,2,3,4,5,6,7,8,9,10,11,12,13,14]) ?_)
 refine gF U fun T45 Fn=>cX (Ad r.b_ drA drC om) (aY [10]) U fun KL Lo=>?_
 obtain ⟨w,AO⟩:=KL
 try dsimp only
 refine aK (Fn _ _ (aS [2,3,4,6,7,8,9,10,11,12,13,14,15]) (aS [2,3,4,5,6,7,8,9,10,11,12,13,14,15]) ?_)
 refine gF U fun T50 Ft=>cX (Eu (List.zipWith cc r.ax ha) heA r.ax.length heC asm (by exact dq M) (by exact BD _ _)) (aY [12]) U fun Ks L0=>?_
 obtain ⟨X,Z⟩:=Ks
 try dsimp only
 refine aK (Ft _ _ (aS [3,4,5,7,8,9,10,11,12,13,14,15,16]) (aS [3,4,5,6,7,8,9,10,11,12,13,14,15,16]) ?_)
 refine cb U fun T55 GE=>N6 (cU.cells (cU.mk (cy.mk (bS.mk (bj.mk a9 r.ak.aU.length S)) r.ak.iQ (bj.mk J r.ak.ar.length K) (bj.mk W r.ak.aa.length Y) r.ak.cj r.ak.fZ r.ak.eR) (bj.mk g r.aR.length j) (bj.mk drA r.b_.length drC) r.ks (bj.mk heA r.ax.length heC))) U Bh U U<|aK (GE _ _ (aS [3,4,5,7,8,9,10,11,12,13,14,15,16]) ?_)
 refine cb U fun T56 GG=>N6 (cU.cells (cU.mk (cy.mk (bS.mk (bj.mk a9 r.ak.aU.length S)) r.ak.iQ (bj.mk J r.ak.ar.length K) (bj.mk W r.ak.aa.length Y) r.ak.cj r.ak.fZ r.ak.eR) (bj.mk g r.aR.length j) (bj.mk w r.b_.length AO) r.ks (bj.mk heA r.ax.length heC))) U Bh U U<|aK (GG _ _ (aS [3,4,5,7,8,9,10,11,12,13,14,15,16]) ?_)
 refine cb U fun T57 GT=>N6 (cU.cells (cU.mk (cy.mk (bS.mk (bj.mk a9 r.ak.aU.length S)) r.ak.iQ (bj.mk J r.ak.ar.length K) (bj.mk W r.ak.aa.length Y) r.ak.cj r.ak.fZ r.ak.eR) (bj.mk g r.aR.length j) (bj.mk w r.b_.length AO) r.ks (bj.mk X r.ax.length Z))) U NY U U<|aK (GT _ _ (aS [3,4,5,7,8,9,10,11,12,13,14,15,16]) ?_)
 refine fD U<|KK B8<|aw fun _ B9=>WS fun _ CK=>rP 4 [] (mc 6 U I) ?_
 refine RK CK<|aL<|mM ?_
 have E:(0≤r.ax.length)∧(([]:List cg).length=0)∧(∀ (k:Nat) y (a:cg),r.ax[k]? =some y→([]:List cg)[k]? =some a→a.2.length=y.length):=by exact ⟨Nat.zero_le _,rfl,fun k y a _ q=>by simp at q⟩
 refine cq (ι:={z:Nat×(List cg) // (z.1≤r.ax.length)∧(z.2.length=z.1)∧(∀ (k:Nat) y (a:cg),r.ax[k]? =some y→z.2[k]? =some a→a.2.length=y.length)}) [1,2,74] [2,3,4,5,6,7,8,9,10,11,12,13,14,15,16,17] U U (fun z=>[(75,(vI (z.1.1:Int)))]) (fun z=>[(bx (aX jC (r.ax.take z.1.1) z.1.2)),(own X Z 75 1 (List.zipWith cc r.ax (iT z.1.2 ha z.1.1)))]) (fun _=>rfl) (fun _=>rfl) (fun z=>r.ax.length-z.1.1) ⟨(0,([]:List cg)),E⟩ (bw U) (aS [2,3,4,5,6,7,8,9,10,11,12,13,14,15,16,17,0,1]) ?_
 clear E
 rintro ⟨⟨h,hz⟩,⟨l,A,L⟩⟩ J60 A3
 try dsimp only at l A L
 try dsimp only
 refine WS fun _ CV=>rP 1 [] I ?_
 refine RK CV<|aw fun _ Ci=>cP U (bf fun If=>?_) (bc fun If=>?_)
 ·refine bV<|ao<|ao<|aM<|KK B9<|aw fun _ Do=>?_
  have J5:rn r.ax hz:=⟨om,L⟩
  rw [show (iT hz ha h)=hz from sE om,show r.ax.take h=r.ax from List.take_of_length_le om]
  refine aF<|rP 1 [] (mc 5 U I) ?_
  refine M3 U rm U<|RK Do<|ay ?_
  refine LX hQ (a9,S,J,K,bz,W,Y,g,j,w,AO,X,Z,hz) [3,15,14,2,1,0,17,16] [0] (mc 4 U I) U (by show List.all _ _=true; simp only [gf,List.all_nil,mJ,sX,Bool.and_true]; rfl) U U ?_
  exact ⟨⟨J2,J3⟩,J5⟩
 refine WK Ci<|aw fun _ Ck=>aL<|WS fun _ Cp=>rP 2 [] I ?_
 refine RK Cp<|aw fun _ Cu=>dE cu [8,10] [6,7,8] [0] [0,1,2,3,4,5,6,7,8,9,10,11,12,13,14,15,16] [0,1,2,3,4,5,6,7,8,9,10,11,12,13,14,15,16,17] U U U U U<|eS U (FA 10 U fc U)<|eS U (L1 (vS X r.ax.length Z) 5 U ct U U)<|eS U (MV U)<|eS U (FA 10 U fc U)<|eS U (L1 (vS X r.ax.length Z) 5 U ct U U)<|eS U (MV U) ?_
 obtain ⟨ht,N⟩:=aO r.ax h om
 obtain ⟨D,O⟩:=aO ha h om
 have u:(List.zipWith cc r.ax (iT hz ha h))[h]? =some (cc ht D):=dj N (vD A O)
 have A0:=hin.iP _ _ _ N O
 have e:=A0.oL
 have J4:=A0.len
 refine fS U (IA h U (ag (n:=r.ax.length) 17 U (dq (by rw [gG A om]; exact M))) pk dc om om) ?_
 refine fS U (iY h 0 (vS D.1.1 ht.length D.1.2) U ct (ag (n:=r.ax.length) 17 U (dq (by rw [gG A om]; exact M))) u U dc U) ?_
 refine fS U (IA h U (ag (n:=r.ax.length) 17 U (dq (by rw [gG A om]; exact M))) pk dc om om) ?_
 refine er U<|gF U fun T67 GV=>cX (Dm (List.zipWith aq.cells ht D.2) D.1.1 ht.length D.1.2 asm (by exact nN e) (by exact G4 _ _)) (ai (show iE _ (rd D.1.1 ht.length 7 (List.zipWith aq.cells ht D.2)).holds from (cY 13 U (bM N O cf)))<|aH) U fun K0 L2=>?_
 obtain ⟨G,H⟩:=K0
 try dsimp only
 refine aK (GV _ _ (aS [1,2,3,4,5,6,7,8,9,10,11,12,13,14,15,16,17]) (aS [1,2,3,4,5,6,7,8,9,10,11,12,13,14,15,16,17,18]) ?_)
 refine cb U fun T72 Go=>eK (k:=h) (o:=0) (vs:=[(vS G ht.length H)]) (es':=(List.zipWith cc r.ax (iT (hz++[((G,H),D.2)]) ha (h+1)))) (C':=[_,_,_,_,_,_,_,_,_,_,_,_,_,_,_,_,_,_,(own X Z 75 1 (List.zipWith cc r.ax (iT (hz++[((G,H),D.2)]) ha (h+1))))]) 18 U U U NU U U U U u U dc (by exact sT (b:=((G,H),D.2)) N A O) U<|aK (Go _ _ (aS [1,2,3,4,5,6,7,8,9,10,11,12,13,14,15,16,17]) ?_)
 refine fD U<|KK Cu<|WS fun _ Cx=>rP 3 [] (mc 6 U I) ?_
 have v:(List.zipWith cc r.ax (iT (hz++[((G,H),D.2)]) ha (h+1)))[h]? =some (cc ht ((G,H),D.2)):=dj N (CU A)
 refine rS (IA h U (ag (n:=r.ax.length) 18 U (dq (by rw [gG (by simp; omega) om]; exact M))) pk dc om om) ?_
 refine rS (iY h 0 (vS G ht.length H) U ct (ag (n:=r.ax.length) 18 U (dq (by rw [gG (by simp; omega) om]; exact M))) v U dc U) ?_
 refine rP 2 [] I ?_
 refine RK Cx<|aL<|mM ?_
 have E:(0≤ht.length)∧(([]:List RA).length=0):=by exact ⟨Nat.zero_le _,rfl⟩
 refine cq (ι:={z:Nat×(List RA) // (z.1≤ht.length)∧(z.2.length=z.1)}) [1,2,5,74,75,93] [2,3,4,5,6,7,8,9,10,11,12,13,14,15,16,17,18,19] U U (fun z=>[(94,(vI (z.1.1:Int)))]) (fun z=>[(bx (aX mq (ht.take z.1.1) z.1.2)),(own G H 43 7 (List.zipWith aq.cells ht (iT z.1.2 D.2 z.1.1)))]) (fun _=>rfl) (fun _=>rfl) (fun z=>ht.length-z.1.1) ⟨(0,([]:List RA)),E⟩ (bw U) (aS [2,3,4,5,6,7,8,9,10,11,12,13,14,15,16,17,18,19,0,1]) ?_
 clear E
 rintro ⟨⟨i,dz⟩,⟨p,F⟩⟩ J74 A4
 try dsimp only at p F
 try dsimp only
 refine WS fun _ C0=>rP 1 [] I ?_
 refine RK C0<|aw fun _ C1=>cP U (bf fun In=>?_) (bc fun In=>?_)
 ·refine bV<|ao<|ao<|aM<|aW<|KK Ck<|aF<|rP 2 [] I ?_
  refine aK ?_
  have K8:dz.length=ht.length:=by omega
  rw [show (iT dz D.2 i)=dz from sE om,show ht.take i=ht from List.take_of_length_le om]
  refine IE (Z':=aX jC (r.ax.take (h+1)) (hz++[((G,H),dz)])) 16 18 19 U U (oY (f:=jC) (b:=((G,H),dz)) N A) ?_
  rw [DD (y:=dz)]
  have H1:(vI (((h+1):Nat):Int))=(vI ((h:Int)+1)):=by exact cI om
  refine bu (A3 ⟨((h+1),(hz++[((G,H),dz)])),⟨om,by simp; omega,F9 N L A dso⟩⟩ _ _ _ U os (c0 3<|bJ U H1<|eb.nil _) (aS [1,2,3,4,5,6,7,8,9,10,11,12,13,14,15,16,0,17]))
 refine WK C1<|aw fun _ C2=>aL<|WS fun _ C3=>rP 2 [] I ?_
 refine RK C3<|aw fun _ Di=>?_
 refine sh 19 U (by rw [nN (by rw [gG F om]; exact e)]; omega) (fun K4 AB=>?_)
 refine aF<|rP 3 [] (mc 5 U I) ?_
 refine rS (IA h U (ag (n:=r.ax.length) 17 U (dq (by rw [gG (by simp; omega) om]; exact M))) pk dc om om) ?_
 refine rS (iY h 0 (vS G ht.length H) U ct (ag (n:=r.ax.length) 17 U (dq (by rw [gG (by simp; omega) om]; exact M))) v U dc U) ?_
 refine rP 1 [] I ?_
 obtain ⟨d,hd⟩:=aO ht i om
 obtain ⟨da,AP⟩:=aO D.2 i om
 have IO:(List.zipWith aq.cells ht (iT dz D.2 i))[i]? =some (aq.cells d da):=dj hd (vD F AP)
 have Mj:=A0.sig d (aP hd)
 refine rS (Ok i U AB qB om om)<|rS (NF ((i*7)+4) U AB fc U)<|rS (NF (((i*7)+4)+2) U AB fc U)<|br 1 U<|RK Di<|aF<|rP 2 [] I ?_
 refine rS (SX (ue U U AB) U U) ?_
 refine rS (iY i 6 (vS da.1 d.ba.aj.length da.2) U ct (ag (n:=ht.length) 19 U (nN (by rw [gG F om]; exact e))) IO U dc U) ?_
 refine cX (wc d.ba.aj da.1 da.2 asm) (ai (show iE _ (rd da.1 d.ba.aj.length 2 (d.ba.aj.map aG.cells)).holds from (cY 13 U (bM N O (db _ (bM hd AP (by simp [aq.gQ]))))))<|aH) U fun K2 L3=>?_
 obtain ⟨R,AA⟩:=K2
 try dsimp only
 refine rS (SX (ue U U AB) U U)<|eK (k:=i) (o:=6) (vs:=[(vS R d.ba.aj.length AA)]) (es':=(List.zipWith aq.cells ht (iT (dz++[(R,AA)]) D.2 (i+1)))) (C':=[_,_,_,_,_,_,_,_,_,_,_,_,_,_,_,_,_,_,_,_,(own G H 43 7 (List.zipWith aq.cells ht (iT (dz++[(R,AA)]) D.2 (i+1))))]) 20 U U U K7 U U U U IO U dc (by exact sT (c:=aq.cells) (b:=(R,AA)) hd F AP) U<|aK<|aW<|KK C2<|aF<|rP 2 [] I ?_
 refine aK<|FG (Y':=aX mq (ht.take (i+1)) (dz++[(R,AA)])) 19 0 U U (oY (f:=mq) (b:=(R,AA)) hd F) ?_
 have Hi:(vI (((i+1):Nat):Int))=(vI ((i:Int)+1)):=by exact cI om
 refine bu (A4 ⟨((i+1),(dz++[(R,AA)])),⟨om,by simp; omega⟩⟩ _ _ _ U os (c0 6<|bJ U Hi<|eb.nil _) (aS [1,2,3,4,5,6,7,8,9,10,11,12,13,14,15,16,17,18,0,19]))
end
section
open Go.RowKit
theorem mN (j:cn) (kA:OA) (kC:Nat) (az:List RA) (cA:OA) (cC:Nat) (bA:OA) (bC:Nat) (slA:OA) (slC:Nat) (drA:OA) (drC:Nat) (ha:List cg) (heA:OA) (heC:Nat) (faA:OA) (faC:Nat) (prA:OA) (prC:Nat) (h i:Int) (d:aq) (sgA:OA) (sgC:Nat) (hin:eB j az ha) (hsl:d.ba.aj.length≤1000000):
 lX Tryz.prog 18 [(vA (fH.cells (lY j kA kC cA cC bA bC slA slC drA drC heA heC faA faC prA prC))),(vI h),(vI i),(vA (aJ.cells (aJ.mk d.Out d.cZ d.Time (iv d.ba sgA sgC))))] [(rd ek 3 2 dH),(rd kA j.Race.ak.aU.length 9 (j.Race.ak.aU.map av.cells)),(rd cA j.Race.ak.ar.length 2 (List.zipWith aB.cells j.Race.ak.ar az)),(dw (aX aB.gQ j.Race.ak.ar az)),(rd bA j.Race.ak.aa.length 4 (j.Race.ak.aa.map bD.cells)),(rd slA j.Race.aR.length 1 (j.Race.aR.map iC)),(rd drA j.Race.b_.length 1 (j.Race.b_.map iC)),(rd heA j.Race.ax.length 1 (List.zipWith cc j.Race.ax ha)),(dw (aX ep j.Race.ax ha)),(rd faA j.aC.length 4 (j.aC.map aI.cells)),(rd prA j.aD.length 5 (j.aD.map aV.cells)),(rd sgA d.ba.aj.length 2 (d.ba.aj.map aG.cells))] (fun (x:Bool×Int×(OA)×Nat×(OA)×Nat×(List RA)×(OA)×Nat×(OA)×Nat×(OA)×Nat×(OA)×Nat×(List cg))=>bif x.1 then (vT [(vA (cU.cells (cU.mk (cy.mk (bS.mk (bj.mk x.2.2.1 j.Race.ak.aU.length x.2.2.2.1)) j.Race.ak.iQ (bj.mk x.2.2.2.2.1 j.Race.ak.ar.length x.2.2.2.2.2.1) (bj.mk x.2.2.2.2.2.2.2.1 j.Race.ak.aa.length x.2.2.2.2.2.2.2.2.1) j.Race.ak.cj j.Race.ak.fZ j.Race.ak.eR) (bj.mk x.2.2.2.2.2.2.2.2.2.1 j.Race.aR.length x.2.2.2.2.2.2.2.2.2.2.1) (bj.mk x.2.2.2.2.2.2.2.2.2.2.2.1 j.Race.b_.length x.2.2.2.2.2.2.2.2.2.2.2.2.1) j.Race.ks (bj.mk x.2.2.2.2.2.2.2.2.2.2.2.2.2.1 ((jH j.Race.ax h i d).length) x.2.2.2.2.2.2.2.2.2.2.2.2.2.2.1)))),(vI 0)]) else (vT [(vA (cU.cells (cU.mk (cy.mk (bS.mk (bj.mk none 0 0)) 0 (bj.mk none 0 0) (bj.mk none 0 0) 0 0 0) (bj.mk none 0 0) (bj.mk none 0 0) 0 (bj.mk none 0 0)))),(vI x.2.1)])) (fun (x:Bool×Int×(OA)×Nat×(OA)×Nat×(List RA)×(OA)×Nat×(OA)×Nat×(OA)×Nat×(OA)×Nat×(List cg))=>(x.1=true→((j8 j h i d)=0∧(x.2.2.2.2.2.2.1.length=j.Race.ak.ar.length∧pS j.Race.ak.ar x.2.2.2.2.2.2.1)∧rn (jH j.Race.ax h i d) x.2.2.2.2.2.2.2.2.2.2.2.2.2.2.2))∧(x.1=false→(x.2.1=(j8 j h i d)∧ ¬ (j8 j h i d)=0))) (fun (x:Bool×Int×(OA)×Nat×(OA)×Nat×(List RA)×(OA)×Nat×(OA)×Nat×(OA)×Nat×(OA)×Nat×(List cg))=>bif x.1 then [(own x.2.2.1 x.2.2.2.1 128 9 (j.Race.ak.aU.map av.cells)),(own x.2.2.2.2.1 x.2.2.2.2.2.1 133 2 (List.zipWith aB.cells j.Race.ak.ar x.2.2.2.2.2.2.1)),(bx (aX aB.owns j.Race.ak.ar x.2.2.2.2.2.2.1)),(own x.2.2.2.2.2.2.2.1 x.2.2.2.2.2.2.2.2.1 137 4 (j.Race.ak.aa.map bD.cells)),(own x.2.2.2.2.2.2.2.2.2.1 x.2.2.2.2.2.2.2.2.2.2.1 3 1 (j.Race.aR.map iC)),(own x.2.2.2.2.2.2.2.2.2.2.2.1 x.2.2.2.2.2.2.2.2.2.2.2.2.1 3 1 (j.Race.b_.map iC)),(own x.2.2.2.2.2.2.2.2.2.2.2.2.2.1 x.2.2.2.2.2.2.2.2.2.2.2.2.2.2.1 75 1 (List.zipWith cc (jH j.Race.ax h i d) x.2.2.2.2.2.2.2.2.2.2.2.2.2.2.2)),(bx (aX jC (jH j.Race.ax h i d) x.2.2.2.2.2.2.2.2.2.2.2.2.2.2.2))] else []):=by
 have B8:=hin.race
 have EQ:=hin.race.line
 have IO:=hin.race.gv
 have Id:=hin.race.has
 have GG:=hin.race.gD
 have Fk:=hin.nf
 have Ft:=hin.np
 refine dI kr Tryz.func18 U U fun w0 Q hQ hN=>?_
 try dsimp only
 refine WS fun _ Cu=>e8 U fun b2=>e8 U fun b3=>AL U ye fun b4=>br 1 U<|RK Cu<|WS fun _ Cx=>gO 1 [] (mc 2 U I) U<|rS (CL (m_ j kA kC az cA cC bA bC slA slC drA drC ha heA heC faA faC prA prC hin) (aY [3,4,5,6,7,8,9,10,11,12,13]) U)<|br 3 U<|AL U xU fun b6=>fF U wk U<|br 1 U<|RK Cx<|aw fun _ C0=>WS fun _ C1=>rP 2 [] I ?_
 refine RK C1<|cO U (bI fun E=>?_) (bH fun E=>?_)
 ·refine WS fun _ C2=>rS (SX (aZ (xs:=[]) (cs:=(cU.cells (cU.mk (cy.mk (bS.mk (bj.mk none 0 0)) 0 (bj.mk none 0 0) (bj.mk none 0 0) 0 0 0) (bj.mk none 0 0) (bj.mk none 0 0) 0 (bj.mk none 0 0)))) U U (a_ Co U)) U U)<|br 1 U<|rL U rm U<|rP 1 [] I ?_
  refine RK C2<|ay ?_
  refine LX hQ (false,(cH j),none,0,none,0,[],none,0,none,0,none,0,none,0,[]) [] [0] (mc 1 U I) U (by rfl) U ?_ ?_
  ·rfl
  ·refine ⟨Ow,fun _=>?_⟩; have e:=E4 (h:=h) (i:=i) (d:=d) E; exact ⟨e.symm,fun q=>E (e.symm.trans q)⟩
 refine WK C0<|aw fun _ u=>WS fun _ f=>rP 6 [] (mc 3 U I) ?_
 refine dr (xs:=[.tmp 27]) (cs:=[(vI h)]) U de iy U U U U (by simp [Value.cells]) U U fun CV=>?_
 refine rS (CL (c_.eq (fh 0 ((j.Race.ax.length:Int)-1) ([h]) (some ⟨CV,0,none⟩) 1 (by (simp; done))) bL) (ai (aT 0 U U (by simp [bp]) U)<|aH) U) ?_
 refine rP 2 [] I ?_
 refine cE (t:=31) U (bI fun Ck=>?_) (bH fun Ck=>?_)
 ·refine br 10 U<|RK f<|bo U<|WS fun _ v=>rS (SX (aZ (xs:=[]) (cs:=(cU.cells (cU.mk (cy.mk (bS.mk (bj.mk none 0 0)) 0 (bj.mk none 0 0) (bj.mk none 0 0) 0 0 0) (bj.mk none 0 0) (bj.mk none 0 0) 0 (bj.mk none 0 0)))) U U (a_ Co U)) U U)<|Jl U rm U<|rP 1 [] I ?_
  refine RK v<|ay ?_
  refine LX hQ (false,2,none,0,none,0,[],none,0,none,0,none,0,none,0,[]) [] [0] (mc 2 U I) U (by rfl) U ?_ ?_
  ·rfl
  ·exact oJ<|pz (sb (h:=h) (i:=i) (d:=d) E om)
 refine rP 6 [] (mc 4 U I) ?_
 refine dr (xs:=[.tmp 37]) (cs:=[(vI i)]) U de iy U U U U (by simp [Value.cells]) U U fun Ci=>?_
 refine rS (CL (c_.eq (fh 0 ((j.Race.aR.length:Int)-1) ([i]) (some ⟨Ci,0,none⟩) 1 (by (simp; done))) bL) (ai (aT 0 U U (by simp [bp]) U)<|aH) U) ?_
 refine rP 2 [] I ?_
 refine RK f<|cO U (bI fun Cp=>?_) (bH fun Cp=>?_)
 ·refine WS fun _ y=>rS (SX (aZ (xs:=[]) (cs:=(cU.cells (cU.mk (cy.mk (bS.mk (bj.mk none 0 0)) 0 (bj.mk none 0 0) (bj.mk none 0 0) 0 0 0) (bj.mk none 0 0) (bj.mk none 0 0) 0 (bj.mk none 0 0)))) U U (a_ Co U)) U U)<|Oc U rm U<|rP 1 [] I ?_
  refine RK y<|ay ?_
  refine LX hQ (false,2,none,0,none,0,[],none,0,none,0,none,0,none,0,[]) [] [0] (mc 3 U I) U (by rfl) U ?_ ?_
  ·rfl
  ·exact oJ<|pz (sb (h:=h) (i:=i) (d:=d) E om)
 refine WK u<|aw fun _ z=>aw fun _ AC=>?_
 have A9:=(dJ E).1
 have If:=(dJ E).2
 have Do:=(dx A9).1
 have ER:=(dx A9).2
 have Di:=(en Do).2.head
 unfold fP at Di
 refine aF<|rP 1 [] (mc 2 U I) ?_
 refine cX (uu j kA kC az cA cC bA bC slA slC drA drC ha heA heC faA faC prA prC hin asm) (aY [7,8,9,10,11,12,13,14,15,16]) U fun E2 B9=>?_
 obtain ⟨b,GV,Hi⟩:=E2
 try dsimp only
 have r:=B9
 try dsimp only at r
 refine rP 1 [] I ?_
 have In:(eg j).length=j.Race.ax.length:=wR
 obtain ⟨row,H⟩:=aO (eg j) ((h).toNat) om
 obtain ⟨rowa,W⟩:=aO b ((h).toNat) om
 have s:(List.zipWith qQ (eg j) b)[(h).toNat]? =some (qQ row rowa):=dj H W
 refine rS (IA ((h).toNat) U (ag (n:=(eg j).length) 0 U (pA r)) E5 dc om om)<|rS (iY ((h).toNat) 0 (vS rowa.1 row.length rowa.2) U ct (ag (n:=(eg j).length) 0 U (pA r)) s U dc U)<|rP 1 [] I ?_
 have GE:row.length≤1000000:=Ep E _ (by rw [lF E]; exact aP H)
 refine rS (CL (w6 row rowa.1 rowa.2 i asm) (ai (show iE _ (rd rowa.1 row.length 1 (row.map iC)).holds from (fun w hw=>(cR 1 U EV) w hw _ (bM H W (by simp [Jf]))))<|aH) U)<|rP 1 [] I ?_
 refine RK AC<|cO U (bI fun X=>?_) (bH fun X=>?_)
 ·refine WS fun _ AO=>rS (SX (aZ (xs:=[]) (cs:=(cU.cells (cU.mk (cy.mk (bS.mk (bj.mk none 0 0)) 0 (bj.mk none 0 0) (bj.mk none 0 0) 0 0 0) (bj.mk none 0 0) (bj.mk none 0 0) 0 (bj.mk none 0 0)))) U U (a_ Co U)) U U)<|G2 U rm U<|rP 1 [] I ?_
  refine RK AO<|ay ?_
  refine LX hQ (false,8,none,0,none,0,[],none,0,none,0,none,0,none,0,[]) [] [0] (mc 5 U I) U (by rfl) U ?_ ?_
  ·rfl
  ·exact oJ<|pz (Ac (h:=h) (i:=i) (d:=d) E ⟨om,om⟩ H X)
 refine WK z<|WS fun _ AP=>rP 1 [] I ?_
 refine rS (LP (cU.cells (wA j.Race kA kC cA cC bA bC slA slC drA drC heA heC)) 7 U ct U U U)<|cX (EW j.Race kA kC az cA cC bA bC slA slC drA drC ha heA heC asm) (aY [9,10,11,12,13,14,15,16]) U fun FI CK=>?_
 obtain ⟨J,O,K,P,Z,L,R,M,S,N,T,F,G,AB⟩:=FI
 try dsimp only
 obtain ⟨⟨Y,p⟩,D⟩:=CK
 try dsimp only at Y p D
 have Fn:=D.1
 refine AL U ye fun HH=>fF U rm U<|RK AP<|WS fun _ A0=>rP 3 [] (mc 15 U I) ?_
 refine cX (wc d.ba.aj sgA sgC hsl) (aY [28]) U fun FS GT=>?_
 obtain ⟨B,C⟩:=FS
 try dsimp only
 refine rP 2 [] I ?_
 refine fz (vs:=[(vS B d.ba.aj.length C)]) (cs':=(aJ.cells (aJ.mk d.Out d.cZ d.Time (iv d.ba B C)))) (C':=[_,_,_,_,_,_,_,_,_,_,_,_,_,_,_,_,(bU b3 43 (aJ.cells (aJ.mk d.Out d.cZ d.Time (iv d.ba B C)))),_,_,_,_,_,_,_,_,_,_,_,_,_]) 16 U U U K7 U U U U U U U<|RK A0<|aw fun _ A1=>?_
 obtain ⟨ht,AA⟩:=aO j.Race.ax ((h).toNat) om
 obtain ⟨A,V⟩:=aO AB ((h).toNat) (by have:=D.1; omega)
 have A8:(List.zipWith cc j.Race.ax AB)[(h).toNat]? =some (cc ht A):=dj AA V
 have Eq:=D.2 _ _ _ AA V
 have IR:=(ER.iP ht (aP AA)).1
 refine Iv 9 AA V U U ?_
 try dsimp only
 refine dh cu 8 kr<|mW 3 [] (mc 4 U I) U<|dS (IA ((h).toNat) U (ag (n:=j.Race.ax.length) 11 U (dq D.1)) pk dc om om)<|dS (iY ((h).toNat) 0 (vS A.1.1 ht.length A.1.2) U ct (ag (n:=j.Race.ax.length) 11 U (dq D.1)) A8 U dc U)<|dP 2 [] (mc 18 U I) ?_
 obtain ⟨d0,A6⟩:=aO ht ((i).toNat) om
 obtain ⟨C3,g⟩:=aO A.2 ((i).toNat) om
 have A7:(List.zipWith aq.cells ht A.2)[(i).toNat]? =some (aq.cells d0 C3):=dj A6 g
 refine dS (IA ((i).toNat) U (ag (n:=ht.length) 0 U (nN Eq)) qB dc om om)<|du<|eK (k:=(i).toNat) (o:=0) (vs:=(aJ.cells (aJ.mk d.Out d.cZ d.Time (iv d.ba B C)))) (es':=(List.zipWith aq.cells (ht.set (i).toNat d) (A.2.set (i).toNat (B,C)))) (C':=[(own A.1.1 A.1.2 43 7 (List.zipWith aq.cells (ht.set (i).toNat d) (A.2.set (i).toNat (B,C)))),_,_,_,_,_,_,_,_,_,_,_,_,_,_,_,_,_,_,_,_,_,_,_,_,_,_,_,_,_,_,_]) 0 U U U E_ U U U U A7 U dc (by exact td (c:=aq.cells) (m:=d) (a:=(B,C))) U<|RK A1<|aw fun _ A2=>aw fun _ A3=>Jj (d':=d) (b':=(B,C)) 1 3 A6 g U U ?_
 refine Gs (h':=(ht.set (i).toNat d)) (a':=(A.1,(A.2.set (i).toNat (B,C)))) 2 0 1 om (by have:=D.1; omega) U U ?_
 rw [← pN AA,show List.zipWith cc j.Race.ax AB=List.zipWith cc (jH j.Race.ax h i d) (AB.set (h).toNat (A.1,(A.2.set (i).toNat (B,C)))) from by rw [pN AA]; exact (Cl AA V (by rw [List.length_set])).symm]
 replace D:=IF (d:=d) (i:=i) (x:=(B,C)) D AA V
 rw [show bj.mk F j.Race.ax.length G=bj.mk F ((jH j.Race.ax h i d).length) G from by rw [nV]]
 have B3:jv (j6 j.Race h i d) _ _:=B8.put Y p D hsl
 refine aF<|rP 1 [] (mc 1 U I) ?_
 refine rS (CL (wh (j6 j.Race h i d) J O Z K P L R M S N T (AB.set (h).toNat (A.1,(A.2.set (i).toNat (B,C)))) F G (by exact B3)) (dN 17 U U<|ai (ag (n:=j.Race.ak.aU.length) 2 U (by (rw [List.length_map]; rfl)))<|ai (ag (n:=j.Race.ak.ar.length) 3 U (ew Y))<|ai (cR 4 U eY)<|ai (ag (n:=j.Race.ak.aa.length) 5 U (by (rw [List.length_map]; rfl)))<|ai (ag (n:=j.Race.aR.length) 6 U (by (rw [List.length_map]; rfl)))<|ai (ag (n:=j.Race.b_.length) 7 U (by (rw [List.length_map]; rfl)))<|ai (ag (n:=(jH j.Race.ax h i d).length) 8 U (dq D.1))<|ai (ed 0 U D)<|aH) U) ?_
 refine rP 1 [] I ?_
 refine RK A3<|cO U (bI fun l=>?_) (bH fun l=>?_)
 ·refine WS fun _ A4=>rS (SX (aZ (xs:=[]) (cs:=(cU.cells (cU.mk (cy.mk (bS.mk (bj.mk none 0 0)) 0 (bj.mk none 0 0) (bj.mk none 0 0) 0 0 0) (bj.mk none 0 0) (bj.mk none 0 0) 0 (bj.mk none 0 0)))) U U (a_ Co U)) U U)<|fz (vs:=(cU.cells (cU.mk (cy.mk (bS.mk (bj.mk none 0 0)) 0 (bj.mk none 0 0) (bj.mk none 0 0) 0 0 0) (bj.mk none 0 0) (bj.mk none 0 0) 0 (bj.mk none 0 0)))) (cs':=(cU.cells (cU.mk (cy.mk (bS.mk (bj.mk none 0 0)) 0 (bj.mk none 0 0) (bj.mk none 0 0) 0 0 0) (bj.mk none 0 0) (bj.mk none 0 0) 0 (bj.mk none 0 0)))) (C':=[_,_,_,_,_,_,_,_,_,_,_,_,_,_,(bU b4 32 (cU.cells (cU.mk (cy.mk (bS.mk (bj.mk none 0 0)) 0 (bj.mk none 0 0) (bj.mk none 0 0) 0 0 0) (bj.mk none 0 0) (bj.mk none 0 0) 0 (bj.mk none 0 0)))),_,_,_,_,_,_,_,_,_,_,_,_,_,_]) 14 U U U rm U U U U U U U<|rP 1 [] I ?_
  refine RK A4<|ay ?_
  refine LX hQ (false,60,none,0,none,0,[],none,0,none,0,none,0,none,0,[]) [] [0] (mc 14 U I) U (by rfl) U ?_ ?_
  ·rfl
  ·exact oJ<|pz (uh (h:=h) (i:=i) (d:=d) E ⟨om,om⟩ H X l)
 refine WK A2<|WS fun _ A5=>gO 1 [] (mc 1 U I) U<|fz (vs:=(cU.cells (cU.mk (cy.mk (bS.mk (bj.mk J j.Race.ak.aU.length O)) j.Race.ak.iQ (bj.mk K j.Race.ak.ar.length P) (bj.mk L j.Race.ak.aa.length R) j.Race.ak.cj j.Race.ak.fZ j.Race.ak.eR) (bj.mk M j.Race.aR.length S) (bj.mk N j.Race.b_.length T) j.Race.ks (bj.mk F ((jH j.Race.ax h i d).length) G)))) (cs':=(cU.cells (cU.mk (cy.mk (bS.mk (bj.mk J j.Race.ak.aU.length O)) j.Race.ak.iQ (bj.mk K j.Race.ak.ar.length P) (bj.mk L j.Race.ak.aa.length R) j.Race.ak.cj j.Race.ak.fZ j.Race.ak.eR) (bj.mk M j.Race.aR.length S) (bj.mk N j.Race.b_.length T) j.Race.ks (bj.mk F ((jH j.Race.ax h i d).length) G)))) (C':=[_,_,_,_,_,_,_,_,_,_,_,_,_,_,(bU b4 32 (cU.cells (cU.mk (cy.mk (bS.mk (bj.mk J j.Race.ak.aU.length O)) j.Race.ak.iQ (bj.mk K j.Race.ak.ar.length P) (bj.mk L j.Race.ak.aa.length R) j.Race.ak.cj j.Race.ak.fZ j.Race.ak.eR) (bj.mk M j.Race.aR.length S) (bj.mk N j.Race.b_.length T) j.Race.ks (bj.mk F ((jH j.Race.ax h i d).length) G)))),_,_,_,_,_,_,_,_,_,_,_,_,_,_]) 14 U U U rm U U U U U U U<|rP 1 [] I ?_
 refine RK A5<|ay ?_
 refine LX hQ (true,0,J,O,K,P,Z,L,R,M,S,N,T,F,G,(AB.set (h).toNat (A.1,(A.2.set (i).toNat (B,C))))) [2,3,4,5,6,7,8,0] [0] (mc 14 U I) U (by (show List.all _ _=true; simp only [cond_true,gf,List.all_nil,mJ,sX,Bool.and_true]; rfl)) U ?_ ?_
 ·rfl
 ·exact ⟨fun _=>⟨zX E ⟨om,om⟩ H X l,⟨Y,p⟩,D⟩,MZ⟩
theorem uM (j:cn) (kA:OA) (kC:Nat) (az:List RA) (cA:OA) (cC:Nat) (bA:OA) (bC:Nat) (slA:OA) (slC:Nat) (drA:OA) (drC:Nat) (ha:List cg) (heA:OA) (heC:Nat) (faA:OA) (faC:Nat) (prA:OA) (prC:Nat) (h i:Int) (d:aq) (sgA:OA) (sgC:Nat) (hin:eB j az ha) (hsl:d.ba.aj.length≤1000000) (hok:(j8 j h i d)=0):
 lX Tryz.prog 18 [(vA (fH.cells (lY j kA kC cA cC bA bC slA slC drA drC heA heC faA faC prA prC))),(vI h),(vI i),(vA (aJ.cells (aJ.mk d.Out d.cZ d.Time (iv d.ba sgA sgC))))] [(rd ek 3 2 dH),(rd kA j.Race.ak.aU.length 9 (j.Race.ak.aU.map av.cells)),(rd cA j.Race.ak.ar.length 2 (List.zipWith aB.cells j.Race.ak.ar az)),(dw (aX aB.gQ j.Race.ak.ar az)),(rd bA j.Race.ak.aa.length 4 (j.Race.ak.aa.map bD.cells)),(rd slA j.Race.aR.length 1 (j.Race.aR.map iC)),(rd drA j.Race.b_.length 1 (j.Race.b_.map iC)),(rd heA j.Race.ax.length 1 (List.zipWith cc j.Race.ax ha)),(dw (aX ep j.Race.ax ha)),(rd faA j.aC.length 4 (j.aC.map aI.cells)),(rd prA j.aD.length 5 (j.aD.map aV.cells)),(rd sgA d.ba.aj.length 2 (d.ba.aj.map aG.cells))] (fun (x:(OA)×Nat×(OA)×Nat×(List RA)×(OA)×Nat×(OA)×Nat×(OA)×Nat×(OA)×Nat×(List cg))=>(vT [(vA (cU.cells (cU.mk (cy.mk (bS.mk (bj.mk x.1 j.Race.ak.aU.length x.2.1)) j.Race.ak.iQ (bj.mk x.2.2.1 j.Race.ak.ar.length x.2.2.2.1) (bj.mk x.2.2.2.2.2.1 j.Race.ak.aa.length x.2.2.2.2.2.2.1) j.Race.ak.cj j.Race.ak.fZ j.Race.ak.eR) (bj.mk x.2.2.2.2.2.2.2.1 j.Race.aR.length x.2.2.2.2.2.2.2.2.1) (bj.mk x.2.2.2.2.2.2.2.2.2.1 j.Race.b_.length x.2.2.2.2.2.2.2.2.2.2.1) j.Race.ks (bj.mk x.2.2.2.2.2.2.2.2.2.2.2.1 ((jH j.Race.ax h i d).length) x.2.2.2.2.2.2.2.2.2.2.2.2.1)))),(vI 0)])) (fun (x:(OA)×Nat×(OA)×Nat×(List RA)×(OA)×Nat×(OA)×Nat×(OA)×Nat×(OA)×Nat×(List cg))=>((j8 j h i d)=0∧(x.2.2.2.2.1.length=j.Race.ak.ar.length∧pS j.Race.ak.ar x.2.2.2.2.1)∧rn (jH j.Race.ax h i d) x.2.2.2.2.2.2.2.2.2.2.2.2.2)) (fun (x:(OA)×Nat×(OA)×Nat×(List RA)×(OA)×Nat×(OA)×Nat×(OA)×Nat×(OA)×Nat×(List cg))=>[(own x.1 x.2.1 128 9 (j.Race.ak.aU.map av.cells)),(own x.2.2.1 x.2.2.2.1 133 2 (List.zipWith aB.cells j.Race.ak.ar x.2.2.2.2.1)),(bx (aX aB.owns j.Race.ak.ar x.2.2.2.2.1)),(own x.2.2.2.2.2.1 x.2.2.2.2.2.2.1 137 4 (j.Race.ak.aa.map bD.cells)),(own x.2.2.2.2.2.2.2.1 x.2.2.2.2.2.2.2.2.1 3 1 (j.Race.aR.map iC)),(own x.2.2.2.2.2.2.2.2.2.1 x.2.2.2.2.2.2.2.2.2.2.1 3 1 (j.Race.b_.map iC)),(own x.2.2.2.2.2.2.2.2.2.2.2.1 x.2.2.2.2.2.2.2.2.2.2.2.2.1 75 1 (List.zipWith cc (jH j.Race.ax h i d) x.2.2.2.2.2.2.2.2.2.2.2.2.2)),(bx (aX jC (jH j.Race.ax h i d) x.2.2.2.2.2.2.2.2.2.2.2.2.2))]):=by
 exact Hc (mN j kA kC az cA cC bA bC slA slC drA drC ha heA heC faA faC prA prC h i d sgA sgC hin hsl) (fun x q=>q.2 hok)
end
section
open Go.RowKit
theorem ss:
 c_ Tryz.prog 5 [] [(rd ek 3 2 dH)] (vB true):=by
 have Rn:bP.aC.length=4:=rfl
 refine bq kr Tryz.func5 U U fun w0 Q hQ hN=>?_
 try dsimp only
 refine WS fun _ RR=>br 1 U<|RK RR<|aw fun _ RS=>WS fun _ RT=>br 1 U<|rS (CL Fy (aY [0]) U)<|br 3 U<|rS (CL (oh 2 0 1) (aY [0]) U)<|rP 3 [] I ?_
 refine cE (t:=29) U (bI fun P2=>?_) (bH fun P2=>?_)
 ·exact absurd (Kl) P2
 refine rS (CL (oh 0 1 0) (aY [0]) U)<|rP 3 [] I ?_
 refine cE (t:=33) U (bI fun P3=>?_) (bH fun P3=>?_)
 ·exact absurd (GP) P3
 refine rS (CL (vw 2 0) (aY [0]) U)<|rP 2 [] I ?_
 refine RK RT<|cO U (bI fun P4=>?_) (bH fun P4=>?_)
 ·exact absurd I6 P4
 refine WK RS<|WS fun _ RU=>cX gS (aH) U fun y5 RW=>?_
 obtain ⟨Qf,Q5,Qj,Pj,Pd,PR,Pm,PU,Pp,PX,Ps,Pa,Pv,QI,G,H,QM,QP⟩:=y5
 try dsimp only
 obtain ⟨A,C,B⟩:=RW
 have OW:=A
 have QB:=C
 have u:=B
 refine cX gS (aH) U fun Ra QE=>?_
 obtain ⟨N,T,O,AA,Pe,P,V,R,W,Re,Rl,S,X,QJ,Y,Z,w,x⟩:=Ra
 try dsimp only
 obtain ⟨A,C,B⟩:=QE
 have OY:=A
 have QC:=C
 have v:=B
 refine AL U Iu fun Rp=>AL U Iu fun Rq=>rL U JX U<|fF U JX U<|RK RU<|aw fun _ P6=>sh 20 U dc (fun Rf s=>?_)
 refine aF<|rP 2 [] (mc 1 U I) ?_
 obtain ⟨x1,QD⟩:=aO bP.aC 1 om
 have hx1m:=cD aI.cells QD
 refine rS (Ok 1 U s uJ U om)<|rS (NF ((1*4)+1) U s fc U) ?_
 have QA:(bP.aC.set 1 (aI.mk x1.Kind 2 x1.ke x1.To))=l3.aC:=by exact HE QD
 refine eK (k:=1) (o:=1) (vs:=[(vI 2)]) (es':=(List.map aI.cells l3.aC)) (C':=[_,_,_,_,_,_,_,_,_,_,_,_,_,_,_,_,_,_,_,_,(own G H 86 4 (List.map aI.cells l3.aC)),_,_]) 20 U U U Cr U U U U hx1m U dc (by exact (List.map_set (f:=aI.cells) (l:=bP.aC) (i:=1) (a:=(aI.mk x1.Kind 2 x1.ke x1.To))).symm.trans (congrArg _ QA)) U<|RK P6<|WS fun _ P7=>rP 2 [] I ?_
 refine Oz (fH.cells (fH.mk (cU.mk (cy.mk (bS.mk (bj.mk N bP.Race.ak.aU.length T)) bP.Race.ak.iQ (bj.mk O bP.Race.ak.ar.length AA) (bj.mk P bP.Race.ak.aa.length V) bP.Race.ak.cj bP.Race.ak.fZ bP.Race.ak.eR) (bj.mk R bP.Race.aR.length W) (bj.mk none 0 0) bP.Race.ks (bj.mk S bP.Race.ax.length X)) (bj.mk Y bP.aC.length Z) (bj.mk w bP.aD.length x) bP.gR bP.Cu)) U Bh U U<|RK P7<|aw fun _ P8=>?_
 have hoddin:=JW OW
 have hwildin:=Ix OY
 rw [show bj.mk G bP.aC.length H=bj.mk G l3.aC.length H from by rfl]
 refine aF<|cX gS (aH) U fun Rb QF=>?_
 obtain ⟨PN,Ph,PP,Pk,Pf,PS,Pn,PV,Pq,PY,Pt,Pb,Pw,QK,Py,P0,QN,QQ⟩:=Rb
 try dsimp only
 obtain ⟨A,C,B⟩:=QF
 refine rS (CL (z6 bP PN Ph Pf PP Pk PS Pn PV Pq PY Pt QK Pb Pw Py P0 QN QQ 4 0 0 (by exact A)) (dN 32 U U<|ai (ag (n:=bP.Race.ak.aU.length) 0 U (by (simp; done)))<|ai (ag (n:=bP.Race.ak.ar.length) 1 U (ew C))<|ai (cR 2 U eY)<|ai (ag (n:=bP.Race.ak.aa.length) 3 U (by (simp; done)))<|ai (ag (n:=bP.Race.aR.length) 4 U (by (simp; done)))<|ai (ag (n:=bP.Race.b_.length) 5 U (by (simp; done)))<|ai (ag (n:=bP.Race.ax.length) 6 U (dq B.1))<|ai (ed 7 U B)<|ai (ag (n:=bP.aC.length) 8 U (by (simp; done)))<|ai (ag (n:=bP.aD.length) 9 U (by (simp; done)))<|aH) U) ?_
 refine rP 5 [] I ?_
 refine RK P8<|aw fun _ P9=>mS [10,11,12,13,14,15,16,18,19,20,21,22,23,24,25,26,27,28,29,30,31,32] U<|aF<|cX gS (aH) U fun Rc QG=>?_
 obtain ⟨PO,Pi,PQ,Pl,Pg,PT,Po,PW,Pr,PZ,Pu,Pc,Px,QL,Pz,P1,QO,QR⟩:=Rc
 try dsimp only
 obtain ⟨A,C,B⟩:=QG
 refine cX (MI bP PO Pi Pg PQ Pl PT Po PW Pr PZ Pu QL Pc Px Pz P1 QO QR (-1) (by exact A)) (dN 31 U U<|ai (ag (n:=bP.Race.ak.aU.length) 0 U (by (simp; done)))<|ai (ag (n:=bP.Race.ak.ar.length) 1 U (ew C))<|ai (cR 2 U eY)<|ai (ag (n:=bP.Race.ak.aa.length) 3 U (by (simp; done)))<|ai (ag (n:=bP.Race.aR.length) 4 U (by (simp; done)))<|ai (ag (n:=bP.Race.b_.length) 5 U (by (simp; done)))<|ai (ag (n:=bP.Race.ax.length) 6 U (dq B.1))<|ai (ed 7 U B)<|ai (ag (n:=bP.aC.length) 8 U (by (simp; done)))<|ai (ag (n:=bP.aD.length) 9 U (by (simp; done)))<|aH) U fun Rd QH=>?_
 obtain ⟨Rm,Ro,Rr⟩:=Rd
 try dsimp only
 have Rs:=QH
 refine rP 5 [] I ?_
 refine RK P9<|aw fun _ P_=>mS [12,13,14,15,16,17,18,19,20,21,22,23,24,25,26,27,28,29,30,31,32,33] U<|aF<|cX gS (aH) U fun QS OZ=>?_
 obtain ⟨y,IR,A2,Jt,GT,A9,J7,Ck,K4,Di,Li,FS,MY,O0,Nf,OJ,O_,PF⟩:=QS
 try dsimp only
 obtain ⟨A,C,B⟩:=OZ
 refine rS (CL (Dd bP y IR GT A2 Jt A9 J7 Ck K4 Di Li O0 FS MY Nf OJ O_ PF 3 (by exact A)) (dN 31 U U<|ai (ag (n:=bP.Race.ak.aU.length) 0 U (by (simp; done)))<|ai (ag (n:=bP.Race.ak.ar.length) 1 U (ew C))<|ai (cR 2 U eY)<|ai (ag (n:=bP.Race.ak.aa.length) 3 U (by (simp; done)))<|ai (ag (n:=bP.Race.aR.length) 4 U (by (simp; done)))<|ai (ag (n:=bP.Race.b_.length) 5 U (by (simp; done)))<|ai (ag (n:=bP.Race.ax.length) 6 U (dq B.1))<|ai (ed 7 U B)<|ai (ag (n:=bP.aC.length) 8 U (by (simp; done)))<|ai (ag (n:=bP.aD.length) 9 U (by (simp; done)))<|aH) U) ?_
 refine rP 5 [] I ?_
 refine RK P_<|aw fun _ OP=>mS [10,11,12,13,14,15,16,17,18,19,20,21,22,23,24,25,26,27,28,29,30,31] U<|aF<|cX gS (aH) U fun QT Oa=>?_
 obtain ⟨z,Id,A3,J1,GV,B3,J8,Cp,K5,Do,Lk,Fd,Mj,O1,Ng,OK,PA,PG⟩:=QT
 try dsimp only
 obtain ⟨A,C,B⟩:=Oa
 refine rS (CL (zP bP z Id GV A3 J1 B3 J8 Cp K5 Do Lk O1 Fd Mj Ng OK PA PG 3 (by exact A)) (dN 31 U U<|ai (ag (n:=bP.Race.ak.aU.length) 0 U (by (simp; done)))<|ai (ag (n:=bP.Race.ak.ar.length) 1 U (ew C))<|ai (cR 2 U eY)<|ai (ag (n:=bP.Race.ak.aa.length) 3 U (by (simp; done)))<|ai (ag (n:=bP.Race.aR.length) 4 U (by (simp; done)))<|ai (ag (n:=bP.Race.b_.length) 5 U (by (simp; done)))<|ai (ag (n:=bP.Race.ax.length) 6 U (dq B.1))<|ai (ed 7 U B)<|ai (ag (n:=bP.aC.length) 8 U (by (simp; done)))<|ai (ag (n:=bP.aD.length) 9 U (by (simp; done)))<|aH) U) ?_
 refine rP 5 [] I ?_
 refine RK OP<|aw fun _ OQ=>mS [10,11,12,13,14,15,16,17,18,19,20,21,22,23,24,25,26,27,28,29,30,31] U<|aF<|cX gS (aH) U fun QU On=>?_
 obtain ⟨AC,If,A4,J2,Go,B8,J9,Cx,K8,EQ,Lo,Fk,M0,O2,No,OL,PB,PH⟩:=QU
 try dsimp only
 obtain ⟨A,C,B⟩:=On
 refine rS (CL (jA 5 6) (aH) U) ?_
 refine cX (mN bP AC If Go A4 J2 B8 J9 Cx K8 EQ Lo O2 Fk M0 No OL PB PH 1 0 (fY 5 6) none 0 (by exact A) dc) (dN 31 U U<|ai (ag (n:=bP.Race.ak.aU.length) 0 U (by (simp; done)))<|ai (ag (n:=bP.Race.ak.ar.length) 1 U (ew C))<|ai (cR 2 U eY)<|ai (ag (n:=bP.Race.ak.aa.length) 3 U (by (simp; done)))<|ai (ag (n:=bP.Race.aR.length) 4 U (by (simp; done)))<|ai (ag (n:=bP.Race.b_.length) 5 U (by (simp; done)))<|ai (ag (n:=bP.Race.ax.length) 6 U (dq B.1))<|ai (ed 7 U B)<|ai (ag (n:=bP.aC.length) 8 U (by (simp; done)))<|ai (ag (n:=bP.aD.length) 9 U (by (simp; done)))<|ai (sH _ _)<|aH) U fun QV K=>?_
 obtain ⟨O7,RO,Qc,Qz,Qg,Q6,Qw,Qk,Q9,Qn,RC,Qq,RG,Qt,RL,RX⟩:=QV
 cases O7
 rotate_left 1
 ·obtain ⟨D,⟨AB,J⟩,F⟩:=K.1 rfl
  try dsimp only [cond_true,cond_false,List.cons_append,List.nil_append]
  exact absurd (D.symm.trans H6) dc
 obtain ⟨E,he⟩:=K.2 rfl
 try dsimp only at E he
 subst E
 try dsimp only [cond_true,cond_false,List.cons_append,List.nil_append]
 refine br 3 U<|AL U ye fun Rg=>fF U rm U<|rP 1 [] I ?_
 refine RK OQ<|aw fun _ OR=>mS [11,12,13,14,15,16,17,18,19,20,21,22,23,24,25,26,27,28,29,30,31,32] U<|aF<|cX gS (aH) U fun QW Oo=>?_
 obtain ⟨AO,In,A5,J3,HH,B9,KL,C0,LA,ER,L0,Fn,M2,O3,Nt,OM,PC,PI⟩:=QW
 try dsimp only
 obtain ⟨A,C,B⟩:=Oo
 refine rS (CL (jA 6 5) (aH) U) ?_
 refine cX (mN bP AO In HH A5 J3 B9 KL C0 LA ER L0 O3 Fn M2 Nt OM PC PI 0 0 (fY 6 5) none 0 (by exact A) dc) (dN 31 U U<|ai (ag (n:=bP.Race.ak.aU.length) 0 U (by (simp; done)))<|ai (ag (n:=bP.Race.ak.ar.length) 1 U (ew C))<|ai (cR 2 U eY)<|ai (ag (n:=bP.Race.ak.aa.length) 3 U (by (simp; done)))<|ai (ag (n:=bP.Race.aR.length) 4 U (by (simp; done)))<|ai (ag (n:=bP.Race.b_.length) 5 U (by (simp; done)))<|ai (ag (n:=bP.Race.ax.length) 6 U (dq B.1))<|ai (ed 7 U B)<|ai (ag (n:=bP.aC.length) 8 U (by (simp; done)))<|ai (ag (n:=bP.aD.length) 9 U (by (simp; done)))<|ai (sH _ _)<|aH) U fun QX L=>?_
 obtain ⟨O8,RP,Qd,Q0,Qh,Q7,Qx,Ql,Q_,Qo,RE,Qr,RH,Qu,RM,RY⟩:=QX
 cases O8
 rotate_left 1
 ·obtain ⟨D,⟨AB,J⟩,F⟩:=L.1 rfl
  try dsimp only [cond_true,cond_false,List.cons_append,List.nil_append]
  exact absurd (D.symm.trans C_) dc
 obtain ⟨E,he⟩:=L.2 rfl
 try dsimp only at E he
 subst E
 try dsimp only [cond_true,cond_false,List.cons_append,List.nil_append]
 refine br 3 U<|AL U ye fun Rh=>fF U rm U<|rP 1 [] I ?_
 refine RK OR<|aw fun _ OS=>mS [11,12,13,14,15,16,17,18,19,20,21,22,23,24,25,26,27,28,29,30,31,32] U<|aF<|cX gS (aH) U fun QY Op=>?_
 obtain ⟨AP,JJ,A6,J4,Hi,CK,Ks,C1,LE,Eq,L2,Ft,NE,O4,Nz,ON,PD,PJ⟩:=QY
 try dsimp only
 obtain ⟨A,C,B⟩:=Op
 refine rS (CL (jA 5 6) (aH) U) ?_
 refine cX (mN bP AP JJ Hi A6 J4 CK Ks C1 LE Eq L2 O4 Ft NE Nz ON PD PJ 2 0 (fY 5 6) none 0 (by exact A) dc) (dN 31 U U<|ai (ag (n:=bP.Race.ak.aU.length) 0 U (by (simp; done)))<|ai (ag (n:=bP.Race.ak.ar.length) 1 U (ew C))<|ai (cR 2 U eY)<|ai (ag (n:=bP.Race.ak.aa.length) 3 U (by (simp; done)))<|ai (ag (n:=bP.Race.aR.length) 4 U (by (simp; done)))<|ai (ag (n:=bP.Race.b_.length) 5 U (by (simp; done)))<|ai (ag (n:=bP.Race.ax.length) 6 U (dq B.1))<|ai (ed 7 U B)<|ai (ag (n:=bP.aC.length) 8 U (by (simp; done)))<|ai (ag (n:=bP.aD.length) 9 U (by (simp; done)))<|ai (sH _ _)<|aH) U fun QZ M=>?_
 obtain ⟨O9,RQ,Qe,Q4,Qi,Q8,Qy,Qm,RB,Qp,RF,Qs,RI,Qv,RN,RZ⟩:=QZ
 cases O9
 rotate_left 1
 ·obtain ⟨D,⟨AB,J⟩,F⟩:=M.1 rfl
  try dsimp only [cond_true,cond_false,List.cons_append,List.nil_append]
  exact absurd (D.symm.trans Ie) dc
 obtain ⟨E,he⟩:=M.2 rfl
 try dsimp only at E he
 subst E
 try dsimp only [cond_true,cond_false,List.cons_append,List.nil_append]
 refine br 3 U<|AL U ye fun Ri=>fF U rm U<|rP 1 [] I ?_
 refine RK OS<|aw fun _ OT=>mS [11,12,13,14,15,16,17,18,19,20,21,22,23,24,25,26,27,28,29,30,31,32] U<|aF<|cX gS (aH) U fun Qa Or=>?_
 obtain ⟨A0,JR,A7,J5,H1,CV,K0,C2,LO,E2,L3,GE,NJ,O5,OI,OO,PE,PL⟩:=Qa
 try dsimp only
 obtain ⟨A,C,B⟩:=Or
 refine rS (CL (jA 5 6) (aH) U) ?_
 refine cX (uM bP A0 JR H1 A7 J5 CV K0 C2 LO E2 L3 O5 GE NJ OI OO PE PL 0 0 (fY 5 6) none 0 (by exact A) dc (by exact Mw)) (dN 31 U U<|ai (ag (n:=bP.Race.ak.aU.length) 0 U (by (simp; done)))<|ai (ag (n:=bP.Race.ak.ar.length) 1 U (ew C))<|ai (cR 2 U eY)<|ai (ag (n:=bP.Race.ak.aa.length) 3 U (by (simp; done)))<|ai (ag (n:=bP.Race.aR.length) 4 U (by (simp; done)))<|ai (ag (n:=bP.Race.b_.length) 5 U (by (simp; done)))<|ai (ag (n:=bP.Race.ax.length) 6 U (dq B.1))<|ai (ed 7 U B)<|ai (ag (n:=bP.aC.length) 8 U (by (simp; done)))<|ai (ag (n:=bP.aD.length) 9 U (by (simp; done)))<|ai (sH _ _)<|aH) U fun Qb Os=>?_
 obtain ⟨A1,Ja,A8,J6,IO,Ci,K2,C3,LT,FI,L9,GG,Ne,O6⟩:=Qb
 try dsimp only
 obtain ⟨D,⟨AB,J⟩,F⟩:=Os
 try dsimp only at AB J F
 have RV:=jv.put (d:=fY 5 6) A.race AB J F dc
 refine br 3 U<|AL U ye fun Rj=>fF U rm U<|br 1 U<|RK OT<|aw fun _ OU=>mS [0,1,2,3,4,5,6,7,8,19,20,21,22,23,24,25,26,27,28,29,30,31,32,33,34,35,36,37,38,39,40] U<|aF<|gO 1 [] (mc 0 U I) U<|rS (CL (JT 0 0 (j6 bP.Race 0 0 (fY 5 6)) A1 Ja IO A8 J6 Ci K2 C3 LT FI L9 O6 GG Ne (by exact RV)) (dN 30 U U<|ai (ag (n:=bP.Race.ak.aU.length) 1 U (by rfl))<|ai (ag (n:=bP.Race.ak.ar.length) 2 U (ew AB))<|ai (cR 3 U eY)<|ai (ag (n:=bP.Race.ak.aa.length) 4 U (by rfl))<|ai (ag (n:=bP.Race.aR.length) 5 U (by rfl))<|ai (ag (n:=bP.Race.b_.length) 6 U (by rfl))<|ai (ag (n:=(jH bP.Race.ax 0 0 (fY 5 6)).length) 7 U (dq F.1))<|ai (ed 8 U F)<|aH) U)<|br 3 U<|AL U eI fun Rk=>fF U dC U<|br 1 U<|RK OU<|aw fun _ OV=>mS [0,10,11,12,13,14,15,16,17,18,19,20,21,22,23,24,25,26,27,28,29,30,31] U<|dh cu 50 kr<|dP 3 [] I ?_
 refine f_ (t:=96) U (bf fun P5=>?_) (bc fun P5=>?_)
 ·exact absurd (Kz) P5
 refine dP 4 [] I ?_
 refine f_ (t:=100) U (bf fun b=>?_) (bc fun b=>?_)
 ·exact absurd (La) b
 refine dP 4 [] I ?_
 refine f_ (t:=104) U (bf fun c=>?_) (bc fun c=>?_)
 ·exact absurd (Lc) c
 refine dP 4 [] I ?_
 refine f_ (t:=108) U (bf fun e=>?_) (bc fun e=>?_)
 ·exact absurd (Mt) e
 refine dP 4 [] I ?_
 refine f_ (t:=112) U (bf fun g=>?_) (bc fun g=>?_)
 ·exact absurd (H6) g
 refine dP 4 [] I ?_
 refine f_ (t:=116) U (bf fun h=>?_) (bc fun h=>?_)
 ·exact absurd (C_) h
 refine dP 4 [] I ?_
 refine f_ (t:=120) U (bf fun j=>?_) (bc fun j=>?_)
 ·exact absurd (Ie) j
 refine qJ 1 U<|dS (SX (ef (r:= .bool true) U U U s_) U U)<|dP 6 [] I ?_
 refine f_ (t:=128) U (bf fun m=>?_) (bc fun m=>?_)
 ·exact absurd (Ic.1) m
 refine mW 1 [] (mc 0 U I) U<|dS (CL (lO 5 6) (aH) U)<|dS (BI U (uz _ _ (iJ (j6 bP.Race 0 0 (fY 5 6)) 0 0) (ab.mk 5 6)))<|dP 2 [] I ?_
 refine f_ (t:=133) U (bf fun p=>?_) (bc fun p=>?_)
 ·exact absurd (Ic.2) p
 refine dP 1 [] (mc 2 U I) ?_
 refine dS (CL (tf l3 Qf Q5 Pd Qj Pj PR Pm PU Pp PX Ps QI Pa Pv G H QM QP (by exact hoddin)) (dN 22 U U<|ai (ag (n:=bP.Race.ak.aU.length) 12 U (by rfl))<|ai (ag (n:=bP.Race.ak.ar.length) 13 U (ew QB))<|ai (cR 14 U eY)<|ai (ag (n:=bP.Race.ak.aa.length) 15 U (by rfl))<|ai (ag (n:=bP.Race.aR.length) 16 U (by rfl))<|ai (ag (n:=bP.Race.b_.length) 17 U (by rfl))<|ai (ag (n:=bP.Race.ax.length) 18 U (dq u.1))<|ai (ed 19 U u)<|ai (ag (n:=l3.aC.length) 20 U (by (simp; done)))<|ai (ag (n:=bP.aD.length) 21 U (by rfl))<|aH) U) ?_
 refine dP 3 [] I ?_
 refine f_ (t:=138) U (bf fun q=>?_) (bc fun q=>?_)
 ·exact absurd (Lx) q
 refine mW 1 [] (mc 1 U I) U<|dS (CL (tf p0 N T Pe O AA P V R W none 0 QJ S X Y Z w x (by exact hwildin)) (dN 22 U U<|ai (ag (n:=bP.Race.ak.aU.length) 3 U (by rfl))<|ai (ag (n:=bP.Race.ak.ar.length) 4 U (ew QC))<|ai (cR 5 U eY)<|ai (ag (n:=bP.Race.ak.aa.length) 6 U (by rfl))<|ai (ag (n:=bP.Race.aR.length) 7 U (by rfl))<|ai (sH _ _)<|ai (ag (n:=bP.Race.ax.length) 8 U (dq v.1))<|ai (ed 9 U v)<|ai (ag (n:=bP.aC.length) 10 U (by rfl))<|ai (ag (n:=bP.aD.length) 11 U (by rfl))<|aH) U)<|dP 3 [] I ?_
 refine du<|RK OV<|ay<|Q1 hQ U U U ?_
 exact cB (gX ML)
end
section
open Go.ChangeShapes Go.WideShapes Go.ChangeAt Go.RowKit
theorem qL:ownKnob Tryz.prog.godebug=none:=by kernel_rfl
theorem pD:laidOutB Tryz.prog=true:=by kernel_rfl
theorem oK (os:Os) (started:os.Started) (H:Type) (enc:TypeId×Value→H):
 ReturnsInHanded {} Tryz.checked os 5 .any (fun w args=>(Rows.juryExamplesSpec.pre enc Tryz.prog Tryz.f5 [] false w args∧laidMetH Tryz.prog [("kreisel/race.table",Rows.laid_kreisel_race_table)] w)∧sizedMet enc Tryz.prog Tryz.f5 (OpenSpec.ofChange Rows.juryExamplesSpec) false w args) (Rows.juryExamplesSpec.post enc Tryz.prog Tryz.f5 false true false false):=by
 refine returnsInHanded_of_change_and (C:=Tryz.checked) (X:=(fun w _=>laidMetH Tryz.prog [("kreisel/race.table",Rows.laid_kreisel_race_table)] w)) (fun _ _ _ hh h=>h.of_heap hh) qL started kr Tryz.func5
  (ChangeSpec.witness_shaped (enc:=enc) (C:=Tryz.checked) (os:=os) (X:=(fun w _=>laidMetH Tryz.prog [("kreisel/race.table",Rows.laid_kreisel_race_table)] w)) false (World.doorLaid Tryz.prog 400 os) #[] 8 rfl (World.shaped_of_RefB kr kr) kr kr kr (zj os _)) ?_
 intro W base args ds gs before B hW _ _ hL _
 have G: ∀ (j:Nat) t v,Tryz.f5.params[j]? =some t→args[j]? =some v→Value.okWide Tryz.prog W .any base t v:=B
 have hW':=hW
 obtain ⟨p,q,AA,hV,rfl,K,L⟩:=hW
 have hA:DataW.TrodAll enc Tryz.prog W 0 (fun _=>true) true Tryz.f5.params.toList args.toList ds p:=AA
 have D:=hA
 rw [Tryz.params5] at hA G
 obtain ⟨J,rfl,rfl⟩:=trodAll_nil hA
 obtain rfl:args= #[]:=by cases args; simp_all
 obtain ⟨rfl,rfl⟩:=trodVars_none hV
 simp only [List.append_nil] at hW' D
 have F:=tx hL
 have E:=ss.run W (by intro A hA; simp only [bB,List.not_mem_nil,or_false] at hA; subst hA; exact F)
 refine (E).mono fun e W' ⟨he,hk⟩=>?_
 subst he
 exact ⟨_,U,EJ pD hW' D U U kr hk.below kr Ox⟩
theorem pa:Rows.JuryExamplesSaid:=
 OpenClaim.holds_of_wide 5 Tryz.f5 rfl rfl rfl rfl rfl rfl rfl ⟨rfl,rfl,rfl,rfl,rfl⟩ rfl rfl rfl rfl rfl kr Tryz.func5 oM
  (of_decide_eq_true kr) (by unfold Func.isWrapper; first|(rw [if_pos (by decide+kernel)]; kernel_rfl)|(rw [if_neg (by decide+kernel)]; exact ⟨rfl,rfl⟩))
  (fun os started H enc _=>oK os started H enc)
/-- the statement -/
theorem juryExamples_said:Rows.JuryExamplesCardSaid:=
 Claim7.holds_tied_plain_at .later [] [.funcsDeep] true (true,"538a66b7717897c4dc8df88aae33bef2e51197238457798b4f2260c108aa2044") false
  pa (fun _ h=>by cases h) kr (fun _ h=>by cases h) juryExamples_row_tie rfl ⟨rfl,rfl⟩ kr rfl
  (fun f fn hf B=>by
   obtain rfl:f=5:=Option.some.inj ((show Tryz.prog.funcNamed "kreisel/kreisellaw07.JuryExamples"=some 5 by kernel_rfl).symm.trans hf) |>.symm
   obtain rfl:fn=Tryz.f5:=(Option.some.inj (Tryz.func5.symm.trans B)).symm
   exact ⟨kr,fun j t ht=>by
    rw [Tryz.params5] at ht
    have hm:t∈([]:List Nat):=by simpa using Array.mem_of_getElem? ht
    have A:(([]:List Nat).all fun u=> !Tryz.prog.wantsStandIn u)=true:=by kernel_rfl
    exact (show Tryz.prog.wantsStandIn t=false by simpa using cm.1 A t hm)⟩)
  kr
#print axioms juryExamples_said
end
end Go.Proofs.YtkaenmjhfajbkaaGreatDoor
