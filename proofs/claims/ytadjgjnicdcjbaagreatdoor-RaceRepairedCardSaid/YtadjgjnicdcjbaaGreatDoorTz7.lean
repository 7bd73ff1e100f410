/-
 The statement raceRepaired_said, part 7 of 9: WLe, Z1, Rx4, B11, Ends5, Can, False, Sim, Told, Clear, Ways, WayM, DrawB, B7, B8, B9, R1, Y1, Y2, Y3, Y5, Rx5.
 Conditions: none.
-/
import Derived.Test.YtadjgjnicdcjbaaGreatDoorTz1
import Derived.Test.YtadjgjnicdcjbaaGreatDoorTz2
import Derived.Test.YtadjgjnicdcjbaaGreatDoorTz3
import Derived.Test.YtadjgjnicdcjbaaGreatDoorTz4
import Derived.Test.YtadjgjnicdcjbaaGreatDoorTz5
import Derived.Test.YtadjgjnicdcjbaaGreatDoorTz6
namespace Go.Proofs.YtadjgjnicdcjbaaGreatDoor
set_option maxRecDepth 100000
set_option maxHeartbeats 4000000
set_option linter.unusedVariables false
section
structure Fg (w w':bT):Prop where
 start:w'.Start=w.Start
 now:w.fZ≤w'.fZ
 n:w'.n=w.n
 least: ∀ b,bX w' b≤bX w b
 times:w'.vV=w.vV
 RG:w.cD≤w'.cD
 Tv:w.dM≤w'.dM
 sigs:w'.QL=w.QL
variable {w w':bT}
theorem Fg.opt (h:Fg w w') {b:Nat} {o:Int×aa} (ho:o∈iM w b): ∃ o'∈iM w' b,o'.1=o.1∧o'.2.Lo≤o.2.Lo∧o.2.Hi≤o'.2.Hi:=by
 unfold iM at ho
 rcases bE.1 ho with rfl|ho
 ·exact ⟨(-1,⟨w'.Start,w'.fZ⟩),bZ ..,U,by simp only [h.start]; omega,h.now⟩
 ·refine ⟨o,c_ _ ?_,U,Int.le_refl _,Int.le_refl _⟩
  unfold tM at ho ⊢; rw [h.times]; exact ho
theorem Fg.may (h:Fg w w') {t:aF} (ht:kQ w t=true):kQ w' t=true:=by
 unfold kQ at ht ⊢
 have:=of_decide_eq_true ht
 have A:=h.RG
 have B:=h.Tv
 have C:=h.sigs
 exact dK I
theorem Fg.fwd (h:Fg w w'): ∀ (b:Nat) (p:aF×Int),p∈fwd w b→ ∃ p'∈Go.Proofs.YtadjgjnicdcjbaaGreatDoor.fwd w' b,p'.1=p.1∧p'.2≤p.2:=by
 intro b
 induction b with
 |zero=>
  intro p hp
  simp only [Go.Proofs.YtadjgjnicdcjbaaGreatDoor.fwd,bP] at hp ⊢
  subst hp
  exact ⟨_,U,U,by simp only [h.start]; omega⟩
 |succ b ih=>
  intro q hq
  obtain ⟨p,hp,o,ho,e⟩:=fY.1 hq
  obtain ⟨p',hp',A,D⟩:=ih p hp
  obtain ⟨o',ho',B,E,F⟩:=h.opt ho
  have hl:=h.least b
  have hn:=h.now
  unfold kX at e
  split at e
  ·rename_i C
   simp only [Option.some.injEq] at e
   subst e
   refine ⟨(dC p'.1 (fy o'.1),max (p'.2+bX w' b) o'.2.Lo),fY.2 ⟨p',hp',o',ho',by unfold kX; rw [if_pos I]⟩,by simp only [A,B],by simp only; omega⟩
  ·cases e
theorem Fg.bwd (h:Fg w w'): ∀ (k:Nat) (p:aF×Int),p∈bwd w k→ ∃ p'∈Go.Proofs.YtadjgjnicdcjbaaGreatDoor.bwd w' k,p'.1=p.1∧p.2≤p'.2:=by
 intro k
 induction k with
 |zero=>
  intro p hp
  simp only [Go.Proofs.YtadjgjnicdcjbaaGreatDoor.bwd,bP] at hp ⊢
  subst hp
  exact ⟨_,U,U,h.now⟩
 |succ k ih=>
  intro q hq
  simp only [Go.Proofs.YtadjgjnicdcjbaaGreatDoor.bwd,bE,List.mem_flatMap,List.mem_filterMap] at hq ⊢
  rcases hq with rfl|⟨p,hp,o,ho,e⟩
  ·exact ⟨_,.inl U,U,h.now⟩
  ·obtain ⟨p',hp',A,D⟩:=ih p hp
   obtain ⟨o',ho',B,E,F⟩:=h.opt ho
   have hl:=h.least (w.n-(k+1))
   rw [h.n]
   unfold ot at e
   split at e
   ·rename_i C
    simp only [Option.some.injEq] at e
    subst e
    exact ⟨(dC p'.1 (fy o'.1),min p'.2 o'.2.Hi-bX w' (w.n-(k+1))),.inr ⟨p',hp',o',ho',by unfold ot; rw [if_pos I]⟩,by simp only [A,B],by simp only; omega⟩
   ·cases e
theorem Fg.back (h:Fg w w') {b:Nat} {p:aF×Int} (hp:p∈back w b): ∃ p'∈Go.Proofs.YtadjgjnicdcjbaaGreatDoor.back w' b,p'.1=p.1∧p.2≤p'.2:=by
 unfold Go.Proofs.YtadjgjnicdcjbaaGreatDoor.back at hp ⊢
 rw [h.n]
 exact h.bwd _ p hp
theorem Fg.pass (h:Fg w w') {b:Nat} {q:Int×aa} (hq:q∈mF w b): ∃ q'∈mF w' b,q'.1=q.1∧q'.2.Lo≤q.2.Lo∧q.2.Hi≤q'.2.Hi:=by
 obtain ⟨o,ho,p,hp,u,hu,e⟩:=ir.1 hq
 obtain ⟨D,E,rfl⟩:=jE.1 e
 obtain ⟨o',ho',A,F,G⟩:=h.opt ho
 obtain ⟨p',hp',B,H⟩:=h.fwd _ p hp
 obtain ⟨u',hu',C,AA⟩:=h.back hu
 have hl:=h.least b
 simp only [jJ] at D
 refine ⟨(o'.1,jJ w' b p' u' o'),ir.2 ⟨o',ho',p',hp',u',hu',jE.2 ⟨?_,?_,U⟩⟩,A,?_,?_⟩
 ·simp only [jJ]; omega
 ·have:=h.may E
  unfold xI at this ⊢
  rw [A,B,C]; exact this
 ·simp only [jJ]; omega
 ·simp only [jJ]; omega
theorem o2 {k:Int}:k∈jU w↔ ∃ i:Nat,k=(i:Int)∧i≤w.n∧jC w (fwd w i)=true:=by
 unfold jU kB
 simp only [bW,List.mem_filter,List.mem_range]
 constructor
 ·rintro ⟨i,⟨B,A⟩,rfl⟩; exact ⟨i,rfl,I,A⟩
 ·rintro ⟨i,rfl,B,A⟩; exact ⟨i,⟨I,A⟩,rfl⟩
theorem Fg.Hj (h:Fg w w') {k:Int} (hk:k∈jU w):k∈jU w':=by
 obtain ⟨i,rfl,C,A⟩:=o2.1 hk
 refine o2.2 ⟨i,U,by rw [h.n]; exact C,?_⟩
 unfold jC at A ⊢
 obtain ⟨p,hp,D⟩:=List.any_eq_true.1 A
 obtain ⟨p',hp',B,_⟩:=h.fwd _ p hp
 exact List.any_eq_true.2 ⟨p',hp',by rw [B]; exact h.may D⟩
/-- two rides, of two lines, of which one allows more -/
structure UK (l:bf) (r:cL) (l':bf) (r':cL):Prop where
 line:dH l=0
 line':dH l'=0
 yU:fx l r
 ride':fx l' r'
 w:Fg (cy l r) (cy l' r')
 Pn:l'.ae.length=l.ae.length
variable {l l':bf} {r r':cL}
theorem UK.ok (h:UK l r l' r') (he:eO l r 0=0):eO l' r' 0=0:=by
 refine l3 h.line' h.ride' U fun e=>?_
 obtain ⟨k,hk⟩:=List.exists_mem_of_ne_nil _ (kg he).2.2.2
 have:=h.w.Hj hk
 rw [e] at this; cases this
theorem UK.An (h:UK l r l' r') {k:Int} (hk:k∈lJ l r):k∈lJ l' r':=by
 by_cases he:eO l r 0=0
 ·rw [lZ he] at hk
  rw [lZ (h.ok he)]
  exact h.w.Hj hk
 ·rw [vl he] at hk; cases hk
theorem Hz {b:Nat} (hb:b<l.ae.length):eO l r (jW l b)=eO l r 0:=by rw [ym I]
theorem Ab {b:Nat}:bX (cy l r) b=if b<l.ae.length then eB l b else 0:=by
 unfold bX cy cS
 split
 ·rename_i h
  simp [h]
 ·rename_i h
  simp [h]
theorem Ha {sg:List aJ} {i:Nat} (h:i=0):m7 sg i=⟨-1,0⟩:=by subst h; rfl
theorem sf {sg:List aJ} {i:Nat} {y:aJ} (h:0<i) (hy:sg[i-1]? =some y):m7 sg i=y:=by unfold m7; rw [if_neg I,hy]; rfl
def QA (l:bf):Prop:= ¬ k8 l∧dH l=0
noncomputable instance (l:bf):Decidable (QA l):=Classical.propDecidable _
end
section
open Go.RowKit
theorem NP (r:cL) (sgA:OA) (sgC:Nat) (hsl:r.ai.length≤1000000):
 lx Tryz.prog 55 [(vA (dL.cells (lV r sgA sgC)))] [(rd sgA r.ai.length 2 (r.ai.map aJ.cells))] (fun (x:(OA)×Nat)=>(vA (dL.cells (dL.mk r.Start r.fZ (bq.mk x.1 r.ai.length x.2))))) (fun (x:(OA)×Nat)=>True) (fun (x:(OA)×Nat)=>[(own x.1 x.2 123 2 (r.ai.map aJ.cells))]):=by
 refine dp kr Tryz.func55 U U fun AA Q hQ hN=>?_
 try dsimp only
 refine WS fun _ A=>fK U fun G=>AL U Uo fun H=>RK A<|WS fun _ B=>lW U wv U fun F=>rP 2 [] (mc 2 U mn) ?_
 refine db (es:=(List.map aJ.cells [])) (C':=[own (some ⟨F,0,none⟩) 0 123 2 (List.map aJ.cells []),_,_,_]) 0 U sm U (by simp [maxLen]) U ?_
 refine cO (es2:=(List.map aJ.cells r.ai)) (m':=r.ai.length) 0 U U U Sg U U sm (aB 3 U) (oS _) os (by first|(simp only [maxLen]; omega)|(simp [maxLen]; omega)) sm sm U fun D E=>?_
 try dsimp only
 refine bo 1 U<|Vi (dL.cells (lV r D E)) U Sc U U<|RK B<|WS fun _ C=>rP 1 [] (mc 2 U mn) ?_
 refine sj U Qh U<|RK C<|ar<|LX hQ (D,E) [0] [0] (mc 1 U mn) U U U U ?_
 trivial
end
section
open Go.RowKit
theorem E5 (r:bY) (kA:OA) (kC:Nat) (az:List RA) (cA:OA) (cC:Nat) (bA:OA) (bC:Nat) (slA:OA) (slC:Nat) (drA:OA) (drC:Nat) (ha:List cG) (heA:OA) (heC:Nat) (hin:ej r az ha) (hng: ¬ kW r):
 lx Tryz.prog 26 [(vA (cr.cells (ou r kA kC cA cC bA bC slA slC drA drC heA heC)))] [(rd kA r.an.aL.length 9 (r.an.aL.map ak.cells)),(rd cA r.an.ah.length 2 (List.zipWith aq.cells r.an.ah az)),(eX (aU aq.gE r.an.ah az)),(rd bA r.an.ae.length 4 (r.an.ae.map bG.cells)),(rd slA r.aK.length 1 (r.aK.map iC)),(rd drA r.bL.length 1 (r.bL.map iC)),(rd heA r.ao.length 1 (List.zipWith ct r.ao ha)),(eX (aU hO r.ao ha))] (fun (x:(OA)×Nat×(OA)×Nat×(List RA)×(OA)×Nat×(OA)×Nat×(OA)×Nat×(OA)×Nat×(List cG))=>(vA (cr.cells (cr.mk (bV.mk (bw.mk (bq.mk x.1 r.an.aL.length x.2.1)) r.an.f_ (bq.mk x.2.2.1 r.an.ah.length x.2.2.2.1) (bq.mk x.2.2.2.2.2.1 r.an.ae.length x.2.2.2.2.2.2.1) r.an.cq r.an.dM r.an.cD) (bq.mk x.2.2.2.2.2.2.2.1 r.aK.length x.2.2.2.2.2.2.2.2.1) (bq.mk x.2.2.2.2.2.2.2.2.2.1 r.bL.length x.2.2.2.2.2.2.2.2.2.2.1) r.gZ (bq.mk x.2.2.2.2.2.2.2.2.2.2.2.1 r.ao.length x.2.2.2.2.2.2.2.2.2.2.2.2.1))))) (fun (x:(OA)×Nat×(OA)×Nat×(List RA)×(OA)×Nat×(OA)×Nat×(OA)×Nat×(OA)×Nat×(List cG))=>(x.2.2.2.2.1.length=r.an.ah.length∧oN r.an.ah x.2.2.2.2.1)∧su r.ao x.2.2.2.2.2.2.2.2.2.2.2.2.2) (fun (x:(OA)×Nat×(OA)×Nat×(List RA)×(OA)×Nat×(OA)×Nat×(OA)×Nat×(OA)×Nat×(List cG))=>[(own x.1 x.2.1 114 9 (r.an.aL.map ak.cells)),(own x.2.2.1 x.2.2.2.1 119 2 (List.zipWith aq.cells r.an.ah x.2.2.2.2.1)),(bB (aU aq.owns r.an.ah x.2.2.2.2.1)),(own x.2.2.2.2.2.1 x.2.2.2.2.2.2.1 121 4 (r.an.ae.map bG.cells)),(own x.2.2.2.2.2.2.2.1 x.2.2.2.2.2.2.2.2.1 3 1 (r.aK.map iC)),(own x.2.2.2.2.2.2.2.2.2.1 x.2.2.2.2.2.2.2.2.2.2.1 3 1 (r.bL.map iC)),(own x.2.2.2.2.2.2.2.2.2.2.2.1 x.2.2.2.2.2.2.2.2.2.2.2.2.1 46 1 (List.zipWith ct r.ao x.2.2.2.2.2.2.2.2.2.2.2.2.2)),(bB (aU iD r.ao x.2.2.2.2.2.2.2.2.2.2.2.2.2))]):=by
 have p:=hin.line
 have IR:=hin.iv
 have G:=hin.has
 have Hj:=hin.iA
 have Go:=hin.draw
 have H1:=dB (r:=r)
 have Cp:=uC hng
 refine dp kr Tryz.func26 U U fun w0 Q hQ hN=>?_
 try dsimp only
 refine WS fun _ EQ=>fK U fun b2=>AL U wj fun b3=>RK EQ<|WS fun _ Eq=>rP 1 [] mn ?_
 refine rS (LP (bV.cells (lq r.an kA kC cA cC bA bC)) 1 U cb U U U)<|cX (N5 r.an kA kC az cA cC bA bC (by exact p) (by exact Cp.1)) (bk [2,3,4,5]) U fun y5 GT=>?_
 obtain ⟨T,V,AA,L,s,K,N⟩:=y5
 try dsimp only
 obtain ⟨FS,Fd⟩:=GT
 refine bo 1 U<|Wm (cr.cells (cr.mk (bV.mk (bw.mk (bq.mk T r.an.aL.length V)) r.an.f_ (bq.mk AA r.an.ah.length L) (bq.mk K r.an.ae.length N) r.an.cq r.an.dM r.an.cD) (bq.mk slA r.aK.length slC) (bq.mk drA r.bL.length drC) r.gZ (bq.mk heA r.ao.length heC))) U Rr U U<|RK Eq<|WS fun _ v=>lW U cN U fun C1=>rP 2 [] (mc 6 U mn) ?_
 refine db (es:=(List.map iC [])) (C':=[own (some ⟨C1,0,none⟩) 0 3 1 (List.map iC []),_,_,_,_,_,_,_,_,_,_,_,_,_,_]) 0 U sm U (by simp [maxLen]) U ?_
 refine cO (es2:=(List.map iC r.aK)) (m':=r.aK.length) 0 U U U pq U U sm (aB 11 U) (jP _) (by simp; omega) (by simp only [maxLen]; simp; omega) sm sm U fun X Y=>?_
 try dsimp only
 refine bo 1 U<|UN (cr.cells (cr.mk (bV.mk (bw.mk (bq.mk T r.an.aL.length V)) r.an.f_ (bq.mk AA r.an.ah.length L) (bq.mk K r.an.ae.length N) r.an.cq r.an.dM r.an.cD) (bq.mk X r.aK.length Y) (bq.mk drA r.bL.length drC) r.gZ (bq.mk heA r.ao.length heC))) U xn U U<|RK v<|WS fun _ w=>lW U cN U fun C2=>rP 2 [] (mc 7 U mn) ?_
 refine db (es:=(List.map iC [])) (C':=[own (some ⟨C2,0,none⟩) 0 3 1 (List.map iC []),_,_,_,_,_,_,_,_,_,_,_,_,_,_,_]) 0 U sm U (by simp [maxLen]) U ?_
 refine cO (es2:=(List.map iC r.bL)) (m':=r.bL.length) 0 U U U pq U U sm (aB 13 U) (jP _) (by simp; omega) (by simp only [maxLen]; simp; omega) sm sm U fun g j=>?_
 try dsimp only
 refine bo 1 U<|Wi (cr.cells (cr.mk (bV.mk (bw.mk (bq.mk T r.an.aL.length V)) r.an.f_ (bq.mk AA r.an.ah.length L) (bq.mk K r.an.ae.length N) r.an.cq r.an.dM r.an.cD) (bq.mk X r.aK.length Y) (bq.mk g r.bL.length j) r.gZ (bq.mk heA r.ao.length heC))) U xn U U<|RK w<|WS fun _ AC=>lW U lu U fun C3=>rP 2 [] (mc 8 U mn) ?_
 refine db (es:=(List.map sC [])) (C':=[own (some ⟨C3,0,none⟩) 0 46 1 (List.map sC []),_,_,_,_,_,_,_,_,_,_,_,_,_,_,_,_]) 0 U sm U (by simp [maxLen]) U ?_
 refine cO (es2:=(List.zipWith ct r.ao ha)) (m':=r.ao.length) 0 U U U S3 U U sm (aB 15 U) (Ac _ _) (by simp; omega) (by simp only [maxLen]; simp; omega) sm (de G) U fun J M=>?_
 try dsimp only
 refine bo 1 U<|Wj (cr.cells (cr.mk (bV.mk (bw.mk (bq.mk T r.an.aL.length V)) r.an.f_ (bq.mk AA r.an.ah.length L) (bq.mk K r.an.ae.length N) r.an.cq r.an.dM r.an.cD) (bq.mk X r.aK.length Y) (bq.mk g r.bL.length j) r.gZ (bq.mk J r.ao.length M))) U T3 U U<|RK AC<|aj fun _ AO=>WS fun _ An=>rP 1 [] mn ?_
 refine RK An<|ay<|lY ?_
 have F:(0≤r.ao.length)∧(([]:List cG).length=0)∧(∀ (k:Nat) y (a:cG),r.ao[k]? =some y→([]:List cG)[k]? =some a→a.2.length=y.length):=by exact ⟨Nat.zero_le _,rfl,fun k y a _ q=>by simp at q⟩
 refine bK (ι:={z:Nat×(List cG) // (z.1≤r.ao.length)∧(z.2.length=z.1)∧(∀ (k:Nat) y (a:cG),r.ao[k]? =some y→z.2[k]? =some a→a.2.length=y.length)}) [1,2] [2,3,4,5,6,7,8,9,10,11,12,13,14,15,16,17] U U (fun z=>[(3,(vI (z.1.1:Int)))]) (fun z=>[(bB (aU iD (r.ao.take z.1.1) z.1.2)),(own J M 46 1 (List.zipWith ct r.ao (ja z.1.2 ha z.1.1)))]) (fun _=>rfl) (fun _=>rfl) (fun z=>r.ao.length-z.1.1) ⟨(0,([]:List cG)),F⟩ (aT U) (aI [2,3,4,5,6,7,8,9,10,11,12,13,14,15,16,17,0,1]) ?_
 clear F
 rintro ⟨⟨h,hz⟩,⟨m,B,S⟩⟩ J28 t
 try dsimp only at m B S
 try dsimp only
 refine aj fun _ Av=>WS fun _ A0=>rP 5 [] (mc 7 U mn) ?_
 refine RK A0<|bO U (aO fun Di=>?_) (aP fun Di=>?_)
 ·refine bD<|ab<|ab<|aA<|KK AO<|aj fun _ A7=>?_
  have Fn:su r.ao hz:=⟨I,S⟩
  rw [show (ja hz ha h)=hz from rn I,show r.ao.take h=r.ao from List.take_of_length_le I]
  refine al<|rP 1 [] (mc 7 U mn) ?_
  refine Nd U qB U<|RK A7<|ar ?_
  refine LX hQ (T,V,AA,L,s,K,N,X,Y,g,j,J,M,hz) [2,3,4,5,1,0,17,16] [0] (mc 6 U mn) U (by show List.all _ _=true; simp only [fz,List.all_nil,fQ,j8,Bool.and_true]; rfl) U U ?_
  exact ⟨⟨FS,Fd⟩,Fn⟩
 refine WK Av<|aj fun _ A1=>ay<|aj fun _ A2=>dJ cv [3,9,11] [6,7,8] [0,1] [0,1,2,3,4,5,6,7,8,9,10,11,12,13,14,15,16] [0,1,2,3,4,5,6,7,8,9,10,11,12,13,14,15,16,17] U U U U U<|eS U (FA 10 U fw U)<|eS U (L1 (vS J r.ao.length M) 7 U cb U U)<|eS U (MV U)<|eS U (FA 10 U fw U)<|eS U (L1 (vS J r.ao.length M) 7 U cb U U)<|eS U (MV U) ?_
 obtain ⟨ht,AB⟩:=aH r.ao h I
 obtain ⟨C,O⟩:=aH ha h I
 have e:(List.zipWith ct r.ao (ja hz ha h))[h]? =some (ct ht C):=cT AB (uy B O)
 have Cx:=hin.kb _ _ _ AB O
 have H:=Cx.mW
 have C0:=Cp.2.2.2.2 ht (aS AB)
 refine fS U (IA h U (ag (n:=r.ao.length) 17 U (de (by rw [eK B I]; exact G))) lu dc I I) ?_
 refine fS U (fX h 0 (vS C.1.1 ht.length C.1.2) U cb (ag (n:=r.ao.length) 17 U (de (by rw [eK B I]; exact G))) e U dc U) ?_
 refine fS U (IA h U (ag (n:=r.ao.length) 17 U (de (by rw [eK B I]; exact G))) lu dc I I) ?_
 refine eT U<|gP U fun T34 A8=>lW U pN U fun DV=>aD (A8 _ _ (aI [1,2,3,4,5,6,7,8,9,10,11,12,13,14,15,16,17]) (aI [1,2,3,4,5,6,7,8,9,10,11,12,13,14,15,16,17,18]) ?_)
 refine gP U fun T36 A9=>db (es:=(List.map bg.cells [])) (C':=[own (some ⟨DV,0,none⟩) 0 45 7 (List.map bg.cells []),_,_,_,_,_,_,_,_,_,_,_,_,_,_,_,_,_,_]) 0 U sm U (by simp [maxLen]) U ?_
 refine cO (es2:=(List.zipWith au.cells ht C.2)) (m':=ht.length) 0 U U U S7 U U sm (show g9 _ (rd C.1.1 ht.length 7 (List.zipWith au.cells ht C.2)).holds from (cw 16 U (bH AB O bZ))) (GW _ _) (by simp; omega) (by simp only [maxLen]; simp; omega) sm (jG H) U fun D E=>?_
 try dsimp only
 refine aD (A9 _ _ (aI [1,2,3,4,5,6,7,8,9,10,11,12,13,14,15,16,17]) (aI [1,2,3,4,5,6,7,8,9,10,11,12,13,14,15,16,17,18]) ?_)
 refine cp U fun T39 BX=>dI (k:=h) (o:=0) (vs:=[(vS D ht.length E)]) (es':=(List.zipWith ct r.ao (ja (hz++[((D,E),C.2)]) ha (h+1)))) (C':=[_,_,_,_,_,_,_,_,_,_,_,_,_,_,_,_,_,_,(own J M 46 1 (List.zipWith ct r.ao (ja (hz++[((D,E),C.2)]) ha (h+1))))]) 18 U U U Uv U U U U e U dc (by exact qO (b:=((D,E),C.2)) AB B O) U<|aD (BX _ _ (aI [1,2,3,4,5,6,7,8,9,10,11,12,13,14,15,16,17]) ?_)
 refine fO U<|KK A2<|WS fun _ A3=>rP 1 [] mn ?_
 refine RK A3<|ay<|lY ?_
 have F:(0≤ht.length)∧(([]:List RA).length=0):=by exact ⟨Nat.zero_le _,rfl⟩
 refine bK (ι:={z:Nat×(List RA) // (z.1≤ht.length)∧(z.2.length=z.1)}) [1,2,3] [2,3,4,5,6,7,8,9,10,11,12,13,14,15,16,17,18,19] U U (fun z=>[(4,(vI (z.1.1:Int)))]) (fun z=>[(bB (aU nz (ht.take z.1.1) z.1.2)),(own D E 45 7 (List.zipWith au.cells ht (ja z.1.2 C.2 z.1.1)))]) (fun _=>rfl) (fun _=>rfl) (fun z=>ht.length-z.1.1) ⟨(0,([]:List RA)),F⟩ (aT U) (aI [2,3,4,5,6,7,8,9,10,11,12,13,14,15,16,17,18,19,0,1]) ?_
 clear F
 rintro ⟨⟨i,dz⟩,⟨Z,A⟩⟩ J41 u
 try dsimp only at Z A
 try dsimp only
 refine aj fun _ A4=>WS fun _ A5=>rP 4 [] (mc 7 U mn) ?_
 have W:(List.zipWith ct r.ao (ja (hz++[((D,E),C.2)]) ha (h+1)))[h]? =some (ct ht ((D,E),C.2)):=cT AB (Cg B)
 refine rS (IA h U (ag (n:=r.ao.length) 17 U (de (by rw [eK (by simp; omega) I]; exact G))) lu dc I I) ?_
 refine rS (fX h 0 (vS D ht.length E) U cb (ag (n:=r.ao.length) 17 U (de (by rw [eK (by simp; omega) I]; exact G))) W U dc U) ?_
 refine rP 2 [] mn ?_
 refine RK A5<|bO U (aO fun Do=>?_) (aP fun Do=>?_)
 ·refine bD<|ab<|ab<|aA<|aG<|KK A1<|al<|rP 3 [] mn ?_
  refine aD ?_
  have G1:dz.length=ht.length:=by omega
  rw [show (ja dz C.2 i)=dz from rn I,show ht.take i=ht from List.take_of_length_le I]
  refine LG (Z':=aU iD (r.ao.take (h+1)) (hz++[((D,E),dz)])) 16 18 19 U U (nP (f:=iD) (b:=((D,E),dz)) AB B) ?_
  rw [Cz (y:=dz)]
  have Ci:(vI (((h+1):Nat):Int))=(vI ((h:Int)+1)):=by exact cI I
  refine aR (t ⟨((h+1),(hz++[((D,E),dz)])),⟨I,by simp; omega,Gt AB S B dso⟩⟩ _ _ _ U os (dj.cons U<|dj.cons U<|aY U Ci<|dj.nil _) (aI [1,2,3,4,5,6,7,8,9,10,11,12,13,14,15,16,0,17]))
 refine WK A4<|aj fun _ A6=>ay<|dJ cv [15,18] [12,13,14,15,16] [0] [0,1,2,3,4,5,6,7,8,9,10,11,12,13,14,15,16,17,18] [0,1,2,3,4,5,6,7,8,9,10,11,12,13,14,15,16,17,18,19] U U U U U<|eS U (FA 10 U fw U)<|eS U (L1 (vS J r.ao.length M) 7 U cb U U)<|eS U (MV U) ?_
 refine eS U (IA h U (ag (n:=r.ao.length) 17 U (de (by rw [eK (by simp; omega) I]; exact G))) lu dc I I) ?_
 refine eS U (fX h 0 (vS D ht.length E) U cb (ag (n:=r.ao.length) 17 U (de (by rw [eK (by simp; omega) I]; exact G))) W U dc U) ?_
 refine eS U (MV U)<|eS U (FA 10 U fw U)<|eS U (L1 (vS J r.ao.length M) 7 U cb U U)<|eS U (MV U) ?_
 refine eS U (IA h U (ag (n:=r.ao.length) 17 U (de (by rw [eK (by simp; omega) I]; exact G))) lu dc I I) ?_
 refine eS U (fX h 0 (vS D ht.length E) U cb (ag (n:=r.ao.length) 17 U (de (by rw [eK (by simp; omega) I]; exact G))) W U dc U) ?_
 refine eS U (MV U) ?_
 obtain ⟨d,hd⟩:=aH ht i I
 obtain ⟨da,l⟩:=aH C.2 i I
 have Ck:(List.zipWith au.cells ht (ja dz C.2 i))[i]? =some (au.cells d da):=cT hd (uy A l)
 have GE:=Cx.sig d (aS hd)
 have Hi:=C0.2 d (aS hd)
 refine fS U (IA i U (ag (n:=ht.length) 19 U (jG (by rw [eK A I]; exact H))) pN dc I I) ?_
 refine fS U (mV ((i*7)+4) U (ag (n:=ht.length) 19 U (jG (by rw [eK A I]; exact H))) (Nat.mul_pos I dc) fw U) ?_
 refine fS U (lS i 4 (dL.cells (dL.mk d.b_.Start d.b_.fZ (bq.mk da.1 d.b_.ai.length da.2))) U cb (ag (n:=ht.length) 19 U (jG (by rw [eK A I]; exact H))) Ck U dc U U) ?_
 refine fS U (IA i U (ag (n:=ht.length) 19 U (jG (by rw [eK A I]; exact H))) pN dc I I) ?_
 refine fS U (mV ((i*7)+4) U (ag (n:=ht.length) 19 U (jG (by rw [eK A I]; exact H))) (Nat.mul_pos I dc) fw U) ?_
 refine eT U<|gP U fun T46 B3=>cX (NP d.b_ da.1 da.2 (by exact GE)) (av (show g9 _ (rd da.1 d.b_.ai.length 2 (d.b_.ai.map aJ.cells)).holds from (cw 15 U (bH AB O (c_ _ (bH hd l (by simp [au.gE]))))))<|aM) U fun Ge IO=>?_
 obtain ⟨P,R⟩:=Ge
 try dsimp only
 refine aD (B3 _ _ (aI [1,2,3,4,5,6,7,8,9,10,11,12,13,14,15,16,17,18,19]) (aI [1,2,3,4,5,6,7,8,9,10,11,12,13,14,15,16,17,18,19,20]) ?_)
 refine cp U fun T51 B7=>dI (k:=i) (o:=4) (vs:=(dL.cells (lV d.b_ P R))) (es':=(List.zipWith au.cells ht (ja (dz++[(P,R)]) C.2 (i+1)))) (C':=[_,_,_,_,_,_,_,_,_,_,_,_,_,_,_,_,_,_,_,_,(own D E 45 7 (List.zipWith au.cells ht (ja (dz++[(P,R)]) C.2 (i+1))))]) 20 U U U Qh U U U U Ck U dc (by exact qO (c:=au.cells) (b:=(P,R)) hd A l) U<|aD (B7 _ _ (aI [1,2,3,4,5,6,7,8,9,10,11,12,13,14,15,16,17,18,19]) ?_)
 refine fO U<|aG<|KK A6<|al<|rP 3 [] mn ?_
 refine aD<|Fu (Y':=aU nz (ht.take (i+1)) (dz++[(P,R)])) 19 0 U U (nP (f:=nz) (b:=(P,R)) hd A) ?_
 have B9:(vI (((i+1):Nat):Int))=(vI ((i:Int)+1)):=by exact cI I
 refine aR (u ⟨((i+1),(dz++[(P,R)])),⟨I,by simp; omega⟩⟩ _ _ _ U os (cR 3<|aY U B9<|dj.nil _) (aI [1,2,3,4,5,6,7,8,9,10,11,12,13,14,15,16,17,18,0,19]))
end
section
open Go.RowKit
theorem N6 (l:bf) (kA:OA) (kC:Nat) (az:List RA) (cA:OA) (cC:Nat) (bA:OA) (bC:Nat) (m:bf) (k2A:OA) (k2C:Nat) (az2:List RA) (c2A:OA) (c2C:Nat) (b2A:OA) (b2C:Nat) (hin:ep l az) (hin2:ep m az2) (hsm: ¬ k8 l) (hsm2: ¬ k8 m):
 er Tryz.prog 56 [(vA (bV.cells (lq l kA kC cA cC bA bC))),(vA (bV.cells (bV.mk (bw.mk (bq.mk k2A m.aL.length k2C)) m.f_ (bq.mk c2A m.ah.length c2C) (bq.mk b2A m.ae.length b2C) m.cq m.dM m.cD)))] [(rd kA l.aL.length 9 (l.aL.map ak.cells)),(rd cA l.ah.length 2 (List.zipWith aq.cells l.ah az)),(eX (aU aq.gE l.ah az)),(rd bA l.ae.length 4 (l.ae.map bG.cells)),(rd k2A m.aL.length 9 (m.aL.map ak.cells)),(rd c2A m.ah.length 2 (List.zipWith aq.cells m.ah az2)),(eX (aU aq.gE m.ah az2)),(rd b2A m.ae.length 4 (m.ae.map bG.cells))] (vB (decide (l=m))):=by
 have J3:=hin.sx
 have J2:=hin.sG
 have JR:=hin.mW
 have Jm:=hin.sk
 have Id:=hin2.sx
 have IR:=hin2.sG
 have H1:=hin2.mW
 have IO:=hin2.sk
 have B7:=tU hsm
 have h:=tU hsm2
 refine bI kr Tryz.func56 U U fun w0 Q hQ hN=>?_
 try dsimp only
 refine WS fun _ Do=>fK U fun b2=>fK U fun b3=>bo 1 U<|RK Do<|aj fun _ EQ=>WS fun _ AB=>bo 1 U<|rS (LP (bw.cells (bw.mk (bq.mk kA l.aL.length kC))) 1 U cb U U U)<|rP 1 [] mn ?_
 refine rS (LP (bw.cells (bw.mk (bq.mk k2A m.aL.length k2C))) 0 U cb U U U) ?_
 refine rS (CL (Qx l.aL kA kC m.aL k2A k2C sd sd) (bk [2,6]) U) ?_
 refine rP 2 [] mn ?_
 refine cH (t:=16) U (aZ fun C=>?_) (a_ fun C=>?_)
 ·refine bo 45 U<|RK AB<|aN U<|WS fun _ Eq=>rP 1 [] mn ?_
  refine RK Eq<|ar<|Q1 hQ U U U ?_
  first|exact cB (bx (fun e=>by subst e; first|exact C rfl|omega)).symm|exact cB (bx (fun e=>by subst e; rw [hp] at hq; cases hq; exact E rfl)).symm|exact cB (bx (fun e=>by subst e; rw [hx] at hy; cases hy; first|(rw [hz] at hu; cases hu; exact D rfl)|omega)).symm|exact cB (dK (gU C I I I I (cx I B I) (cx I A I))).symm
 refine rP 7 [0,1] (mc 1 U (mc 0 U mn)) ?_
 refine cH (t:=23) U (aZ fun Cx=>?_) (a_ fun Cx=>?_)
 ·refine bo 38 U<|RK AB<|aN U<|WS fun _ FS=>rP 1 [] mn ?_
  refine RK FS<|ar<|Q1 hQ U U U ?_
  first|exact cB (bx (fun e=>by subst e; first|exact C rfl|omega)).symm|exact cB (bx (fun e=>by subst e; rw [hp] at hq; cases hq; exact E rfl)).symm|exact cB (bx (fun e=>by subst e; rw [hx] at hy; cases hy; first|(rw [hz] at hu; cases hu; exact D rfl)|omega)).symm|exact cB (dK (gU C I I I I (cx I B I) (cx I A I))).symm
 refine rP 7 [0,1] (mc 1 U (mc 0 U mn)) ?_
 refine cH (t:=30) U (aZ fun C0=>?_) (a_ fun C0=>?_)
 ·refine bo 31 U<|RK AB<|aN U<|WS fun _ Fd=>rP 1 [] mn ?_
  refine RK Fd<|ar<|Q1 hQ U U U ?_
  first|exact cB (bx (fun e=>by subst e; first|exact C rfl|omega)).symm|exact cB (bx (fun e=>by subst e; rw [hp] at hq; cases hq; exact E rfl)).symm|exact cB (bx (fun e=>by subst e; rw [hx] at hy; cases hy; first|(rw [hz] at hu; cases hu; exact D rfl)|omega)).symm|exact cB (dK (gU C I I I I (cx I B I) (cx I A I))).symm
 refine rP 7 [0,1] (mc 1 U (mc 0 U mn)) ?_
 refine cH (t:=37) U (aZ fun C1=>?_) (a_ fun C1=>?_)
 ·refine bo 24 U<|RK AB<|aN U<|WS fun _ Fn=>rP 1 [] mn ?_
  refine RK Fn<|ar<|Q1 hQ U U U ?_
  first|exact cB (bx (fun e=>by subst e; first|exact C rfl|omega)).symm|exact cB (bx (fun e=>by subst e; rw [hp] at hq; cases hq; exact E rfl)).symm|exact cB (bx (fun e=>by subst e; rw [hx] at hy; cases hy; first|(rw [hz] at hu; cases hu; exact D rfl)|omega)).symm|exact cB (dK (gU C I I I I (cx I B I) (cx I A I))).symm
 refine rP 7 [0,1] (mc 1 U (mc 0 U mn)) ?_
 refine cH (t:=44) U (aZ fun C2=>?_) (a_ fun C2=>?_)
 ·refine bo 17 U<|RK AB<|aN U<|WS fun _ AC=>rP 1 [] mn ?_
  refine RK AC<|ar<|Q1 hQ U U U ?_
  first|exact cB (bx (fun e=>by subst e; first|exact C rfl|omega)).symm|exact cB (bx (fun e=>by subst e; rw [hp] at hq; cases hq; exact E rfl)).symm|exact cB (bx (fun e=>by subst e; rw [hx] at hy; cases hy; first|(rw [hz] at hu; cases hu; exact D rfl)|omega)).symm|exact cB (dK (gU C I I I I (cx I B I) (cx I A I))).symm
 refine rP 9 [0,1] (mc 1 U (mc 0 U mn)) ?_
 refine cH (t:=53) U (aZ fun DV=>?_) (a_ fun DV=>?_)
 ·refine bo 8 U<|RK AB<|aN U<|WS fun _ AO=>rP 1 [] mn ?_
  refine RK AO<|ar<|Q1 hQ U U U ?_
  first|exact cB (bx (fun e=>by subst e; first|exact C rfl|omega)).symm|exact cB (bx (fun e=>by subst e; rw [hp] at hq; cases hq; exact E rfl)).symm|exact cB (bx (fun e=>by subst e; rw [hx] at hy; cases hy; first|(rw [hz] at hu; cases hu; exact D rfl)|omega)).symm|exact cB (dK (gU C I I I I (cx I B I) (cx I A I))).symm
 refine rP 8 [0,1] (mc 1 U (mc 0 U mn)) ?_
 refine RK AB<|cE U (aZ fun Di=>?_) (a_ fun Di=>?_)
 ·refine WS fun _ An=>rP 1 [] mn ?_
  refine RK An<|ar<|Q1 hQ U U U ?_
  first|exact cB (bx (fun e=>by subst e; first|exact C rfl|omega)).symm|exact cB (bx (fun e=>by subst e; rw [hp] at hq; cases hq; exact E rfl)).symm|exact cB (bx (fun e=>by subst e; rw [hx] at hy; cases hy; first|(rw [hz] at hu; cases hu; exact D rfl)|omega)).symm|exact cB (dK (gU C I I I I (cx I B I) (cx I A I))).symm
 refine WK EQ<|aj fun _ Av=>WS fun _ A0=>rP 1 [] mn ?_
 refine RK A0<|ay ?_
 have F:(0≤l.ah.length)∧(l.ah.take 0=m.ah.take 0):=by simp
 refine bK (ι:={z:Nat // (z≤l.ah.length)∧(l.ah.take z=m.ah.take z)}) [2,3] [0,1,2,3,4,5,6,7,8,9] U U (fun z=>[(5,(vI (z.1:Int)))]) (fun z=>[]) (fun _=>rfl) (fun _=>rfl) (fun z=>l.ah.length-z.1) ⟨0,F⟩ (aT U) (aI [0,1,2,3,4,5,6,7,8,9]) ?_
 clear F
 rintro ⟨i,⟨GE,B⟩⟩ J15 d
 try dsimp only
 refine aj fun _ A1=>WS fun _ A2=>rP 5 [] (mc 1 U mn) ?_
 refine RK A2<|bO U (aO fun Cp=>?_) (aP fun Cp=>?_)
 ·refine bD<|ab<|ab<|aA<|KK Av<|aj fun _ A3=>WS fun _ A4=>rP 1 [] mn ?_
  refine RK A4<|ay ?_
  have F:(0≤l.ae.length)∧(l.ae.take 0=m.ae.take 0):=by simp
  refine bK (ι:={z:Nat // (z≤l.ae.length)∧(l.ae.take z=m.ae.take z)}) [2,3] [0,1,2,3,4,5,6,7,8,9] U U (fun z=>[(9,(vI (z.1:Int)))]) (fun z=>[]) (fun _=>rfl) (fun _=>rfl) (fun z=>l.ae.length-z.1) ⟨0,F⟩ (aT U) (aI [0,1,2,3,4,5,6,7,8,9]) ?_
  clear F
  rintro ⟨n,⟨B9,A⟩⟩ J43 w
  try dsimp only
  refine aj fun _ A5=>WS fun _ A6=>rP 5 [] (mc 1 U mn) ?_
  refine RK A6<|bO U (aO fun C3=>?_) (aP fun C3=>?_)
  ·refine bD<|ab<|ab<|aA<|KK A3<|WS fun _ BX=>rP 1 [] mn ?_
   refine RK BX<|ar<|Q1 hQ U U U ?_
   first|exact cB (bx (fun e=>by subst e; first|exact C rfl|omega)).symm|exact cB (bx (fun e=>by subst e; rw [hp] at hq; cases hq; exact E rfl)).symm|exact cB (bx (fun e=>by subst e; rw [hx] at hy; cases hy; first|(rw [hz] at hu; cases hu; exact D rfl)|omega)).symm|exact cB (dK (gU C I I I I (cx I B I) (cx I A I))).symm
  refine WK A5<|aj fun _ A7=>ay<|aj fun _ A8=>dg cv 11 kr<|dP 3 [] (mc 1 U mn) ?_
  obtain ⟨p,hp⟩:=aH l.ae n I
  have GT:=bJ bG.cells hp
  refine dS (IA n U (aB 5 U) th dc I I)<|dS (lS n 0 (bG.cells p) U cb (aB 5 U) GT U dc U U)<|dP 3 [] (mc 0 U mn) ?_
  obtain ⟨q,hq⟩:=aH m.ae n I
  have Ge:=bJ bG.cells hq
  refine dS (IA n U (aB 9 U) th dc I I)<|dS (lS n 0 (bG.cells q) U cb (aB 9 U) Ge U dc U U)<|dS (BI U (Rq _ _ p q))<|cM<|RK A8<|bO U (a_ fun E=>?_) (aZ fun E=>?_)
  ·refine ck<|aG<|KK A7<|al<|rP 3 [] mn ?_
   refine aD ?_
   have B3:(vI (((n+1):Nat):Int))=(vI ((n:Int)+1)):=by exact cI I
   refine aR (w ⟨(n+1),⟨I,iQ A hp hq E⟩⟩ _ _ _ U os (dj.cons U<|dj.cons U<|aY U B3<|dj.nil _) (aI [0,1,2,3,4,5,6,7,8,9]))
  refine WS fun _ A9=>rP 1 [] mn ?_
  refine RK A9<|ar<|Q1 hQ U U U ?_
  first|exact cB (bx (fun e=>by subst e; first|exact C rfl|omega)).symm|exact cB (bx (fun e=>by subst e; rw [hp] at hq; cases hq; exact E rfl)).symm|exact cB (bx (fun e=>by subst e; rw [hx] at hy; cases hy; first|(rw [hz] at hu; cases hu; exact D rfl)|omega)).symm|exact cB (dK (gU C I I I I (cx I B I) (cx I A I))).symm
 refine WK A1<|aj fun _ f=>ay<|aj fun _ g=>ow cv [0,1,2,3,4,5,6,7,8,9] [10,11,12,13] [false,false,false,false,false,false,false,false,false,false] [] [(cm b3 31 (bV.cells (bV.mk (bw.mk (bq.mk k2A m.aL.length k2C)) m.f_ (bq.mk c2A m.ah.length c2C) (bq.mk b2A m.ae.length b2C) m.cq m.dM m.cD))),(cm b2 31 (bV.cells (lq l kA kC cA cC bA bC))),(rd kA l.aL.length 9 (l.aL.map ak.cells)).ro,(rd cA l.ah.length 2 (List.zipWith aq.cells l.ah az)).ro,(eX (aU aq.gE l.ah az)).ro,(rd bA l.ae.length 4 (l.ae.map bG.cells)).ro,(rd k2A m.aL.length 9 (m.aL.map ak.cells)).ro,(rd c2A m.ah.length 2 (List.zipWith aq.cells m.ah az2)).ro,(eX (aU aq.gE m.ah az2)).ro,(rd b2A m.ae.length 4 (m.ae.map bG.cells)).ro] [] kr (aI [0,1,2,3,4,5,6,7,8,9]) (aI [])<|eS U (FA 2 U fw U)<|eS U (L1 (vS cA l.ah.length cC) 1 U cb U U)<|eS U (MV U) ?_
 obtain ⟨x,hx⟩:=aH l.ah i I
 obtain ⟨xa,a⟩:=aH az i I
 have G1:(List.zipWith aq.cells l.ah az)[i]? =some (aq.cells x xa):=cT hx a
 refine eS U (IA i U (aB 3 U) uB dc I I)<|eS U (lS i 0 (dh.cells (dh.mk x.dv (bq.mk xa.1 x.aV.length xa.2))) U cb (aB 3 U) G1 U dc U U)<|eS U (FA 2 U fw U)<|eS U (L1 (vS c2A m.ah.length c2C) 0 U cb U U)<|eS U (MV U) ?_
 obtain ⟨y,hy⟩:=aH m.ah i I
 obtain ⟨ya,b⟩:=aH az2 i I
 have Hj:(List.zipWith aq.cells m.ah az2)[i]? =some (aq.cells y ya):=cT hy b
 refine eS U (IA i U (aB 7 U) uB dc I I)<|eS U (lS i 0 (dh.cells (dh.mk y.dv (bq.mk ya.1 y.aV.length ya.2))) U cb (aB 7 U) Hj U dc U U)<|eT U<|iJ [10,11] kr (ek ?_<|ek ?_<|j_)
 rotate_left 1
 ·refine NO U U [10,12,13] fun T21 AA=>AL U xU fun Ci=>RD AA 1 U<|N1 10<|NO U U [12,13] fun T23 V=>AL U xU fun Ck=>RD V 2 U<|N1 12<|NO U U [13] fun T25 W=>fW U zo U<|RD W 2 U<|N1 13<|NO U U [] fun T26 X=>sj U zo U<|RD X 2 U<|od<|KK g<|aj fun _ K=>WS fun _ H=>rP 6 [0,1] (mc 0 U (mc 1 U mn)) ?_
  refine cH (t:=84) U (aZ fun o=>?_) (a_ fun o=>?_)
  ·refine bo 8 U<|RK H<|aN U<|WS fun _ L=>rP 1 [] mn ?_
   refine RK L<|ar<|Q1 hQ U U U ?_
   first|exact cB (bx (fun e=>by subst e; first|exact C rfl|omega)).symm|exact cB (bx (fun e=>by subst e; rw [hp] at hq; cases hq; exact E rfl)).symm|exact cB (bx (fun e=>by subst e; rw [hx] at hy; cases hy; first|(rw [hz] at hu; cases hu; exact D rfl)|omega)).symm|exact cB (dK (gU C I I I I (cx I B I) (cx I A I))).symm
  refine rP 8 [0,1] (mc 0 U (mc 1 U mn)) ?_
  refine RK H<|cE U (aZ fun r=>?_) (a_ fun r=>?_)
  ·refine WS fun _ M=>rP 1 [] mn ?_
   refine RK M<|ar<|Q1 hQ U U U ?_
   first|exact cB (bx (fun e=>by subst e; first|exact C rfl|omega)).symm|exact cB (bx (fun e=>by subst e; rw [hp] at hq; cases hq; exact E rfl)).symm|exact cB (bx (fun e=>by subst e; rw [hx] at hy; cases hy; first|(rw [hz] at hu; cases hu; exact D rfl)|omega)).symm|exact cB (dK (gU C I I I I (cx I B I) (cx I A I))).symm
  refine WK K<|WS fun _ N=>rP 1 [] mn ?_
  refine RK N<|ay ?_
  have F:(0≤x.aV.length)∧(x.aV.take 0=y.aV.take 0):=by simp
  refine bK (ι:={z:Nat // (z≤x.aV.length)∧(x.aV.take z=y.aV.take z)}) [2,3,5,6,7] [0,1,2,3,4,5,6,7,8,9,10,11] U U (fun z=>[(8,(vI (z.1:Int)))]) (fun z=>[]) (fun _=>rfl) (fun _=>rfl) (fun z=>x.aV.length-z.1) ⟨0,F⟩ (aT U) (aI [0,1,2,3,4,5,6,7,8,9,10,11]) ?_
  clear F
  rintro ⟨k,⟨c,G⟩⟩ J32 J
  try dsimp only
  have Go:=B7.2.2.2 x (aS hx)
  have Hi:=h.2.2.2 y (aS hy)
  refine aj fun _ O=>WS fun _ P=>rP 5 [] (mc 0 U mn) ?_
  refine RK P<|bO U (aO fun j=>?_) (aP fun j=>?_)
  ·refine bD<|ab<|ab<|aA<|aG<|KK f<|al<|rP 3 [] mn ?_
   refine aD ?_
   have Z:(vI (((i+1):Nat):Int))=(vI ((i:Int)+1)):=by exact cI I
   refine aR (d ⟨(i+1),⟨I,iQ B hx hy (w6 I I I G)⟩⟩ _ _ _ U os (dj.cons U<|dj.cons U<|aY U Z<|dj.nil _) (aI [2,3,4,5,6,7,8,9,10,11]))
  refine WK O<|aj fun _ R=>ay<|aj fun _ S=>dg cv 11 kr<|dP 3 [] (mc 0 U mn) ?_
  obtain ⟨z,hz⟩:=aH x.aV k I
  have v:=bJ cd.cells hz
  refine dS (IA k U (show g9 _ (rd xa.1 x.aV.length 3 (x.aV.map cd.cells)).holds from (cw 6 U (bH hx a (by simp [aq.gE])))) m8 dc I I)<|dS (lS k 0 (cd.cells z) U cb (show g9 _ (rd xa.1 x.aV.length 3 (x.aV.map cd.cells)).holds from (cw 6 U (bH hx a (by simp [aq.gE])))) v U dc U U)<|dP 3 [] (mc 1 U mn) ?_
  obtain ⟨u,hu⟩:=aH y.aV k I
  have s:=bJ cd.cells hu
  refine dS (IA k U (show g9 _ (rd ya.1 y.aV.length 3 (y.aV.map cd.cells)).holds from (cw 10 U (bH hy b (by simp [aq.gE])))) m8 dc I I)<|dS (lS k 0 (cd.cells u) U cb (show g9 _ (rd ya.1 y.aV.length 3 (y.aV.map cd.cells)).holds from (cw 10 U (bH hy b (by simp [aq.gE])))) s U dc U U)<|dS (BI U (KZ _ _ z u))<|cM<|RK S<|bO U (a_ fun D=>?_) (aZ fun D=>?_)
  ·refine ck<|aG<|KK R<|al<|rP 3 [] mn ?_
   refine aD ?_
   have Y:(vI (((k+1):Nat):Int))=(vI ((k:Int)+1)):=by exact cI I
   refine aR (J ⟨(k+1),⟨I,iQ G hz hu D⟩⟩ _ _ _ U os (cR 5<|aY U Y<|dj.nil _) (aI [0,1,2,3,4,5,6,7,8,9,10,11]))
  refine WS fun _ T=>rP 1 [] mn ?_
  refine RK T<|ar<|Q1 hQ U U U ?_
  first|exact cB (bx (fun e=>by subst e; first|exact C rfl|omega)).symm|exact cB (bx (fun e=>by subst e; rw [hp] at hq; cases hq; exact E rfl)).symm|exact cB (bx (fun e=>by subst e; rw [hx] at hy; cases hy; first|(rw [hz] at hu; cases hu; exact D rfl)|omega)).symm|exact cB (dK (gU C I I I I (cx I B I) (cx I A I))).symm
 refine NO U U [11,12,13] fun T21 AA=>AL U xU fun Ci=>RD AA 1 U<|N1 11<|NO U U [12,13] fun T23 V=>AL U xU fun Ck=>RD V 2 U<|N1 12<|NO U U [13] fun T25 W=>sj U zo U<|RD W 2 U<|N1 13<|NO U U [] fun T26 X=>fW U zo U<|RD X 2 U<|od<|KK g<|aj fun _ K=>WS fun _ H=>rP 6 [0,1] (mc 1 U (mc 0 U mn)) ?_
 refine cH (t:=84) U (aZ fun o=>?_) (a_ fun o=>?_)
 ·refine bo 8 U<|RK H<|aN U<|WS fun _ L=>rP 1 [] mn ?_
  refine RK L<|ar<|Q1 hQ U U U ?_
  first|exact cB (bx (fun e=>by subst e; first|exact C rfl|omega)).symm|exact cB (bx (fun e=>by subst e; rw [hp] at hq; cases hq; exact E rfl)).symm|exact cB (bx (fun e=>by subst e; rw [hx] at hy; cases hy; first|(rw [hz] at hu; cases hu; exact D rfl)|omega)).symm|exact cB (dK (gU C I I I I (cx I B I) (cx I A I))).symm
 refine rP 8 [0,1] (mc 1 U (mc 0 U mn)) ?_
 refine RK H<|cE U (aZ fun r=>?_) (a_ fun r=>?_)
 ·refine WS fun _ M=>rP 1 [] mn ?_
  refine RK M<|ar<|Q1 hQ U U U ?_
  first|exact cB (bx (fun e=>by subst e; first|exact C rfl|omega)).symm|exact cB (bx (fun e=>by subst e; rw [hp] at hq; cases hq; exact E rfl)).symm|exact cB (bx (fun e=>by subst e; rw [hx] at hy; cases hy; first|(rw [hz] at hu; cases hu; exact D rfl)|omega)).symm|exact cB (dK (gU C I I I I (cx I B I) (cx I A I))).symm
 refine WK K<|WS fun _ N=>rP 1 [] mn ?_
 refine RK N<|ay ?_
 have F:(0≤x.aV.length)∧(x.aV.take 0=y.aV.take 0):=by simp
 refine bK (ι:={z:Nat // (z≤x.aV.length)∧(x.aV.take z=y.aV.take z)}) [2,3,5,6,7] [0,1,2,3,4,5,6,7,8,9,10,11] U U (fun z=>[(8,(vI (z.1:Int)))]) (fun z=>[]) (fun _=>rfl) (fun _=>rfl) (fun z=>x.aV.length-z.1) ⟨0,F⟩ (aT U) (aI [0,1,2,3,4,5,6,7,8,9,10,11]) ?_
 clear F
 rintro ⟨k,⟨c,G⟩⟩ J32 J
 try dsimp only
 have Go:=B7.2.2.2 x (aS hx)
 have Hi:=h.2.2.2 y (aS hy)
 refine aj fun _ O=>WS fun _ P=>rP 5 [] (mc 1 U mn) ?_
 refine RK P<|bO U (aO fun j=>?_) (aP fun j=>?_)
 ·refine bD<|ab<|ab<|aA<|aG<|KK f<|al<|rP 3 [] mn ?_
  refine aD ?_
  have Z:(vI (((i+1):Nat):Int))=(vI ((i:Int)+1)):=by exact cI I
  refine aR (d ⟨(i+1),⟨I,iQ B hx hy (w6 I I I G)⟩⟩ _ _ _ U os (dj.cons U<|dj.cons U<|aY U Z<|dj.nil _) (aI [2,3,4,5,6,7,8,9,10,11]))
 refine WK O<|aj fun _ R=>ay<|aj fun _ S=>dg cv 11 kr<|dP 3 [] (mc 1 U mn) ?_
 obtain ⟨z,hz⟩:=aH x.aV k I
 have v:=bJ cd.cells hz
 refine dS (IA k U (show g9 _ (rd xa.1 x.aV.length 3 (x.aV.map cd.cells)).holds from (cw 6 U (bH hx a (by simp [aq.gE])))) m8 dc I I)<|dS (lS k 0 (cd.cells z) U cb (show g9 _ (rd xa.1 x.aV.length 3 (x.aV.map cd.cells)).holds from (cw 6 U (bH hx a (by simp [aq.gE])))) v U dc U U)<|dP 3 [] (mc 0 U mn) ?_
 obtain ⟨u,hu⟩:=aH y.aV k I
 have s:=bJ cd.cells hu
 refine dS (IA k U (show g9 _ (rd ya.1 y.aV.length 3 (y.aV.map cd.cells)).holds from (cw 10 U (bH hy b (by simp [aq.gE])))) m8 dc I I)<|dS (lS k 0 (cd.cells u) U cb (show g9 _ (rd ya.1 y.aV.length 3 (y.aV.map cd.cells)).holds from (cw 10 U (bH hy b (by simp [aq.gE])))) s U dc U U)<|dS (BI U (KZ _ _ z u))<|cM<|RK S<|bO U (a_ fun D=>?_) (aZ fun D=>?_)
 ·refine ck<|aG<|KK R<|al<|rP 3 [] mn ?_
  refine aD ?_
  have Y:(vI (((k+1):Nat):Int))=(vI ((k:Int)+1)):=by exact cI I
  refine aR (J ⟨(k+1),⟨I,iQ G hz hu D⟩⟩ _ _ _ U os (cR 5<|aY U Y<|dj.nil _) (aI [0,1,2,3,4,5,6,7,8,9,10,11]))
 refine WS fun _ T=>rP 1 [] mn ?_
 refine RK T<|ar<|Q1 hQ U U U ?_
 first|exact cB (bx (fun e=>by subst e; first|exact C rfl|omega)).symm|exact cB (bx (fun e=>by subst e; rw [hp] at hq; cases hq; exact E rfl)).symm|exact cB (bx (fun e=>by subst e; rw [hx] at hy; cases hy; first|(rw [hz] at hu; cases hu; exact D rfl)|omega)).symm|exact cB (dK (gU C I I I I (cx I B I) (cx I A I))).symm
end
section
/-- where a sled may be after k beams more -/
def gf (w:bT):Nat→Nat→aF×Int→List (aF×Int)
 |0,_,p=>[p]
 |k+1,b,p=>(iM w b).flatMap fun o=>match kX w b p o with
  |some q=>gf w k (b+1) q
  |none=>[]
variable {w:bT}
theorem iu {k b:Nat} {p q:aF×Int}:q∈gf w (k+1) b p↔ ∃ o∈iM w b,∃ p',kX w b p o=some p'∧q∈gf w k (b+1) p':=by
 simp only [gf,List.mem_flatMap]
 constructor
 ·rintro ⟨o,ho,h⟩
  cases e:kX w b p o with
  |none=>rw [e] at h; cases h
  |some p'=>rw [e] at h; exact ⟨o,ho,p',e,h⟩
 ·rintro ⟨o,ho,p',e,h⟩
  exact ⟨o,ho,by rw [e]; exact h⟩
theorem rJ: ∀ (k b:Nat) (q:aF×Int),q∈fwd w (b+k)↔ ∃ p∈fwd w b,q∈gf w k b p:=by
 intro k
 induction k with
 |zero=>
  intro b q
  simp only [Nat.add_zero,gf,bP]
  exact ⟨fun h=>⟨q,h,rfl⟩,fun ⟨p,hp,e⟩=>e▸hp⟩
 |succ k ih=>
  intro b q
  rw [show b+(k+1)=(b+1)+k by omega,ih]
  constructor
  ·rintro ⟨p',hp',h⟩
   obtain ⟨p,hp,o,ho,e⟩:=fY.1 hp'
   exact ⟨p,hp,iu.2 ⟨o,ho,p',e,h⟩⟩
  ·rintro ⟨p,hp,h⟩
   obtain ⟨o,ho,p',e,h'⟩:=iu.1 h
   exact ⟨p',fY.2 ⟨p,hp,o,ho,e⟩,h'⟩
theorem gV {b:Nat} {p q:aF×Int} {o:Int×aa}:kX w b p o=some q↔max (p.2+bX w b) o.2.Lo≤min o.2.Hi w.fZ∧q=(dC p.1 (fy o.1),max (p.2+bX w b) o.2.Lo):=by
 unfold kX
 split
 ·rename_i h
  constructor
  ·intro e; cases e; exact ⟨h,rfl⟩
  ·rintro ⟨_,rfl⟩; rfl
 ·rename_i h
  constructor
  ·intro e; cases e
  ·rintro ⟨h',_⟩; exact absurd h' h
theorem vi {b:Nat} {p q:aF×Int} {o:Int×aa}:ot w b p o=some q↔o.2.Lo≤min p.2 o.2.Hi∧q=(dC p.1 (fy o.1),min p.2 o.2.Hi-bX w b):=by
 unfold ot
 split
 ·rename_i h
  constructor
  ·intro e; cases e; exact ⟨h,rfl⟩
  ·rintro ⟨_,rfl⟩; rfl
 ·rename_i h
  constructor
  ·intro e; cases e
  ·rintro ⟨h',_⟩; exact absurd h' h
theorem H_ {b:Nat} (hb:b≤w.n):((⟨0,0⟩:aF),w.fZ)∈back w b:=by
 rcases Nat.lt_or_ge b w.n with h|h
 ·exact (pf h).2 (.inl U)
 ·rw [uM h]; simp
theorem nH (t:aF):dC t ⟨0,0⟩=t:=by cases t; simp [dC]
theorem Ad (a o u:aF):dC (dC a o) u=dC a (dC u o):=by simp only [dC,aF.mk.injEq]; omega
theorem GS (hl: ∀ b,0≤bX w b): ∀ (k:Nat) (u:aF×Int),u∈bwd w k→u.2≤w.fZ:=by
 intro k
 induction k with
 |zero=>intro u hu; simp only [bwd,bP] at hu; subst hu; exact Int.le_refl _
 |succ k ih=>
  intro u hu
  simp only [bwd,bE,List.mem_flatMap,List.mem_filterMap] at hu
  rcases hu with rfl|⟨p,hp,o,ho,e⟩
  ·exact Int.le_refl _
  ·obtain ⟨_,rfl⟩:=vi.1 e
   have:=ih p hp
   have:=hl (w.n-(k+1))
   simp only; omega
/-- what follows a passing is told by the way back -/
theorem NR: ∀ (k b:Nat) (p q:aF×Int),b+k≤w.n→p.2≤w.fZ→q∈gf w k b p→ ∃ u∈back w b,p.2≤u.2∧q.1=dC p.1 u.1:=by
 intro k
 induction k with
 |zero=>
  intro b p q hb hp hq
  simp only [gf,bP] at hq
  subst hq
  exact ⟨_,H_ I,hp,(nH _).symm⟩
 |succ k ih=>
  intro b p q hb hp hq
  obtain ⟨o,ho,p',e,h⟩:=iu.1 hq
  obtain ⟨C,rfl⟩:=gV.1 e
  obtain ⟨u',hu',B,A⟩:=ih (b+1) _ q I (by simp only; omega) h
  simp only at B A
  refine ⟨(dC u'.1 (fy o.1),min u'.2 o.2.Hi-bX w b),(pf I).2 (.inr ⟨u',hu',o,ho,vi.2 ⟨I,U⟩⟩),by simp only; omega,?_⟩
  rw [A,Ad]
theorem LL (hl: ∀ b,0≤bX w b): ∀ (d b:Nat) (p u:aF×Int),w.n=b+d→p.2≤u.2→u∈back w b→ ∃ k,b+k≤w.n∧ ∃ q∈gf w k b p,q.1=dC p.1 u.1:=by
 intro d
 induction d with
 |zero=>
  intro b p u hd hp hu
  rw [uM I] at hu
  simp only [bP] at hu
  subst hu
  exact ⟨0,I,p,by simp [gf],(nH _).symm⟩
 |succ d ih=>
  intro b p u hd hp hu
  rcases (pf I).1 hu with rfl|⟨u',hu',o,ho,e⟩
  ·exact ⟨0,I,p,by simp [gf],(nH _).symm⟩
  ·obtain ⟨B,rfl⟩:=vi.1 e
   have hn:u'.2≤w.fZ:=GS hl _ _ hu'
   simp only at hp
   obtain ⟨k,hk,q,hq,A⟩:=ih (b+1) (dC p.1 (fy o.1),max (p.2+bX w b) o.2.Lo) u' I (by simp only; omega) hu'
   refine ⟨k+1,I,q,iu.2 ⟨o,ho,_,gV.2 ⟨I,U⟩,hq⟩,?_⟩
   rw [A]; simp only; rw [Ad]
end
section
section
variable {l:bf} {r:cL} {one at_:Int} {d:Nat} {f g m:Int} {rec:Int→Int→Int→Bool} {i:Int}
end
theorem qK {l:bf} {r:cL} {d:Nat} (hd:d<l.ae.length) {o:Int×aa}:o∈iM (cy l r) d↔o=(-1,⟨r.Start,r.fZ⟩)∨ ∃ k,k<r.ai.length∧ ∃ s,r.ai[k]? =some s∧(s.gk=(d:Int)∧(cP l s).Lo≤(cP l s).Hi)∧o=((k:Int),cP l s):=by
 unfold iM tM
 show o∈(-1,(⟨r.Start,r.fZ⟩:aa))::((ew l r.ai r.ai.length)[d]?).getD []↔_
 rw [o5 hd,Option.getD_some,bE,sX]
theorem p6 {l:bf} {r:cL} {d:Nat} (hd:d<l.ae.length):bX (cy l r) d=eB l d:=by rw [Ab,if_pos hd]
theorem uV {l:bf} {n d:Nat} {y:Int} (h:(cS l n)[d]? =some y):y=eB l d:=by
 unfold cS at h
 rw [fP] at h
 have hd:d<n:=by
  rcases Nat.lt_or_ge d n with q|q
  ·exact q
  ·rw [List.getElem?_eq_none (by simpa using q)] at h; cases h
 rw [List.getElem?_range hd] at h
 exact (Option.some.inj h).symm
end
section
def Q7 (w:bT) (b:Nat) (i:Int):Prop:= ∃ b',b'<b∧ ∃ q∈mF w b',q.1=i
noncomputable instance (w:bT) (b:Nat) (i:Int):Decidable (Q7 w b i):=Classical.propDecidable _
def wS (w:bT) (b:Nat):Bool:=(mF w b).any fun q=>decide (0≤q.1)
def Bt (w:bT) (k:Nat):List Int:=((List.range k).filter fun b=> !wS w b).map fun (b:Nat)=>(b:Int)
noncomputable def wM (l:bf) (r:cL):List Int:=if eO l r 0=0 then Bt (cy l r) (yG (lJ l r)).toNat else []
theorem yk {l:bf} {r:cL} (h:eO l r 0=0):wM l r=Bt (cy l r) (yG (lJ l r)).toNat:=if_pos h
theorem x7 {l:bf} {r:cL} (h: ¬ eO l r 0=0):wM l r=[]:=if_neg h
theorem UB {l:bf} {r:cL} (h:eO l r 0=0):0≤yG (lJ l r)∧yG (lJ l r)≤(l.ae.length:Int):=by
 have A:=(G4 (u9 h)).1
 rw [lZ h] at A ⊢
 obtain ⟨i,e,hi,_⟩:=o2.1 A
 have hn:(cy l r).n=l.ae.length:=eH
 omega
end
section
/-- a truth goes on from here -/
def tw (w:bT) (b:Nat) (p:aF×Int):Prop:= ∃ k,b+k≤w.n∧ ∃ q∈gf w k b p,kQ w q.1=true
/-- a truth may have come here, or earlier -/
def DQ (w:bT) (b:Nat) (p:aF×Int):Prop:= ∃ v,(p.1,v)∈fwd w b∧v≤p.2
def Jn (n:Int) (p:aF×Int):aF×Int:=(p.1,p.2+n)
section
variable {w:bT}
theorem IF: ∀ (k j b:Nat) (p q z:aF×Int),q∈gf w k b p→z∈gf w j (b+k) q→z∈gf w (k+j) b p:=by
 intro k
 induction k with
 |zero=>
  intro j b p q z A B
  simp only [gf,bP] at A
  subst A
  rw [Nat.zero_add]; exact B
 |succ k ih=>
  intro j b p q z A B
  obtain ⟨o,ho,p',e,h⟩:=iu.1 A
  rw [show k+1+j=(k+j)+1 by omega]
  exact iu.2 ⟨o,ho,p',e,ih j (b+1) p' q z h (by rw [show b+1+k=b+(k+1) by omega]; exact B)⟩
theorem Ct: ∀ (k b:Nat) (t:aF) (x y:Int) (q:aF×Int),y≤x→q∈gf w k b (t,x)→ ∃ q'∈gf w k b (t,y),q'.1=q.1∧q'.2≤q.2:=by
 intro k
 induction k with
 |zero=>
  intro b t x y q A hq
  simp only [gf,bP] at hq ⊢
  subst hq
  exact ⟨_,U,U,A⟩
 |succ k ih=>
  intro b t x y q A hq
  obtain ⟨o,ho,p',e,h⟩:=iu.1 hq
  obtain ⟨B,rfl⟩:=gV.1 e
  simp only at B h
  obtain ⟨q',hq',C,D⟩:=ih (b+1) _ _ (max (y+bX w b) o.2.Lo) q I h
  exact ⟨q',iu.2 ⟨o,ho,_,gV.2 ⟨by simp only; omega,U⟩,hq'⟩,C,D⟩
theorem yz {b:Nat} {t:aF} {x y:Int} (h:tw w b (t,x)) (hy:y≤x):tw w b (t,y):=by
 obtain ⟨k,hk,q,hq,hm⟩:=h
 obtain ⟨q',hq',e,_⟩:=Ct k b t x y q hy hq
 exact ⟨k,hk,q',hq',by rw [e]; exact hm⟩
theorem u7 {k b:Nat} {p q:aF×Int} (h:q∈gf w k b p) (hv:tw w (b+k) q):tw w b p:=by
 obtain ⟨j,hj,z,hz,hm⟩:=hv
 exact ⟨k+j,I,z,IF k j b p q z h hz,hm⟩
theorem Ii {b:Nat} {p q:aF×Int} {o:Int×aa} (h:DQ w b p) (ho:o∈iM w b) (e:kX w b p o=some q):DQ w (b+1) q:=by
 obtain ⟨v,hv,A⟩:=h
 obtain ⟨B,rfl⟩:=gV.1 e
 exact ⟨max (v+bX w b) o.2.Lo,fY.2 ⟨_,hv,o,ho,gV.2 ⟨by simp only; omega,U⟩⟩,by simp only; omega⟩
theorem Dm {b:Nat} {p:aF×Int} (h:p∈fwd w b):DQ w b p:=⟨p.2,h,Int.le_refl _⟩
theorem Aa (hl: ∀ b,0≤bX w b): ∀ (b:Nat) (p:aF×Int),p∈fwd w b→w.Start≤p.2:=by
 intro b
 induction b with
 |zero=>intro p hp; simp only [fwd,bP] at hp; subst hp; exact Int.le_refl _
 |succ b ih=>
  intro q hq
  obtain ⟨p,hp,o,ho,e⟩:=fY.1 hq
  obtain ⟨_,rfl⟩:=gV.1 e
  have:=ih p hp
  have:=hl b
  simp only; omega
/-- a beam is passed at a time, by a signal -/
def yx (w:bT) (b:Nat) (s t:Int):Prop:= ∃ p∈fwd w b,∃ o∈iM w b,o.1=s∧(max (p.2+bX w b) o.2.Lo≤t∧t≤min o.2.Hi w.fZ)∧tw w (b+1) (dC p.1 (fy o.1),t)
theorem AQ (hl: ∀ b,0≤bX w b) {b:Nat} (hb:b<w.n) {s t:Int}:(∃ q∈mF w b,q.1=s∧q.2.Lo≤t∧t≤q.2.Hi)↔yx w b s t:=by
 constructor
 ·rintro ⟨q,hq,hs,C,D⟩
  obtain ⟨o,ho,p,hp,u,hu,e⟩:=ir.1 hq
  obtain ⟨B,A,rfl⟩:=jE.1 e
  simp only [jJ] at C D B
  have hn:u.2≤w.fZ:=GS hl _ _ hu
  obtain ⟨k,hk,q,hq',E⟩:=LL hl (w.n-(b+1)) (b+1) (dC p.1 (fy o.1),t) u I (by simp only; omega) hu
  refine ⟨p,hp,o,ho,hs,⟨I,I⟩,k,hk,q,hq',?_⟩
  rw [E]
  unfold xI at A
  rw [show dC (dC p.1 (fy o.1)) u.1=dC (dC p.1 u.1) (fy o.1) by simp only [dC,aF.mk.injEq]; omega]
  exact A
 ·rintro ⟨p,hp,o,ho,hs,⟨C,D⟩,k,hk,q,hq,hm⟩
  obtain ⟨u,hu,B,A⟩:=NR k (b+1) _ q hk (by simp only; omega) hq
  simp only at B A
  refine ⟨(o.1,jJ w b p u o),ir.2 ⟨o,ho,p,hp,u,hu,jE.2 ⟨by simp only [jJ]; omega,?_,U⟩⟩,hs,by simp only [jJ]; omega,by simp only [jJ]; omega⟩
  unfold xI
  rw [A] at hm
  rw [show dC (dC p.1 u.1) (fy o.1)=dC (dC p.1 (fy o.1)) u.1 by simp only [dC,aF.mk.injEq]; omega]
  exact hm
end
structure za (w w':bT) (n:Int) (f:Int→Int):Prop where
 start:w'.Start=w.Start+n
 now:w'.fZ=w.fZ+n
 wn:w'.n=w.n
 low: ∀ b,0≤bX w b
 least: ∀ b,bX w' b=bX w b
 may: ∀ t,kQ w t=true→kQ w' t=true
 Vw: ∀ s,0≤f s↔0≤s
 opt: ∀ (b:Nat) (p:aF×Int) (o:Int×aa),b<w.n→w.Start≤p.2→DQ w b p→o∈iM w b→max (p.2+bX w b) o.2.Lo≤min o.2.Hi w.fZ→tw w (b+1) (dC p.1 (fy o.1),max (p.2+bX w b) o.2.Lo)→
  ∃ o'∈iM w' b,o'.1=f o.1∧ ∀ t,w.Start≤t→t≤w.fZ→((o.2.Lo≤t∧t≤o.2.Hi)↔(o'.2.Lo≤t+n∧t+n≤o'.2.Hi))
section
variable {w w':bT} {n:Int} {f g:Int→Int}
theorem za.one (h:za w w' n f) (s:Int):fy (f s)=fy s:=by
 unfold fy
 have:=h.Vw s
 by_cases q:s<0
 ·rw [if_pos q,if_pos I]
 ·rw [if_neg q,if_neg I]
theorem za.step (h:za w w' n f) {b:Nat} {p q:aF×Int} {o:Int×aa} (hb:b<w.n) (hs:w.Start≤p.2) (hl:DQ w b p) (ho:o∈iM w b) (e:kX w b p o=some q) (hv:tw w (b+1) q):
 ∃ o'∈iM w' b,kX w' b (Jn n p) o'=some (Jn n q):=by
 obtain ⟨E,rfl⟩:=gV.1 e
 obtain ⟨o',ho',D,A⟩:=h.opt b p o hb hs hl ho E hv
 have F:=h.low b
 have B:=A (max (p.2+bX w b) o.2.Lo) I I
 have C:=A (max (p.2+n+bX w b) o'.2.Lo-n) I
 refine ⟨o',ho',gV.2 ?_⟩
 simp only [Jn,h.least,h.now]
 rw [D,h.one]
 have G:=B.1 I
 have H:=(C I).2 I
 refine ⟨I,?_⟩
 simp only [Prod.mk.injEq,true_and]
 omega
theorem za.reach (h:za w w' n f): ∀ (k b:Nat) (p q:aF×Int),b+k≤w.n→w.Start≤p.2→DQ w b p→q∈gf w k b p→tw w (b+k) q→Jn n q∈gf w' k b (Jn n p):=by
 intro k
 induction k with
 |zero=>
  intro b p q _ _ _ hq _
  simp only [gf,bP] at hq ⊢
  rw [hq]
 |succ k ih=>
  intro b p q hb hs hl hq hv
  obtain ⟨o,ho,p',e,hq'⟩:=iu.1 hq
  have hv':tw w (b+1) p':=u7 hq' (by rw [show b+1+k=b+(k+1) by omega]; exact hv)
  obtain ⟨o',ho',e'⟩:=h.step I hs hl ho e hv'
  have A:=gV.1 e
  have B:=h.low b
  exact iu.2 ⟨o',ho',_,e',ih (b+1) p' q I (by rw [A.2]; simp only; omega) (Ii hl ho e) hq' (by rw [show b+1+k=b+(k+1) by omega]; exact hv)⟩
theorem za.P6 (h:za w w' n f) {b:Nat} {p:aF×Int} (hs:w.Start≤p.2) (hl:DQ w b p) (hv:tw w b p):tw w' b (Jn n p):=by
 obtain ⟨k,hk,q,hq,hm⟩:=hv
 exact ⟨k,by rw [h.wn]; exact hk,_,h.reach k b p q hk hs hl hq ⟨0,I,q,by simp [gf],hm⟩,h.may _ hm⟩
theorem za.fwd (h:za w w' n f) {b:Nat} {q:aF×Int} (hb:b≤w.n) (hq:q∈fwd w b) (hv:tw w b q):Jn n q∈Go.Proofs.YtadjgjnicdcjbaaGreatDoor.fwd w' b:=by
 obtain ⟨p,hp,hr⟩:=(rJ b 0 q).1 (by rw [Nat.zero_add]; exact hq)
 have hr':=h.reach b 0 p q I (Aa h.low 0 p hp) (Dm hp) hr (by rw [Nat.zero_add]; exact hv)
 have:Jn n p∈Go.Proofs.YtadjgjnicdcjbaaGreatDoor.fwd w' 0:=by
  simp only [Go.Proofs.YtadjgjnicdcjbaaGreatDoor.fwd,bP] at hp ⊢
  subst hp
  rw [h.start]; rfl
 have A:=(rJ b 0 (Jn n q)).2 ⟨_,this,hr'⟩
 rwa [Nat.zero_add] at A
theorem za.any (h:za w w' n f) {b:Nat} (hb:b≤w.n) (hm:jC w (Go.Proofs.YtadjgjnicdcjbaaGreatDoor.fwd w b)=true):jC w' (Go.Proofs.YtadjgjnicdcjbaaGreatDoor.fwd w' b)=true:=by
 unfold jC at hm ⊢
 obtain ⟨p,hp,A⟩:=List.any_eq_true.1 hm
 exact List.any_eq_true.2 ⟨_,h.fwd hb hp ⟨0,I,p,by simp [gf],A⟩,h.may _ A⟩
theorem za.pass (h:za w w' n f) {b:Nat} (hb:b<w.n) {s t:Int} (hp:yx w b s t):yx w' b (f s) (t+n):=by
 obtain ⟨p,hp,o,ho,rfl,⟨D,G⟩,hv⟩:=hp
 have hs:=Aa h.low b p hp
 have hl:=h.low b
 have A:tw w (b+1) (dC p.1 (fy o.1),max (p.2+bX w b) o.2.Lo):=yz hv D
 have e:kX w b p o=some (dC p.1 (fy o.1),max (p.2+bX w b) o.2.Lo):=gV.2 ⟨I,rfl⟩
 have B:tw w b p:=u7 (k:=1) (iu.2 ⟨o,ho,_,e,by simp [gf]⟩) A
 obtain ⟨o',ho',C,E⟩:=h.opt b p o hb hs (Dm hp) ho I A
 have c:=(E t I I).1 I
 refine ⟨Jn n p,h.fwd I hp B,o',ho',C,?_,?_⟩
 ·simp only [Jn,h.least,h.now]; omega
 ·have F:=h.P6 (b:=b+1) (p:=(dC p.1 (fy o.1),t)) (by simp only; omega) ⟨_,fY.2 ⟨p,hp,o,ho,e⟩,D⟩ hv
  rw [C,h.one]; exact F
theorem Lx (h:za w w' n f) (h':za w' w (-n) g):jU w'=jU w:=by
 unfold jU
 rw [h.wn]
 unfold kB
 congr 1
 refine List.filter_congr fun b hb=>?_
 have hb:=List.mem_range.1 hb
 rw [Bool.eq_iff_iff]
 exact ⟨h'.any (by rw [h.wn]; omega),h.any I⟩
theorem C8 (h:za w w' n f) (hl': ∀ b,0≤bX w' b) {b:Nat} (hb:b<w.n) {s:Int} (hq: ∃ q∈mF w b,q.1=s): ∃ q∈mF w' b,q.1=f s:=by
 obtain ⟨q,hq,e⟩:=hq
 have A:q.2.Lo≤q.2.Hi:=nq hq
 obtain ⟨q',hq',e',_⟩:=(AQ hl' (by rw [h.wn]; exact hb)).2 (h.pass hb ((AQ h.low hb).1 ⟨q,hq,e,Int.le_refl _,A⟩))
 exact ⟨q',hq',e'⟩
theorem HP (h:za w w' n f) (h':za w' w (-n) g) {b:Nat} (hb:b<w.n):wS w' b=wS w b:=by
 rw [Bool.eq_iff_iff]
 unfold wS
 simp only [List.any_eq_true,decide_eq_true_eq]
 constructor
 ·rintro ⟨q,hq,A⟩
  obtain ⟨q',hq',e⟩:=C8 h' h.low (by rw [h.wn]; exact hb) ⟨q,hq,rfl⟩
  exact ⟨q',hq',by rw [e]; exact (h'.Vw _).2 A⟩
 ·rintro ⟨q,hq,A⟩
  obtain ⟨q',hq',e⟩:=C8 h h'.low hb ⟨q,hq,rfl⟩
  exact ⟨q',hq',by rw [e]; exact (h.Vw _).2 A⟩
end
section
variable {l l':bf} {r r':cL} {n:Int} {f g:Int→Int}
structure wy (l:bf) (r:cL) (l':bf) (r':cL) (n:Int) (f g:Int→Int):Prop where
 line:dH l=0
 line':dH l'=0
 yU:fx l r
 ride':fx l' r'
 Pn:l'.ae.length=l.ae.length
 to:za (cy l r) (cy l' r') n f
 V4:za (cy l' r') (cy l r) (-n) g
theorem wy.Hj (h:wy l r l' r' n f g):jU (cy l' r')=jU (cy l r):=Lx h.to h.V4
theorem wy.e (h:wy l r l' r' n f g) {me:Int}:eO l' r' me=eO l r me:=by
 by_cases hm:me=0
 ·by_cases q:jU (cy l r)=[]
  ·rw [p7 h.line h.yU hm q,p7 h.line' h.ride' hm (h.Hj.trans q)]
  ·rw [l3 h.line h.yU hm q,l3 h.line' h.ride' hm (by rw [h.Hj]; exact q)]
 ·rw [qY h.line h.yU hm,qY h.line' h.ride' hm]
theorem wy.An (h:wy l r l' r' n f g):lJ l' r'=lJ l r:=by
 by_cases q:eO l r 0=0
 ·rw [lZ q,lZ (h.e.trans q),h.Hj]
 ·rw [vl q,vl (by rw [h.e]; exact q)]
theorem wy.wx (h:wy l r l' r' n f g) {b:Int}:jW l' b=jW l b:=by unfold jW; rw [h.Pn]
theorem wy.bn (h:wy l r l' r' n f g):(cy l r).n=l.ae.length:=eH
theorem wy.e9 (h:wy l r l' r' n f g):wM l' r'=wM l r:=by
 by_cases q:eO l r 0=0
 ·rw [yk q,yk (h.e.trans q),h.An]
  have hb:=UB q
  unfold Bt
  congr 1
  refine List.filter_congr fun b A=>?_
  have A:=List.mem_range.1 A
  rw [HP h.to h.V4 (by rw [h.bn]; omega)]
 ·rw [x7 q,x7 (by rw [h.e]; exact q)]
end
end
section
theorem PC (a b:Int) (ha:0≤a) (hb:0<b):0≤a % b∧a % b<b:=⟨Int.emod_nonneg _ (Int.ne_of_gt hb),Int.emod_lt_of_pos _ hb⟩
theorem nA {l:bf} (ht:di l.aL=true) (h:lB l) {i:Nat} (hi:i<l.ae.length):1≤eB l i∧eB l i≤500000000:=by
 have A:=h.RS i hi
 have B:=F1 ht h.wx i
 have hf:=h.head.1
 unfold eB pI
 refine ⟨(Int.le_ediv_iff_mul_le I).2 I,?_⟩
 have:(1000*my l i+l.f_-1)/l.f_≤1000*my l i+l.f_-1:=Int.ediv_le_self _ I
 omega
end
section
def dq (good:List Int):aF:=good.foldl (fun t g=>dC t (fy g)) ⟨0,0⟩
theorem ki {l:List Int} {g:Int}:dq (l++[g])=dC (dq l) (fy g):=by unfold dq; rw [List.foldl_append]; rfl
def uc (r:cL) (times:List Int) (b:Nat):Int:=if b=0 then r.Start else (times[b-1]?).getD 0
theorem qi {r:cL} {times:List Int} {b:Nat} {t:Int} (h:times[b]? =some t):uc r times (b+1)=t:=by unfold uc; rw [if_neg I,Nat.add_sub_cancel,h]; rfl
structure iO (l:bf) (r:cL) (times good:List Int):Prop where
 yU:fx l r
 len:good.length=times.length
 le:times.length≤l.ae.length
 step: ∀ (b:Nat) t,times[b]? =some t→uc r times b+eB l b≤t∧t≤r.fZ
 sig: ∀ (b:Nat) t g,times[b]? =some t→good[b]? =some g→g= -1∨ ∃ (k:Nat) (s:aJ),g=(k:Int)∧r.ai[k]? =some s∧s.gk=(b:Int)∧(cP l s).Lo≤t∧t≤(cP l s).Hi
 Ms:(dq good).e9≤l.cD
 TO:(r.ai.length:Int)-(dq good).right≤l.dM
section
variable {l:bf} {r:cL} {times good:List Int}
theorem iO.low (h:iO l r times good) (hl:dH l=0): ∀ b,0≤bX (cy l r) b:=fun b=>by
 obtain ⟨ht,A⟩:=gT hl
 exact ((o8 ht A h.yU).bX b).1
theorem iO.least (h:iO l r times good) {b:Nat} (hb:b<times.length):bX (cy l r) b=eB l b:=by
 have:=h.le
 rw [Ab,if_pos I]
theorem iO.from_ (h:iO l r times good) (hl:dH l=0): ∀ b:Nat,b≤times.length→r.Start≤uc r times b∧uc r times b≤r.fZ:=by
 intro b
 induction b with
 |zero=>intro _; have:=h.yU.time; unfold uc; rw [if_pos rfl]; omega
 |succ b ih=>
  intro hb
  have ht:times[b]? =some (times[b]'I):=e7 _
  have B:=ih I
  have C:=h.step b _ ht
  have A:=h.low hl b
  rw [h.least I] at A
  rw [qi ht]
  omega
/-- what comes next, in the truth -/
theorem iO.opt (h:iO l r times good) (hl:dH l=0) {b:Nat} {t g:Int} (ht:times[b]? =some t) (hg:good[b]? =some g): ∃ o∈iM (cy l r) b,o.1=g∧o.2.Lo≤t∧t≤o.2.Hi:=by
 have hb:=(aX.1 ht).1
 have E:=h.le
 have F:=h.step b t ht
 have G:=h.from_ hl b I
 have B:=h.low hl b
 rw [h.least hb] at B
 rcases h.sig b t g ht hg with rfl|⟨k,s,rfl,hs,A,C,D⟩
 ·exact ⟨(-1,⟨r.Start,r.fZ⟩),(qK I).2 (.inl U),U,by simp only; omega,by simp only; omega⟩
 ·exact ⟨((k:Int),cP l s),(qK I).2 (.inr ⟨k,(aX.1 hs).1,s,hs,⟨A,I⟩,U⟩),U,C,D⟩
theorem mg {α:Type} {l:List α} {b:Nat} {x:α} (h:l[b]? =some x):l.take (b+1)=l.take b++[x]:=by rw [List.take_add_one,h]; rfl
theorem iO.live (h:iO l r times good) (hl:dH l=0): ∀ b:Nat,b≤times.length→DQ (cy l r) b (dq (good.take b),uc r times b):=by
 intro b
 induction b with
 |zero=>intro _; exact ⟨r.Start,by simp [fwd,dq]; rfl,by unfold uc; rw [if_pos rfl]; exact Int.le_refl _⟩
 |succ b ih=>
  intro hb
  have B:=h.len
  have ht:times[b]? =some (times[b]'I):=e7 _
  have hg:good[b]? =some (good[b]'I):=e7 _
  obtain ⟨v,hv,A⟩:=ih I
  obtain ⟨o,ho,e,C,D⟩:=h.opt hl ht hg
  have E:=h.step b _ ht
  have F:=h.least (b:=b) I
  simp only at A hv
  rw [qi ht,mg hg,ki,← e]
  refine ⟨max (v+bX (cy l r) b) o.2.Lo,fY.2 ⟨_,hv,o,ho,gV.2 ⟨?_,U⟩⟩,?_⟩
  ·have G:(cy l r).fZ=r.fZ:=rfl
   simp only; omega
  ·simp only; omega
theorem iO.P6 (h:iO l r times good) (hl:dH l=0): ∀ (d b:Nat),b+d=times.length→tw (cy l r) b (dq (good.take b),uc r times b):=by
 intro d
 induction d with
 |zero=>
  intro b hb
  have hn:(cy l r).n=l.ae.length:=eH
  have C:=h.len
  have D:=h.le
  refine ⟨0,I,_,by simp [gf]; rfl,?_⟩
  rw [List.take_of_length_le I]
  unfold kQ
  have A:=h.Ms
  have B:=h.TO
  exact dK ⟨A,B⟩
 |succ d ih=>
  intro b hb
  have C:=h.len
  have ht:times[b]? =some (times[b]'I):=e7 _
  have hg:good[b]? =some (good[b]'I):=e7 _
  obtain ⟨o,ho,e,D,A⟩:=h.opt hl ht hg
  have B:=h.step b _ ht
  have E:=h.least (b:=b) I
  have F:(cy l r).fZ=r.fZ:=rfl
  have hv:=ih (b+1) I
  rw [qi ht,mg hg,ki,← e] at hv
  exact u7 (k:=1) (iu.2 ⟨o,ho,_,gV.2 ⟨by first|omega|(simp only; omega),U⟩,by simp [gf]; rfl⟩) (yz hv (by first|omega|(simp only; omega)))
theorem iO.pass (h:iO l r times good) (hl:dH l=0) {b:Nat} {t g:Int} (ht:times[b]? =some t) (hg:good[b]? =some g):yx (cy l r) b g t:=by
 have hb:=(aX.1 ht).1
 obtain ⟨v,hv,A⟩:=h.live hl b I
 obtain ⟨o,ho,e,B,C⟩:=h.opt hl ht hg
 have D:=h.step b _ ht
 have E:=h.least (b:=b) hb
 have F:(cy l r).fZ=r.fZ:=rfl
 have hw:=h.P6 hl (times.length-(b+1)) (b+1) I
 rw [qi ht,mg hg,ki,← e] at hw
 simp only at A
 exact ⟨_,hv,o,ho,e,⟨by simp only; omega,I⟩,hw⟩
theorem iO.num (h:iO l r times good) (hl:dH l=0):(times.length:Int)∈jU (cy l r):=by
 obtain ⟨v,hv,_⟩:=h.live hl times.length (Nat.le_refl _)
 have hn:(cy l r).n=l.ae.length:=eH
 have B:=h.le
 refine o2.2 ⟨times.length,U,I,?_⟩
 unfold jC
 refine List.any_eq_true.2 ⟨_,hv,?_⟩
 have A:=h.len
 rw [List.take_of_length_le I]
 unfold kQ
 exact dK ⟨h.Ms,h.TO⟩
theorem iO.e (h:iO l r times good) (hl:dH l=0):eO l r 0=0:=l3 hl h.yU rfl fun e=>by have:=h.num hl; rw [e] at this; cases this
theorem iO.An (h:iO l r times good) (hl:dH l=0):(times.length:Int)∈lJ l r:=by rw [lZ (h.e hl)]; exact h.num hl
theorem iO.clear (h:iO l r times good) (hl:dH l=0):(Fx l r=2→l.cq<(times.length:Int))∧(Fx l r=0→(times.length:Int)≤l.cq):=by
 have hm:=h.An hl
 have A:=(G4 (u9 (h.e hl))).2 _ hm
 have B:=(O9 (u9 (h.e hl))).2 _ hm
 unfold Fx
 rw [if_pos (h.e hl)]
 constructor
 ·intro q
  split at q
  ·omega
  ·split at q<;>omega
 ·intro q
  split at q
  ·omega
  ·split at q<;>omega
end
end
section
def gO (hi:Int→Int) (least:Nat→Int) (now:Int):Nat→List Int→List Int×Int
 |_,[]=>([],now)
 |b,x::xs=>((if 0≤x then min (gO hi least now (b+1) xs).2 (hi x) else (gO hi least now (b+1) xs).2)::(gO hi least now (b+1) xs).1,(if 0≤x then min (gO hi least now (b+1) xs).2 (hi x) else (gO hi least now (b+1) xs).2)-least b)
def gp (t:Int):List Int→Int
 |[]=>t
 |x::xs=>gp x xs
def kj (w:bT):Nat→Int→List Int→List Int→Prop
 |_,_,[],[]=>True
 |b,t,x::rs,y::fs=>(∃ o∈iM w b,o.1=x∧max (t+bX w b) o.2.Lo≤min o.2.Hi w.fZ∧y=max (t+bX w b) o.2.Lo)∧kj w (b+1) y rs fs
 |_,_,_,_=>False
section
variable {w:bT} {hi:Int→Int} {least:Nat→Int} {now:Int}
theorem rR: ∀ (b:Nat) (rs:List Int),(gO hi least now b rs).1.length=rs.length
 |_,[]=>rfl
 |b,x::xs=>by simp only [gO,List.length_cons]; rw [rR]
theorem nB: ∀ (t:Int) (fs:List Int) (y:Int),gp t (fs++[y])=y
 |_,[],_=>rfl
 |t,x::fs,y=>nB x fs y
theorem B8: ∀ (t:Int) (fs:List Int) (y:Int),fs[fs.length-1]? =some y→gp t fs=y
 |t,[],y,h=>by simp at h
 |t,[x],y,h=>by simpa [gp] using h
 |t,x::x2::fs,y,h=>by
  show gp x (x2::fs)=y
  exact B8 x (x2::fs) y (by simpa using h)
theorem ug: ∀ (b:Nat) (rs:List Int) (x:Int) (ss:List Int),(gO hi least now b (rs++x::ss)).1[rs.length]? =some (if 0≤x then min (gO hi least now (b+rs.length+1) ss).2 (hi x) else (gO hi least now (b+rs.length+1) ss).2)
 |b,[],x,ss=>by simp [gO]
 |b,z::rs,x,ss=>by
  have:=ug (b+1) rs x ss
  simp only [List.cons_append,gO,List.length_cons,List.getElem?_cons_succ]
  rw [this,show b+1+rs.length+1=b+(rs.length+1)+1 by omega]
theorem kv: ∀ (b:Nat) (t:Int) (rs fs:List Int),kj w b t rs fs→fs.length=rs.length
 |_,_,[],[],_=>rfl
 |b,t,x::rs,y::fs,h=>by simp [kv _ _ rs fs h.2]
 |_,_,[],_::_,h=>h.elim
 |_,_,_::_,[],h=>h.elim
theorem rY: ∀ (b:Nat) (t:Int) (rs fs ss gs:List Int),fs.length=rs.length→(kj w b t (rs++ss) (fs++gs)↔kj w b t rs fs∧kj w (b+rs.length) (gp t fs) ss gs)
 |b,t,[],[],ss,gs,_=>by simp [kj,gp]
 |b,t,x::rs,y::fs,ss,gs,h=>by
  have ih:=rY (b+1) y rs fs ss gs (by simpa using h)
  simp only [List.cons_append,kj,List.length_cons,gp]
  rw [ih,show b+1+rs.length=b+(rs.length+1) by omega,and_assoc]
 |_,_,[],_::_,_,_,h=>by simp at h
 |_,_,_::_,[],_,_,h=>by simp at h
theorem Fv (b:List Int): ∀ t:aF,b.foldl (fun t g=>dC t (fy g)) t=dC t (dq b):=by
 induction b with
 |nil=>intro t; exact (nH t).symm
 |cons x b ih=>
  intro t
  show b.foldl (fun t g=>dC t (fy g)) (dC t (fy x))=dC t (b.foldl (fun t g=>dC t (fy g)) (dC ⟨0,0⟩ (fy x)))
  rw [ih,ih]; simp only [dC,aF.mk.injEq]; omega
theorem rG (a b:List Int):dq (a++b)=dC (dq a) (dq b):=by
 show (a++b).foldl _ _=_
 rw [List.foldl_append,Fv]; rfl
theorem sh:dq []=(⟨0,0⟩:aF):=rfl
theorem pX (l:List Int):dC (⟨0,0⟩:aF) (dq l)=dq l:=by simp [dC]
theorem tj (x:Int) (l:List Int):dq (x::l)=dC (fy x) (dq l):=by
 rw [show x::l=[x]++l from rfl,rG,show dq [x]=fy x from (ki (l:=[])).trans (by rw [sh]; simp [dC])]
theorem tR: ∀ l:List Int,0≤(dq l).right∧0≤(dq l).e9∧(dq l).right+(dq l).e9=(l.length:Int)
 |[]=>by rw [sh]; simp
 |x::l=>by
  rw [tj]
  have:=uX x
  have:=tR l
  simp only [dC,List.length_cons]
  omega
/-- chains are what the watch goes through -/
theorem kh: ∀ (k b:Nat) (p q:aF×Int),q∈gf w k b p↔ ∃ rs fs,rs.length=k∧kj w b p.2 rs fs∧q=(dC p.1 (dq rs),gp p.2 fs):=by
 intro k
 induction k with
 |zero=>
  intro b p q
  simp only [gf,bP]
  constructor
  ·rintro rfl; exact ⟨[],[],rfl,trivial,by rw [sh,nH]; rfl⟩
  ·rintro ⟨rs,fs,A,B,rfl⟩
   have A:=jS A
   subst A
   have:=jS (kv _ _ _ _ B)
   subst this
   rw [sh,nH]; rfl
 |succ k ih=>
  intro b p q
  rw [iu]
  constructor
  ·rintro ⟨o,ho,p',e,h⟩
   obtain ⟨A,rfl⟩:=gV.1 e
   obtain ⟨rs,fs,B,C,rfl⟩:=(ih _ _ _).1 h
   refine ⟨o.1::rs,max (p.2+bX w b) o.2.Lo::fs,by simp [B],⟨⟨o,ho,U,A,U⟩,C⟩,?_⟩
   rw [tj]
   simp only [gp,dC,Prod.mk.injEq,aF.mk.injEq,and_true]; omega
  ·rintro ⟨rs,fs,A,B,rfl⟩
   cases rs with
   |nil=>simp at A
   |cons x rs=>
    cases fs with
    |nil=>exact B.elim
    |cons y fs=>
     obtain ⟨⟨o,ho,rfl,C,rfl⟩,D⟩:=B
     refine ⟨o,ho,_,gV.2 ⟨C,U⟩,(ih _ _ _).2 ⟨rs,fs,by simpa using A,D,?_⟩⟩
     rw [tj]
     simp only [gp,dC,Prod.mk.injEq,aF.mk.injEq,and_true]; omega
/-- what the reference's rows of last times know -/
structure LY (w:bT) (hi:Int→Int) (least:Nat→Int) (now:Int):Prop where
 low: ∀ b,0≤bX w b
 least: ∀ b,b<w.n→least b=bX w b
 now:now=w.fZ
 hi: ∀ b o,b<w.n→o∈iM w b→0≤o.1→o.2.Hi=hi o.1
 none_: ∀ b o,b<w.n→o∈iM w b→ ¬ 0≤o.1→o.2.Hi=w.fZ
theorem xx (h:LY w hi least now): ∀ (b:Nat) (rs:List Int),b+rs.length≤w.n→(gO hi least now b rs).2≤w.fZ
 |_,[],_=>by simp only [gO]; exact Int.le_of_eq h.now
 |b,x::xs,hb=>by
  simp only [List.length_cons] at hb
  have B:=xx h (b+1) xs I
  have A:=h.low b
  rw [← h.least b I] at A
  simp only [gO]
  split<;>omega
theorem rF (h:LY w hi least now): ∀ (b:Nat) (t:Int) (rs fs:List Int),b+rs.length≤w.n→t≤w.fZ→kj w b t rs fs→t≤(gO hi least now b rs).2
 |_,t,[],[],_,ht,_=>by simp only [gO]; rw [h.now]; exact ht
 |b,t,x::rs,y::fs,hb,ht,hc=>by
  simp only [List.length_cons] at hb
  obtain ⟨⟨o,ho,rfl,D,rfl⟩,A⟩:=hc
  have B:=rF h (b+1) _ rs fs I I A
  have C:=h.least b I
  simp only [gO]
  split
  ·rename_i q
   have:=h.hi b o I ho q
   omega
  ·omega
 |_,_,[],_::_,_,_,hc=>hc.elim
 |_,_,_::_,[],_,_,hc=>hc.elim
theorem yE (h:LY w hi least now): ∀ (b:Nat) (t t':Int) (rs fs:List Int),b+rs.length≤w.n→t≤t'→t'≤(gO hi least now b rs).2→kj w b t rs fs→ ∃ gs,kj w b t' rs gs
 |_,t,_,[],[],_,_,_,_=>⟨[],trivial⟩
 |b,t,t',x::rs,y::fs,hb,ht,he,hc=>by
  simp only [List.length_cons] at hb
  obtain ⟨⟨o,ho,rfl,E,rfl⟩,A⟩:=hc
  have C:=rF h (b+1) _ rs fs I I A
  have D:=h.least b I
  have F:=xx h (b+1) rs I
  simp only [gO] at he
  have B:max (t'+bX w b) o.2.Lo≤min o.2.Hi w.fZ∧max (t'+bX w b) o.2.Lo≤(gO hi least now (b+1) rs).2:=by
   split at he
   ·rename_i q
    have:=h.hi b o I ho q
    omega
   ·rename_i q
    have:=h.none_ b o I ho q
    omega
  obtain ⟨gs,hg⟩:=yE h (b+1) _ (max (t'+bX w b) o.2.Lo) rs fs I I B.2 A
  exact ⟨_::gs,⟨o,ho,U,B.1,U⟩,hg⟩
 |_,_,_,[],_::_,_,_,_,hc=>hc.elim
 |_,_,_,_::_,[],_,_,_,hc=>hc.elim
theorem DB (b:Nat) (t t':Int) (rs fs:List Int) (ht:t'≤t) (hc:kj w b t rs fs): ∃ gs,kj w b t' rs gs:=by
 have A:(dC ⟨0,0⟩ (dq rs),gp t fs)∈gf w rs.length b (⟨0,0⟩,t):=(kh _ _ _ _).2 ⟨rs,fs,rfl,hc,rfl⟩
 clear A
 induction rs generalizing b t t' fs with
 |nil=>exact ⟨[],trivial⟩
 |cons x rs ih=>
  cases fs with
  |nil=>exact hc.elim
  |cons y fs=>
   obtain ⟨⟨o,ho,rfl,C,rfl⟩,B⟩:=hc
   obtain ⟨gs,hg⟩:=ih (b+1) _ (max (t'+bX w b) o.2.Lo) fs I B
   exact ⟨_::gs,⟨o,ho,U,I,U⟩,hg⟩
/-- a way, as it is asked for -/
structure PD (w:bT) (hi:Int→Int) (least:Nat→Int) (now:Int) (y:dy):Prop where
 chain:kj w 0 w.Start y.gH y.iX
 len:y.gH.length≤w.n
 last:y.mj=(gO hi least now 0 y.gH).1
 may:kQ w (dq y.gH)=true
theorem Dd {k:Nat}:jC w (fwd w k)=true↔ ∃ rs fs,rs.length=k∧kj w 0 w.Start rs fs∧kQ w (dq rs)=true:=by
 unfold jC
 rw [List.any_eq_true]
 have e:=fun q=>(rJ (w:=w) k 0 q)
 rw [Nat.zero_add] at e
 constructor
 ·rintro ⟨q,hq,hm⟩
  obtain ⟨p,hp,h⟩:=(e q).1 hq
  simp only [fwd,bP] at hp
  subst hp
  obtain ⟨rs,fs,A,B,rfl⟩:=(kh _ _ _ _).1 h
  refine ⟨rs,fs,A,B,?_⟩
  rwa [pX] at hm
 ·rintro ⟨rs,fs,A,B,C⟩
  refine ⟨_,(e _).2 ⟨((⟨0,0⟩:aF),w.Start),bP.2 U,(kh _ _ _ _).2 ⟨rs,fs,A,B,U⟩⟩,?_⟩
  simp only [pX]; exact C
theorem Mt (h:LY w hi least now) (hs:w.Start≤w.fZ) {b:Nat} (hb:b<w.n) {s t:Int}:yx w b s t↔ ∃ y,PD w hi least now y∧ ∃ f e,y.gH[b]? =some s∧y.iX[b]? =some f∧y.mj[b]? =some e∧f≤t∧t≤e:=by
 have ef:=fun q=>(rJ (w:=w) b 0 q)
 rw [Nat.zero_add] at ef
 constructor
 ·rintro ⟨p,hp,o,ho,rfl,⟨C,L⟩,k,hk,q,hq,hm⟩
  obtain ⟨Y,AB,hp⟩:=(ef p).1 hp
  simp only [fwd,bP] at AB
  subst AB
  obtain ⟨rs,fs,K,D,rfl⟩:=(kh _ _ _ _).1 hp
  obtain ⟨ss,gs,AA,E,rfl⟩:=(kh _ _ _ _).1 hq
  simp only at C L D E hm
  obtain ⟨gs',J⟩:=DB (b+1) t (max (gp w.Start fs+bX w b) o.2.Lo) ss gs C E
  have H:=kv _ _ _ _ D
  have T:=kv _ _ _ _ J
  have hc:kj w 0 w.Start (rs++o.1::ss) (fs++max (gp w.Start fs+bX w b) o.2.Lo::gs'):=(rY _ _ _ _ _ _ H).2 ⟨D,by rw [Nat.zero_add,K]; exact ⟨⟨o,ho,rfl,I,rfl⟩,J⟩⟩
  have he:=rF h (b+1) t ss gs I I E
  have A:=ug (hi:=hi) (least:=least) (now:=now) 0 rs o.1 ss
  rw [Nat.zero_add,K] at A
  refine ⟨⟨rs++o.1::ss,fs++max (gp w.Start fs+bX w b) o.2.Lo::gs',(gO hi least now 0 (rs++o.1::ss)).1⟩,⟨hc,by simp; omega,U,?_⟩,max (gp w.Start fs+bX w b) o.2.Lo,_,?_,?_,A,C,?_⟩
  ·show kQ w (dq (rs++o.1::ss))=true
   rw [show rs++o.1::ss=(rs++[o.1])++ss by simp,rG,ki]
   rwa [pX] at hm
  ·show (rs++o.1::ss)[b]? =some o.1
   rw [List.getElem?_append_right I,K,Nat.sub_self]; rfl
  ·show (fs++_::gs')[b]? =_
   rw [List.getElem?_append_right I,H,K,Nat.sub_self]; rfl
  ·split
   ·rename_i q
    have:=h.hi b o hb ho q
    omega
   ·exact he
 ·rintro ⟨y,hy,f,e,C,L,P,Q,V⟩
  obtain ⟨R,F,La⟩:=y
  obtain ⟨hc,hn,A,hm⟩:=hy
  simp only at C L P hc hn A hm
  have N:=(aX.1 C).1
  have S:=kv _ _ _ _ hc
  have eR:R=R.take b++s::R.drop (b+1):=by rw [← (aX.1 C).2]; exact (List.take_append_drop b R).symm.trans (by rw [List.drop_eq_getElem_cons N])
  have M:b<F.length:=by omega
  have eF:F=F.take b++f::F.drop (b+1):=by rw [← (aX.1 L).2]; exact (List.take_append_drop b F).symm.trans (by rw [List.drop_eq_getElem_cons M])
  rw [eR,eF,rY _ _ _ _ _ _ (by simp only [List.length_take]; omega)] at hc
  have O:(R.take b).length=b:=by rw [List.length_take]; omega
  rw [O,Nat.zero_add] at hc
  obtain ⟨D,⟨o,ho,rfl,W,rfl⟩,E⟩:=hc
  have B:=ug (hi:=hi) (least:=least) (now:=now) 0 (R.take b) o.1 (R.drop (b+1))
  rw [← eR,O,Nat.zero_add,← A,P] at B
  have B:=Option.some.inj B
  have G:t≤(gO hi least now (b+1) (R.drop (b+1))).2∧t≤min o.2.Hi w.fZ:=by
   have X:=xx h (b+1) (R.drop (b+1)) (by rw [List.length_drop]; omega)
   split at B
   ·rename_i q
    have:=h.hi b o hb ho q
    omega
   ·rename_i q
    have:=h.none_ b o hb ho q
    omega
  obtain ⟨gs,J⟩:=yE h (b+1) _ t (R.drop (b+1)) (F.drop (b+1)) (by rw [List.length_drop]; omega) Q G.1 E
  refine ⟨(dC ⟨0,0⟩ (dq (R.take b)),gp w.Start (F.take b)),(ef _).2 ⟨((⟨0,0⟩:aF),w.Start),bP.2 U,(kh _ _ _ _).2 ⟨_,_,O,D,U⟩⟩,o,ho,U,⟨Q,G.2⟩,(R.drop (b+1)).length,by rw [List.length_drop]; omega,_,(kh _ _ _ _).2 ⟨_,gs,U,J,U⟩,?_⟩
  show kQ w (dC (dC (dC ⟨0,0⟩ (dq (R.take b))) (fy o.1)) (dq (R.drop (b+1))))=true
  rw [pX,← ki,← rG,show R.take b++[o.1]++R.drop (b+1)=R from by rw [List.append_assoc]; exact eR.symm]
  exact hm
end
noncomputable def M4 (l:bf) (r:cL) (x:Int):Int:=match r.ai[x.toNat]? with
 |some s=>(cP l s).Hi
 |none=>0
theorem Fm {l:bf} {r:cL} {x:Int} {s:aJ} (h:r.ai[x.toNat]? =some s):M4 l r x=(cP l s).Hi:=by unfold M4; rw [h]
noncomputable def jB (l:bf) (r:cL) (rs:List Int):List Int:=(gO (M4 l r) (eB l) r.fZ 0 rs).1
noncomputable def o1 (l:bf) (r:cL) (n:Nat) (t i:Int):Option Int:=
 if i<0 then (if t≤r.fZ then some t else none) else match r.ai[i.toNat]? with
  |some s=>if (s.gk=(n:Int)∧(cP l s).Lo≤(cP l s).Hi)∧max t (cP l s).Lo≤min r.fZ (cP l s).Hi then some (max t (cP l s).Lo) else none
  |none=>none
noncomputable def g5 (l:bf) (r:cL) (rs fs:List Int):List dy:=if (r.ai.length:Int)-(dq rs).right≤l.dM then [⟨rs,fs,jB l r rs⟩] else []
noncomputable def iq (l:bf) (r:cL):Nat→List Int→List Int→List dy
 |0,rs,fs=>if l.cD<(dq rs).e9 then [] else g5 l r rs fs
 |k+1,rs,fs=>if l.cD<(dq rs).e9 then [] else g5 l r rs fs++(List.range (r.ai.length+1)).flatMap fun (j:Nat)=>match o1 l r rs.length (gp r.Start fs+eB l rs.length) ((j:Int)-1) with
  |some t=>iq l r k (rs++[(j:Int)-1]) (fs++[t])
  |none=>[]
noncomputable def Fs (l:bf) (r:cL) (k:Nat) (rs fs:List Int) (j:Nat):List dy:=g5 l r rs fs++(List.range j).flatMap fun (j:Nat)=>match o1 l r rs.length (gp r.Start fs+eB l rs.length) ((j:Int)-1) with
 |some t=>iq l r k (rs++[(j:Int)-1]) (fs++[t])
 |none=>[]
noncomputable def iB (l:bf) (r:cL) (k:Nat) (rs fs:List Int) (j:Nat):List dy:=(List.range j).flatMap fun (j:Nat)=>match o1 l r rs.length (gp r.Start fs+eB l rs.length) ((j:Int)-1) with
 |some t=>iq l r k (rs++[(j:Int)-1]) (fs++[t])
 |none=>[]
section
variable {l:bf} {r:cL} {k j:Nat} {rs fs:List Int} {t:Int}
theorem rN:Fs l r k rs fs j=g5 l r rs fs++iB l r k rs fs j:=rfl
theorem nJ (h:o1 l r rs.length (gp r.Start fs+eB l rs.length) ((j:Int)-1)=some t):iB l r k rs fs (j+1)=iB l r k rs fs j++iq l r k (rs++[(j:Int)-1]) (fs++[t]):=by
 unfold iB; rw [List.range_succ,List.flatMap_append]; simp [h]
theorem qC (h:o1 l r rs.length (gp r.Start fs+eB l rs.length) ((j:Int)-1)=none):iB l r k rs fs (j+1)=iB l r k rs fs j:=by
 unfold iB; rw [List.range_succ,List.flatMap_append]; simp [h]
theorem n8 (h:l.cD<(dq rs).e9):iq l r k rs fs=[]:=by cases k<;>exact if_pos h
theorem nV (h: ¬ l.cD<(dq rs).e9):iq l r 0 rs fs=g5 l r rs fs:=if_neg h
theorem og (h: ¬ l.cD<(dq rs).e9):iq l r (k+1) rs fs=Fs l r k rs fs (r.ai.length+1):=if_neg h
theorem Cq {n:Nat} (hn:n<l.ae.length) (hl:0≤eB l n) (ht:r.Start≤t) {i y:Int} (hi: -1≤i):o1 l r n (t+eB l n) i=some y↔ ∃ o∈iM (cy l r) n,o.1=i∧max (t+bX (cy l r) n) o.2.Lo≤min o.2.Hi (cy l r).fZ∧y=max (t+bX (cy l r) n) o.2.Lo:=by
 rw [p6 hn]
 have hw:(cy l r).fZ=r.fZ:=rfl
 unfold o1
 constructor
 ·intro h
  split at h
  ·rename_i B
   split at h
   ·cases h
    exact ⟨(-1,⟨r.Start,r.fZ⟩),(qK hn).2 (.inl U),by simp only; omega,by simp only; omega,by simp only; omega⟩
   ·cases h
  ·rename_i B
   split at h
   ·rename_i s hs
    split at h
    ·rename_i q
     cases h
     exact ⟨((i.toNat:Nat),cP l s),(qK hn).2 (.inr ⟨i.toNat,(aX.1 hs).1,s,hs,q.1,U⟩),by simp only; omega,by simp only; omega,U⟩
    ·cases h
   ·cases h
 ·rintro ⟨o,ho,rfl,A,rfl⟩
  rcases (qK hn).1 ho with rfl|⟨k,hk,s,hs,q,rfl⟩
  ·simp only at A ⊢
   rw [if_pos I,if_pos I]
   congr 1; omega
  ·simp only at A ⊢
   rw [if_neg I,Int.toNat_natCast,hs]
   simp only
   rw [if_pos ⟨q,I⟩]
theorem K7 (hl: ∀ n,n<l.ae.length→0≤eB l n): ∀ (k:Nat) (rs fs:List Int) (y:dy),rs.length+k=l.ae.length→fs.length=rs.length→r.Start≤gp r.Start fs→
 (y∈iq l r k rs fs↔ ∃ ss gs,kj (cy l r) rs.length (gp r.Start fs) ss gs∧ss.length≤k∧y=⟨rs++ss,fs++gs,jB l r (rs++ss)⟩∧kQ (cy l r) (dq (rs++ss))=true):=by
 have D: ∀ (rs fs:List Int) (y:dy),¬ l.cD<(dq rs).e9→(y∈g5 l r rs fs↔y=⟨rs++[],fs++[],jB l r (rs++[])⟩∧kQ (cy l r) (dq (rs++[]))=true):=by
  intro rs fs y hm
  unfold g5
  rw [List.append_nil,List.append_nil]
  have e:kQ (cy l r) (dq rs)=true↔(r.ai.length:Int)-(dq rs).right≤l.dM:=by
   unfold kQ
   rw [decide_eq_true_eq]
   exact ⟨fun q=>q.2,fun q=>⟨by have:(cy l r).cD=l.cD:=rfl; omega,q⟩⟩
  split
  ·rename_i q
   rw [bP]
   exact ⟨fun h=>⟨h,e.2 q⟩,fun h=>h.1⟩
  ·rename_i q
   exact ⟨fun h=>(by cases h),fun h=>absurd (e.1 h.2) q⟩
 have Ms: ∀ (rs ss:List Int),l.cD<(dq rs).e9→ ¬ kQ (cy l r) (dq (rs++ss))=true:=by
  intro rs ss h q
  unfold kQ at q
  have:=(of_decide_eq_true q).1
  rw [rG] at this
  have C:=tR ss
  simp only [dC] at this
  have:(cy l r).cD=l.cD:=rfl
  omega
 intro k
 induction k with
 |zero=>
  intro rs fs y hn hf hs
  by_cases hm:l.cD<(dq rs).e9
  ·rw [n8 hm]
   exact ⟨fun h=>(by cases h),fun ⟨ss,gs,_,_,_,q⟩=>absurd q (Ms rs ss hm)⟩
  ·rw [nV hm,D _ _ _ hm]
   constructor
   ·rintro ⟨B,C⟩; exact ⟨[],[],trivial,sm,B,C⟩
   ·rintro ⟨ss,gs,B,C,E,F⟩
    have e:=jS (Nat.le_zero.1 C)
    subst e
    have e:=jS (kv _ _ _ _ B)
    subst e
    exact ⟨E,F⟩
 |succ k ih=>
  intro rs fs y hn hf hs
  by_cases hm:l.cD<(dq rs).e9
  ·rw [n8 hm]
   exact ⟨fun h=>(by cases h),fun ⟨ss,gs,_,_,_,q⟩=>absurd q (Ms rs ss hm)⟩
  ·rw [og hm]
   unfold Fs
   rw [dQ,D _ _ _ hm,List.mem_flatMap]
   have A: ∀ (x y:Int),(rs++[x]).length+k=l.ae.length∧(fs++[y]).length=(rs++[x]).length:=fun x y=>by simp; omega
   constructor
   ·rintro (⟨B,C⟩|⟨j,hj,h⟩)
    ·exact ⟨[],[],trivial,sm,B,C⟩
    ·cases e:o1 l r rs.length (gp r.Start fs+eB l rs.length) ((j:Int)-1) with
     |none=>rw [e] at h; cases h
     |some t=>
      rw [e] at h
      simp only at h
      obtain ⟨o,ho,B,C,E⟩:=(Cq I (hl _ I) hs I).1 e
      have G:r.Start≤t:=by
       have:=hl rs.length I
       rw [p6 I] at E
       omega
      obtain ⟨ss,gs,F,J,H,AA⟩:=(ih _ _ y (A _ t).1 (A _ t).2 (by rw [nB]; exact G)).1 h
      rw [nB,List.length_append] at F
      refine ⟨((j:Int)-1)::ss,t::gs,⟨⟨o,ho,B,C,E⟩,F⟩,by simp; omega,by simpa using H,by simpa using AA⟩
   ·rintro ⟨ss,gs,B,C,E,F⟩
    cases ss with
    |nil=>
     have e:=jS (kv _ _ _ _ B)
     subst e
     exact .inl ⟨E,F⟩
    |cons x ss=>
     cases gs with
     |nil=>exact B.elim
     |cons t gs=>
      obtain ⟨⟨o,ho,rfl,J,H⟩,AA⟩:=B
      right
      have hx: -1≤o.1∧o.1<(r.ai.length:Int):=by
       rcases (qK I).1 ho with rfl|⟨k,hk,s,hs,q,rfl⟩
       ·simp only; omega
       ·simp only; omega
      have G:r.Start≤t:=by
       have:=hl rs.length I
       rw [p6 I] at H
       omega
      have K:((o.1+1).toNat:Int)-1=o.1:=by omega
      refine ⟨(o.1+1).toNat,List.mem_range.2 I,?_⟩
      rw [K,(Cq I (hl _ I) hs I).2 ⟨o,ho,rfl,J,H⟩]
      simp only
      refine (ih _ _ y (A _ t).1 (A _ t).2 (by rw [nB]; exact G)).2 ⟨ss,gs,?_,?_,?_,?_⟩
      ·rw [nB,List.length_append]; exact AA
      ·simp only [List.length_cons] at C; omega
      ·simpa using E
      ·simpa using F
end
theorem zW {l:bf} {r:cL} {rs fs:List Int} (h:(r.ai.length:Int)-(dq rs).right≤l.dM):g5 l r rs fs=[⟨rs,fs,jB l r rs⟩]:=if_pos h
theorem yo {l:bf} {r:cL} {rs fs:List Int} (h: ¬ (r.ai.length:Int)-(dq rs).right≤l.dM):g5 l r rs fs=[]:=if_neg h
noncomputable def e_ (l:bf) (r:cL) (i:Nat):List aa:=(r.ai.take i).map (cP l)
noncomputable def fu (l:bf) (r:cL) (i:Nat):List Bool:=(r.ai.take i).map fun s=>decide ((cP l s).Lo≤(cP l s).Hi)
section
variable {l:bf} {r:cL} {i n:Nat} {s:aJ} {rs:List Int}
theorem EC (h:r.ai[i]? =some s):e_ l r (i+1)=e_ l r i++[cP l s]:=by unfold e_; rw [List.take_add_one,h,List.map_append]; rfl
theorem E1 (h:r.ai[i]? =some s):fu l r (i+1)=fu l r i++[decide ((cP l s).Lo≤(cP l s).Hi)]:=by unfold fu; rw [List.take_add_one,h,List.map_append]; rfl
theorem rQ (h:i≤r.ai.length):(e_ l r i).length=i:=by unfold e_; rw [List.length_map,List.length_take]; omega
theorem vo (h:i≤r.ai.length):(fu l r i).length=i:=by unfold fu; rw [List.length_map,List.length_take]; omega
theorem Lt {k:Nat} {z:aa} (hs:r.ai[k]? =some s) (hz:(e_ l r r.ai.length)[k]? =some z):z=cP l s:=by
 unfold e_ at hz
 rw [List.take_length,fP,hs] at hz
 exact (Option.some.inj hz).symm
theorem LS {k:Nat} {z:aa} (hz:(e_ l r r.ai.length)[k]? =some z): ∃ s,r.ai[k]? =some s∧z=cP l s:=by
 unfold e_ at hz
 rw [List.take_length,fP] at hz
 cases h:r.ai[k]? with
 |none=>rw [h] at hz; cases hz
 |some s=>rw [h] at hz; exact ⟨s,rfl,(Option.some.inj hz).symm⟩
theorem Cy {k:Nat} {z:Bool} (hs:r.ai[k]? =some s) (hz:(fu l r r.ai.length)[k]? =some z):z=true↔(cP l s).Lo≤(cP l s).Hi:=by
 unfold fu at hz
 rw [List.take_length,fP,hs] at hz
 rw [← Option.some.inj hz]
 exact decide_eq_true_iff
theorem yh (l:bf) (s:aJ):(0≤(cP l s).Lo∧(cP l s).Lo≤86400001)∧ -1≤(cP l s).Hi∧(cP l s).Hi≤86400000:=by
 have A:=iF (p:=gu (ql l s) s.Read) (n:=86400001)
 have B:=iF (p:=gv (ql l s) s.Read) (n:=86400001)
 unfold cP qT
 simp only
 omega
/-- the last times from a beam on -/
noncomputable def jV (l:bf) (r:cL) (rs:List Int) (j:Nat):List Int×Int:=gO (M4 l r) (eB l) r.fZ j (rs.drop j)
noncomputable def jR (l:bf) (r:cL) (rs:List Int) (j:Nat):List Int:=List.replicate j 0++(jV l r rs j).1
noncomputable def uD (l:bf) (r:cL) (rs:List Int) (j:Nat) (x:Int):Int:=if 0≤x then min (jV l r rs j).2 (M4 l r x) else (jV l r rs j).2
theorem u_:jV l r rs rs.length=([],r.fZ):=by unfold jV; rw [List.drop_length]; rfl
theorem IE:jR l r rs rs.length=List.replicate rs.length 0:=by unfold jR; rw [u_]; simp
theorem EK:jR l r rs 0=jB l r rs:=by unfold jR jV jB; simp
theorem qc {j:Nat} {x:Int} (hj:0<j) (hx:rs[j-1]? =some x):jV l r rs (j-1)=(uD l r rs j x::(jV l r rs j).1,uD l r rs j x-eB l (j-1)):=by
 unfold jV uD
 have hb:=(aX.1 hx).1
 rw [List.drop_eq_getElem_cons hb,(aX.1 hx).2,show j-1+1=j by omega]
 simp only [gO]
 rw [show j-1+1=j by omega]
 rfl
theorem HU {j:Nat} (h:j≤rs.length):(jR l r rs j).length=rs.length:=by unfold jR jV; rw [List.length_append,List.length_replicate,rR,List.length_drop]; omega
theorem zH {j:Nat} {x:Int} (hj:0<j) (hx:rs[j-1]? =some x):(jR l r rs j).set (j-1) (uD l r rs j x)=jR l r rs (j-1):=by
 unfold jR
 rw [qc hj hx]
 simp only
 obtain ⟨k,rfl⟩: ∃ k,j=k+1:=⟨j-1,I⟩
 rw [Nat.add_sub_cancel,List.replicate_succ',List.append_assoc,List.set_append_right _ _ sm,List.length_replicate,Nat.sub_self]
 rfl
theorem FH (hr:0≤r.fZ∧r.fZ≤86400000) (hl: ∀ b,b<rs.length→0≤eB l b∧eB l b≤500000000) (hrs: ∀ x∈rs,0≤x→x<(r.ai.length:Int)): ∀ (d j:Nat),j+d=rs.length→(-1-500000000*(d:Int))≤(jV l r rs j).2∧(jV l r rs j).2≤86400000
 |0,j,h=>by
  obtain rfl:j=rs.length:=by omega
  rw [u_]; simp only; omega
 |d+1,j,h=>by
  have ih:=FH hr hl hrs d (j+1) I
  have hx:rs[j+1-1]? =some (rs[j]'I):=by rw [Nat.add_sub_cancel]; exact e7 _
  have e:=qc (l:=l) (r:=r) (j:=j+1) I hx
  rw [Nat.add_sub_cancel] at e
  rw [e]
  simp only
  have A:=hl j I
  unfold uD
  split
  ·rename_i q
   have B:=hrs _ (List.getElem_mem (by omega:j<rs.length)) q
   obtain ⟨s,hs⟩: ∃ s,r.ai[(rs[j]'I).toNat]? =some s:=⟨r.ai[(rs[j]'I).toNat]'I,e7 _⟩
   rw [Fm hs]
   have C:=yh l s
   omega
  ·omega
theorem MF {t i:Int} (hi:i<0):(t≤r.fZ→o1 l r n t i=some t)∧(¬ t≤r.fZ→o1 l r n t i=none):=by
 unfold o1; rw [if_pos hi]; exact ⟨fun h=>if_pos h,fun h=>if_neg h⟩
theorem Jk {t i:Int} (hi: ¬ i<0) (hs:r.ai[i.toNat]? =some s) (hb:s.gk=(n:Int)) (hw:(cP l s).Lo≤(cP l s).Hi):(max t (cP l s).Lo≤min r.fZ (cP l s).Hi→o1 l r n t i=some (max t (cP l s).Lo))∧(¬ max t (cP l s).Lo≤min r.fZ (cP l s).Hi→o1 l r n t i=none):=by
 unfold o1; rw [if_neg hi,hs]
 exact ⟨fun h=>if_pos ⟨⟨hb,hw⟩,h⟩,fun h=>if_neg fun q=>h q.2⟩
theorem xz {t i:Int} (hi: ¬ i<0) (hs:r.ai[i.toNat]? =some s) (hb: ¬ (s.gk=(n:Int)∧(cP l s).Lo≤(cP l s).Hi)):o1 l r n t i=none:=by
 unfold o1; rw [if_neg hi,hs]
 exact if_neg fun q=>hb q.1
theorem tL {x:Int} (hx:rs[i]? =some x):(dq (rs.take (i+1))).right=(dq (rs.take i)).right+(if 0≤x then 1 else 0):=by
 rw [mg hx,ki]
 unfold fy
 simp only [dC]
 by_cases h:x<0
 ·rw [if_pos h,if_neg I]
 ·rw [if_neg h,if_pos I]
end
theorem ye {l:bf} {r:cL} {rs fs:List Int}:(g5 l r rs fs).length≤1:=by unfold g5; split<;>simp
theorem yr {l:bf} {r:cL} (hr:r.ai.length≤10): ∀ (k:Nat) (rs fs:List Int),(iq l r k rs fs).length≤12^(k+1)
 |0,rs,fs=>by
  unfold iq
  split
  ·simp
  ·have:=ye (l:=l) (r:=r) (rs:=rs) (fs:=fs); omega
 |k+1,rs,fs=>by
  unfold iq
  split
  ·simp
  ·rw [List.length_append]
   have B:=ye (l:=l) (r:=r) (rs:=rs) (fs:=fs)
   have A: ∀ j,(iB l r k rs fs j).length≤j*12^(k+1):=by
    intro j
    induction j with
    |zero=>simp [iB]
    |succ j ih=>
     cases e:o1 l r rs.length (gp r.Start fs+eB l rs.length) ((j:Int)-1) with
     |none=>rw [qC e,Nat.succ_mul]; exact Nat.le_trans ih (Nat.le_add_right _ _)
     |some t=>rw [nJ e,List.length_append,Nat.succ_mul]; exact Nat.add_le_add ih (yr hr k (rs++[(j:Int)-1]) (fs++[t]))
   have C:=A (r.ai.length+1)
   have D:(r.ai.length+1)*12^(k+1)≤11*12^(k+1):=Nat.mul_le_mul_right _ I
   have E:0<12^(k+1):=Nat.pow_pos dc
   have F:12^(k+1+1)=12*12^(k+1):=by rw [Nat.pow_succ,Nat.mul_comm]
   show (g5 l r rs fs).length+(iB l r k rs fs (r.ai.length+1)).length≤_
   omega
theorem Kr {l:bf} {r:cL} (hr:r.ai.length≤10) {k j:Nat} {rs fs:List Int} (hk:k≤5) (hj:j≤11):(iB l r k rs fs j).length≤40000000:=by
 have A: ∀ j,(iB l r k rs fs j).length≤j*12^(k+1):=by
  intro j
  induction j with
  |zero=>simp [iB]
  |succ j ih=>
   cases e:o1 l r rs.length (gp r.Start fs+eB l rs.length) ((j:Int)-1) with
   |none=>rw [qC e,Nat.succ_mul]; exact Nat.le_trans ih (Nat.le_add_right _ _)
   |some t=>rw [nJ e,List.length_append,Nat.succ_mul]; exact Nat.add_le_add ih (yr hr k (rs++[(j:Int)-1]) (fs++[t]))
 have C:=A j
 have B:12^(k+1)≤12^6:=Nat.pow_le_pow_right dc I
 have D:j*12^(k+1)≤11*12^6:=Nat.mul_le_mul hj B
 omega
theorem uN {l:bf} {r:cL} (hr:r.ai.length≤10) {k:Nat} {rs fs:List Int} (hk:k≤6):(iq l r k rs fs).length≤40000000:=by
 have A:=yr hr k rs fs (l:=l)
 have B:12^(k+1)≤12^7:=Nat.pow_le_pow_right dc I
 omega
noncomputable def qz (l:bf) (r:cL):List dy:=iq l r l.ae.length [] []
section
variable {l:bf} {r:cL}
theorem mB:(cy l r).n=l.ae.length:=eH
theorem PM (hle:dH l=0) (hr:fx l r):LY (cy l r) (M4 l r) (eB l) r.fZ:=by
 obtain ⟨ht,B⟩:=gT hle
 refine ⟨fun b=>((o8 ht B hr).bX b).1,fun b hb=>(p6 (by rw [mB] at hb; exact hb)).symm,U,fun b o hb ho A=>?_,fun b o hb ho A=>?_⟩
 ·rw [mB] at hb
  rcases (qK hb).1 ho with rfl|⟨k,hk,s,hs,q,rfl⟩
  ·simp only at A; omega
  ·exact (Fm (by simpa using hs)).symm
 ·rw [mB] at hb
  rcases (qK hb).1 ho with rfl|⟨k,hk,s,hs,q,rfl⟩
  ·rfl
  ·simp only at A; omega
theorem qf (hle:dH l=0) (hr:fx l r) {y:dy}:y∈qz l r↔PD (cy l r) (M4 l r) (eB l) r.fZ y:=by
 obtain ⟨ht,D⟩:=gT hle
 have hl: ∀ n,n<l.ae.length→0≤eB l n:=fun n hn=>by have:=nA ht D (i:=n) hn; omega
 unfold qz
 rw [K7 hl _ _ _ _ sm rfl (Int.le_refl _)]
 constructor
 ·rintro ⟨ss,gs,B,A,rfl,C⟩
  exact ⟨B,by rw [mB]; exact A,U,C⟩
 ·rintro ⟨B,A,E,C⟩
  rw [mB] at A
  exact ⟨y.gH,y.iX,B,A,by rw [List.nil_append,List.nil_append]; unfold jB; rw [← E],C⟩
theorem IW (hle:dH l=0) (hr:fx l r) {k:Nat} (hk:k≤l.ae.length):((qz l r).any fun y=>decide (y.gH.length=k))=jC (cy l r) (fwd (cy l r) k):=by
 rw [Bool.eq_iff_iff,Dd,List.any_eq_true]
 constructor
 ·rintro ⟨y,hy,e⟩
  have h:=(qf hle hr).1 hy
  exact ⟨y.gH,y.iX,of_decide_eq_true e,h.chain,h.may⟩
 ·rintro ⟨rs,fs,e,A,B⟩
  exact ⟨⟨rs,fs,(gO (M4 l r) (eB l) r.fZ 0 rs).1⟩,(qf hle hr).2 ⟨A,by rw [mB]; simp only; omega,U,B⟩,dK e⟩
theorem fB (hle:dH l=0) (hr:fx l r):qz l r=[]↔jU (cy l r)=[]:=by
 constructor
 ·intro h
  apply List.eq_nil_iff_forall_not_mem.2
  intro x hx
  obtain ⟨k,rfl,hk,hm⟩:=o2.1 hx
  rw [mB] at hk
  rw [← IW hle hr hk,h] at hm
  cases hm
 ·intro h
  apply List.eq_nil_iff_forall_not_mem.2
  intro y hy
  have hw:=(qf hle hr).1 hy
  have:(y.gH.length:Int)∈jU (cy l r):=o2.2 ⟨y.gH.length,rfl,hw.len,Dd.2 ⟨_,_,rfl,hw.chain,hw.may⟩⟩
  rw [h] at this; cases this
/-- the times at a beam, by all ways -/
def jd (b:Nat) (ws:List dy):List (Int×aa):=ws.filterMap fun y=>match y.gH[b]?,y.iX[b]?,y.mj[b]? with
 |some s,some f,some e=>some (s,⟨f,e⟩)
 |_,_,_=>none
theorem oj {b:Nat} {ws:List dy} {q:Int×aa}:q∈jd b ws↔ ∃ y∈ws,y.gH[b]? =some q.1∧y.iX[b]? =some q.2.Lo∧y.mj[b]? =some q.2.Hi:=by
 unfold jd
 rw [List.mem_filterMap]
 constructor
 ·rintro ⟨y,hy,h⟩
  cases e1:y.gH[b]? with
  |none=>rw [e1] at h; cases h
  |some s=>
   cases e2:y.iX[b]? with
   |none=>rw [e1,e2] at h; cases h
   |some f=>
    cases e3:y.mj[b]? with
    |none=>rw [e1,e2,e3] at h; cases h
    |some e=>
     rw [e1,e2,e3] at h; cases h
     exact ⟨y,hy,e1,e2,e3⟩
 ·rintro ⟨y,hy,A,B,C⟩
  exact ⟨y,hy,by rw [A,B,C]⟩
theorem yj {b:Nat} {ws:List dy} {y:dy} (h:y.gH.length≤b):jd b (ws++[y])=jd b ws:=by
 unfold jd; rw [List.filterMap_append]; simp [List.getElem?_eq_none h]
theorem qn {b:Nat} {ws:List dy} {y:dy} {s f e:Int} (h1:y.gH[b]? =some s) (h2:y.iX[b]? =some f) (h3:y.mj[b]? =some e):jd b (ws++[y])=jd b ws++[(s,⟨f,e⟩)]:=by
 unfold jd; rw [List.filterMap_append]; simp [h1,h2,h3]
theorem JS (hle:dH l=0) (hr:fx l r) {y:dy} (hy:y∈qz l r):y.iX.length=y.gH.length∧y.mj.length=y.gH.length∧y.gH.length≤l.ae.length:=by
 have h:=(qf hle hr).1 hy
 exact ⟨kv _ _ _ _ h.chain,by rw [h.last,rR],by have:=h.len; rwa [mB] at this⟩
theorem uo (hle:dH l=0) (hr:fx l r) {b:Nat} (hb:b<l.ae.length) {s t:Int}:(∃ q∈mF (cy l r) b,q.1=s∧q.2.Lo≤t∧t≤q.2.Hi)↔ ∃ q∈jd b (qz l r),q.1=s∧q.2.Lo≤t∧t≤q.2.Hi:=by
 have hh:=PM hle hr
 rw [AQ hh.low (by rw [mB]; exact hb),Mt hh hr.time.2.1 (by rw [mB]; exact hb)]
 constructor
 ·rintro ⟨y,hy,f,e,A,B,C,D,E⟩
  exact ⟨(s,⟨f,e⟩),oj.2 ⟨y,(qf hle hr).2 hy,A,B,C⟩,U,D,E⟩
 ·rintro ⟨q,hq,rfl,D,E⟩
  obtain ⟨y,hy,A,B,C⟩:=oj.1 hq
  exact ⟨y,(qf hle hr).1 hy,_,_,A,B,C,D,E⟩
/-- a way's span is none that is empty -/
theorem xy (hle:dH l=0) (hr:fx l r) {b:Nat} {q:Int×aa} (hq:q∈jd b (qz l r)):q.2.Lo≤q.2.Hi:=by
 have hh:=PM hle hr
 obtain ⟨y,hy,C,D,H⟩:=oj.1 hq
 obtain ⟨hc,hn,B,hm⟩:=(qf hle hr).1 hy
 obtain ⟨R,F,La⟩:=y
 simp only at C D H hc hn B
 have G:=(aX.1 C).1
 have E:=(aX.1 D).1
 have L:=kv _ _ _ _ hc
 have eR:R=R.take b++q.1::R.drop (b+1):=by rw [← (aX.1 C).2]; exact (List.take_append_drop b R).symm.trans (by rw [List.drop_eq_getElem_cons G])
 have eF:F=F.take b++q.2.Lo::F.drop (b+1):=by rw [← (aX.1 D).2]; exact (List.take_append_drop b F).symm.trans (by rw [List.drop_eq_getElem_cons E])
 rw [eR,eF,rY _ _ _ _ _ _ (by simp only [List.length_take]; omega)] at hc
 have AA:(R.take b).length=b:=by rw [List.length_take]; omega
 rw [AA,Nat.zero_add] at hc
 obtain ⟨M,⟨o,ho,K,N,O⟩,J⟩:=hc
 have A:=ug (hi:=M4 l r) (least:=eB l) (now:=r.fZ) 0 (R.take b) q.1 (R.drop (b+1))
 rw [← eR,AA,Nat.zero_add,← B,H] at A
 have A:=Option.some.inj A
 have he:=rF hh (b+1) q.2.Lo (R.drop (b+1)) (F.drop (b+1)) (by rw [List.length_drop]; omega) I J
 rw [← K] at A
 split at A
 ·rename_i z
  have:=hh.hi b o I ho z
  omega
 ·omega
theorem Dr {a b:List (Int×aa)} {h k:aa} (ha:kD a h) (hb:kD b k) (hab: ∀ x∈b,(∃ y∈a,y.2.Lo≤x.2.Lo)∧ ∃ y∈a,x.2.Hi≤y.2.Hi) (hba: ∀ x∈a,(∃ y∈b,y.2.Lo≤x.2.Lo)∧ ∃ y∈b,x.2.Hi≤y.2.Hi):h=k:=by
 rcases ha with ⟨rfl,rfl⟩|ha
 ·rcases hb with ⟨rfl,rfl⟩|hb
  ·rfl
  ·obtain ⟨x,hx,_⟩:=hb.lo
   obtain ⟨⟨y,hy,_⟩,_⟩:=hab x hx
   cases hy
 ·rcases hb with ⟨rfl,rfl⟩|hb
  ·obtain ⟨x,hx,_⟩:=ha.lo
   obtain ⟨⟨y,hy,_⟩,_⟩:=hba x hx
   cases hy
  ·obtain ⟨M,E,AA⟩:=ha.lo
   obtain ⟨N,F,V⟩:=ha.hi
   obtain ⟨O,G,W⟩:=hb.lo
   obtain ⟨P,H,X⟩:=hb.hi
   obtain ⟨⟨AB,A,Y⟩,_⟩:=hba M E
   obtain ⟨_,J,B,Z⟩:=hba N F
   obtain ⟨⟨K,C,c⟩,_⟩:=hab O G
   obtain ⟨_,L,D,d⟩:=hab P H
   have Q:=hb.all AB A
   have R:=hb.all J B
   have S:=ha.all K C
   have T:=ha.all L D
   apply aa.ext
   ·omega
   ·omega
theorem LD (hle:dH l=0) (hr:fx l r) {b:Nat} (hb:b<l.ae.length) {h:aa} (hh:kD (jd b (qz l r)) h):h=mT l r b:=by
 have hk:=uO (l:=mF (cy l r) b) (fun q hq=>nq hq)
 refine Dr hh hk (fun x hx=>?_) (fun x hx=>?_)
 ·have hle':=nq hx
  obtain ⟨y,hy,_,A,C⟩:=(uo hle hr hb (s:=x.1) (t:=x.2.Lo)).1 ⟨x,hx,rfl,Int.le_refl _,hle'⟩
  obtain ⟨z,hz,_,D,B⟩:=(uo hle hr hb (s:=x.1) (t:=x.2.Hi)).1 ⟨x,hx,rfl,hle',Int.le_refl _⟩
  exact ⟨⟨y,hy,A⟩,z,hz,B⟩
 ·have hle':=xy hle hr hx
  obtain ⟨y,hy,_,A,C⟩:=(uo hle hr hb (s:=x.1) (t:=x.2.Lo)).2 ⟨x,hx,rfl,Int.le_refl _,hle'⟩
  obtain ⟨z,hz,_,D,B⟩:=(uo hle hr hb (s:=x.1) (t:=x.2.Hi)).2 ⟨x,hx,rfl,hle',Int.le_refl _⟩
  exact ⟨⟨y,hy,A⟩,z,hz,B⟩
end
def qg (ws:List dy) (b:Nat):Int:=if wc (jd b ws)=mN then 6 else 0
def pQ (ws:List dy) (b:Nat):aa:=if wc (jd b ws)=mN then ⟨0,0⟩ else wc (jd b ws)
theorem NM {l:List (Int×aa)} {h:aa} (hh:kD l h) (hl: ∀ q∈l,q.2.Lo≤q.2.Hi):wc l=h:=
 Dr (uO hl) hh (fun x hx=>⟨⟨x,hx,Int.le_refl _⟩,x,hx,Int.le_refl _⟩) (fun x hx=>⟨⟨x,hx,Int.le_refl _⟩,x,hx,Int.le_refl _⟩)
theorem EL {ws:List dy} {b:Nat} (h:jd b ws=[]):qg ws b=6∧pQ ws b=⟨0,0⟩:=by
 unfold qg pQ; rw [h]; exact ⟨if_pos rfl,if_pos rfl⟩
theorem EA {ws:List dy} {b:Nat} {o:aa} (hl: ∀ q∈jd b ws,q.2.Lo≤q.2.Hi) (h:oT (jd b ws) o):qg ws b=0∧pQ ws b=o:=by
 have e:=NM (.inr h) hl
 unfold qg pQ; rw [e]; exact ⟨if_neg h.ne,if_neg h.ne⟩
/-- what was found until now -/
def oi (b:Nat) (ws:List dy) (fd:Bool) (o:aa):Prop:=(fd=false∧jd b ws=[])∨(fd=true∧oT (jd b ws) o)
theorem Ij {b:Nat} {o:aa}:oi b [] false o:= .inl ⟨rfl,rfl⟩
theorem Dy {q:Int×aa} (hq:q.2.Lo≤q.2.Hi):oT [q] q.2:=⟨hq,⟨q,sm,rfl⟩,⟨q,sm,rfl⟩,fun x hx=>by simp at hx; subst hx; exact ⟨Int.le_refl _,Int.le_refl _⟩⟩
theorem AX {l:List (Int×aa)} {h:aa} {q:Int×aa} (hh:oT l h) (hq:q.2.Lo≤q.2.Hi):oT (l++[q]) ⟨min q.2.Lo h.Lo,max q.2.Hi h.Hi⟩:=by
 have:=vt (.inr hh) hq
 unfold mL at this
 rw [if_neg hh.ne] at this
 rcases this with ⟨e,_⟩|this
 ·simp at e
 ·exact this
theorem E4 {b:Nat} {ws:List dy} {fd:Bool} {o:aa} {y:dy} (h:oi b ws fd o) (hy:y.gH.length≤b):oi b (ws++[y]) fd o:=by
 unfold oi; rw [yj hy]; exact h
theorem Dv {b:Nat} {ws:List dy} {fd:Bool} {o:aa} {y:dy} {s f e:Int} (h:oi b ws fd o) (hf:fd=false) (h1:y.gH[b]? =some s) (h2:y.iX[b]? =some f) (h3:y.mj[b]? =some e) (hle:f≤e):oi b (ws++[y]) true ⟨f,e⟩:=by
 rcases h with ⟨_,q⟩|⟨q,_⟩
 ·right
  rw [qn h1 h2 h3,q]
  exact ⟨U,Dy hle⟩
 ·rw [q] at hf; cases hf
theorem Ef {b:Nat} {ws:List dy} {fd:Bool} {o:aa} {y:dy} {s f e:Int} (h:oi b ws fd o) (hf:fd=true) (h1:y.gH[b]? =some s) (h2:y.iX[b]? =some f) (h3:y.mj[b]? =some e) (hle:f≤e):oi b (ws++[y]) true ⟨min f o.Lo,max e o.Hi⟩:=by
 rcases h with ⟨q,_⟩|⟨_,q⟩
 ·rw [q] at hf; cases hf
 ·right
  rw [qn h1 h2 h3]
  exact ⟨U,AX q hle⟩
theorem zg {b:Nat} {ws:List dy} {fd:Bool} {o:aa} (h:oi b ws fd o) (hl: ∀ q∈jd b ws,q.2.Lo≤q.2.Hi):(fd=false→qg ws b=6∧pQ ws b=⟨0,0⟩)∧(fd=true→qg ws b=0∧pQ ws b=o):=by
 rcases h with ⟨q,h⟩|⟨q,h⟩
 ·exact ⟨fun _=>EL h,fun e=>(by rw [q] at e; cases e)⟩
 ·exact ⟨fun e=>(by rw [q] at e; cases e),fun _=>EA hl h⟩
section
variable {l:bf} {r:cL}
theorem Mz (he:eO l r 0=0) {b:Nat} (hb:b<l.ae.length):qg (qz l r) b=e8 l r b∧pQ (qz l r) b=fh l r b:=by
 obtain ⟨A,hr,_,_⟩:=kg he
 have h:=LD A hr hb (uO fun q hq=>xy A hr hq)
 have ho:eO l r (jW l b)=0:=by rw [Hz hb]; exact he
 unfold qg pQ
 rw [h]
 by_cases e:mT l r b=mN
 ·rw [if_pos e,if_pos e,(rh ho e).1,(rh ho e).2]; exact ⟨rfl,rfl⟩
 ·rw [if_neg e,if_neg e,(ox ho e).1,(ox ho e).2]; exact ⟨rfl,rfl⟩
theorem P7 (hle:dH l=0) (hr:fx l r) {y:dy} (hy:y∈qz l r) {b:Nat} {f e:Int} (hb:b<y.gH.length) (h2:y.iX[b]? =some f) (h3:y.mj[b]? =some e):f≤e:=
 xy hle hr (q:=(y.gH[b],⟨f,e⟩)) (oj.2 ⟨y,hy,e7 _,h2,h3⟩)
theorem Dx:eO l r (jW l l.cq)=eO l r 0:=by
 by_cases h:dH l=0
 ·obtain ⟨_,A⟩:=gT h
  have hh:=A.head
  unfold gJ at hh
  rw [ym I]
 ·rw [oy h,oy h]
theorem wa (h: ¬ eO l r 0=0):e8 l r l.cq=eO l r 0:=by
 have:=(oe (b:=l.cq) (by rw [Dx]; exact h)).1
 rw [this,Dx]
/-- rows of times that are those of ways -/
structure Ob (ws:List dy):Prop where
 lens: ∀ y∈ws,y.iX.length=y.gH.length∧y.mj.length=y.gH.length∧y.gH.length≤6
 le: ∀ y∈ws,∀ (b:Nat) f e,b<y.gH.length→y.iX[b]? =some f→y.mj[b]? =some e→f≤e
 num:ws.length≤40000000
theorem Ob.Ge {ws:List dy} (h:Ob ws) {b:Nat}: ∀ q∈jd b ws,q.2.Lo≤q.2.Hi:=fun q hq=>by
 obtain ⟨y,hy,A,B,C⟩:=oj.1 hq
 exact h.le y hy b _ _ (aX.1 A).1 B C
theorem Q8 (hle:dH l=0) (hr:fx l r):Ob (qz l r):=by
 obtain ⟨ht,B⟩:=gT hle
 have hh:=B.head
 unfold gJ at hh
 refine ⟨fun y hy=>?_,fun y hy b f e hb A C=>P7 hle hr hy hb A C,uN hr.len I⟩
 obtain ⟨D,A,C⟩:=JS hle hr hy
 exact ⟨D,A,I⟩
end
end
section
open Go.RowKit
theorem Df (l:List dy) (az:List kJ): ∀ v∈(List.zipWith dy.cells l az).flatten,v.oneCell'=true:=by
 induction l generalizing az with
 |nil=>intro v hv; simp at hv
 |cons x l ih=>
  cases az with
  |nil=>intro v hv; simp at hv
  |cons a az=>
   intro v hv
   simp only [List.zipWith_cons_cons,List.flatten_cons,dQ] at hv
   rcases hv with hv|hv
   ·simp only [dy.cells,yQ.cells,bE,List.not_mem_nil,or_false] at hv
    rcases hv with rfl|rfl|rfl<;>rfl
   ·exact ih az v hv
theorem Nv: ∀ (m:dy) (a:kJ) (w:World),(∀ X∈dy.owns m a,X.holds w)→ ∀ X∈dy.gE m a,X.holds w:=fun m a w h X hX=>by
 simp only [dy.gE,bE,List.not_mem_nil,or_false] at hX
 have A:=ob (h (own a.1.1 a.1.2 l4 1 (m.gH.map iC)) (by simp [dy.owns]))
 have B:=ob (h (own a.2.1.1 a.2.1.2 l4 1 (m.iX.map iC)) (by simp [dy.owns]))
 have C:=ob (h (own a.2.2.1 a.2.2.2 l4 1 (m.mj.map iC)) (by simp [dy.owns]))
 rcases hX with rfl|rfl|rfl
 ·simpa using A
 ·simpa using B
 ·simpa using C
theorem pW: ∀ (l:List dy) (az:List kJ),(aU dy.owns l az).all (·.wr)=true
 |[],_=>rfl
 |_::_,[]=>rfl
 |x::l,a::az=>by
  simp only [aU,List.all_append,cW]
  exact ⟨U,pW l az⟩
theorem I7 (l:List dy) (az:List kJ):(bB (aU dy.owns l az)).wr=true:=pW l az
theorem Jw {l m:List dy} {az bz:List kJ} (h:az.length=l.length):List.zipWith dy.cells (l++m) (az++bz)=List.zipWith dy.cells l az++List.zipWith dy.cells m bz:=List.zipWith_append h.symm
theorem ue {l:List dy} {az:List kJ} (h:az.length=l.length):(List.zipWith dy.cells l az).length=l.length:=by rw [List.length_zipWith]; omega
/-- what is read of a thing that is tied, and frozen -/
theorem qa {C L:List aw} {a:OA} {c e sz n:Nat} {es:List (List Value)} (i:Nat) (hC:C[i]? =some (bB L).ro) (hm:own a c e sz es∈L) (hn:es.length=n):g9 C (rd a n sz es).holds:=fun w hw=>by
 subst hn
 exact ob ((show (bB L).holds w from (hw _ (aS hC):(bB L).ro.holds w)).1 _ hm)
section
variable {E:fq} {ops:Array Oper} {Q:dk} {rest:List Oper} {D:List Deferred} {L:List (Nat×Value)} {C C1:List aw}
theorem St.QQ {S:BS} {w0 w:World} {X C:List aw} {A:aw} (h:St S w0 (bB (X++[A])::C) w):St S w0 (A::bB X::C) w:=by
 have B:=h.iz
 have D:St S w0 (X++(A::C)) w:=by simpa using B
 exact D.tied.perm (List.Perm.swap _ _ _)
theorem St.merge {S:BS} {w0 w:World} {X Y C:List aw} (h:St S w0 (bB X::bB Y::C) w):St S w0 (bB (X++Y)::C) w:=by
 have A:St S w0 (bB Y::(X++C)) w:=(h.iz).perm (List.perm_middle (a:=bB Y) (l₁:=X) (l₂:=C))
 have B:St S w0 (Y++(X++C)) w:=A.iz
 have D:St S w0 ((X++Y)++C) w:=B.perm (by rw [← List.append_assoc]; exact List.perm_append_comm.append_right _)
 exact D.tied
end
section
variable {E:fq} {ops:Array Oper} {Q:dk} {rest:List Oper} {D:List Deferred} {L:List (Nat×Value)} {C:List aw}
theorem Bw {A:aw} {X X':List aw} (e:X++[A]=X') (h:RJ E ops Q rest D L (bB X'::C)):RJ E ops Q rest D L (A::bB X::C):=fun a w hf hs=>h a w hf (hs.tie e)
theorem zS {X:List aw} {A:aw} (h:RJ E ops Q rest D L (A::bB X::C)):RJ E ops Q rest D L (bB (X++[A])::C):=fun a w hf hs=>h a w hf hs.QQ
theorem J_ {K:Act→World→Prop} {ms ns:List dy} {az bz:List kJ} (hl:az.length=ms.length) (h:KJ E K D L (bB (aU dy.owns (ms++ns) (az++bz))::C)):KJ E K D L (bB (aU dy.owns ms az)::bB (aU dy.owns ns bz)::C):=fun a w hf hs=>h a w hf (by rw [jt hl.symm]; exact hs.merge)
end
/-- the head of the ways: the way that ends here, if it may -/
def xB (l:bf) (r:cL) (rs fs:List Int) (ra fa:RA) (hz:List kJ) (LA:List aw):Prop:=
 ((r.ai.length:Int)-(dq rs).right≤l.dM∧ ∃ la:RA,hz=[(ra,fa,la)]∧LA=[own la.1 la.2 l4 1 ((jB l r rs).map iC)])∨(¬ (r.ai.length:Int)-(dq rs).right≤l.dM∧hz=[]∧LA=[])
theorem xB.len {l:bf} {r:cL} {rs fs:List Int} {ra fa:RA} {hz:List kJ} {LA:List aw} (h:xB l r rs fs ra fa hz LA):hz.length=(g5 l r rs fs).length:=by
 unfold g5
 rcases h with ⟨q,la,rfl,rfl⟩|⟨q,rfl,rfl⟩
 ·rw [if_pos q]; rfl
 ·rw [if_neg q]; rfl
theorem xB.wr {l:bf} {r:cL} {rs fs:List Int} {ra fa:RA} {hz:List kJ} {LA:List aw} (h:xB l r rs fs ra fa hz LA):LA.all (·.wr)=true:=by
 rcases h with ⟨q,la,rfl,rfl⟩|⟨q,rfl,rfl⟩<;>rfl
theorem JM {S:BS} {w0 w:World} {l:bf} {r:cL} {rs fs:List Int} {ra fa:RA} {hz az:List kJ} {LA:List aw} {R:List dy} {A:aw} (hh:xB l r rs fs ra fa hz LA)
 (h:St S w0 [bB [own ra.1 ra.2 l4 1 (rs.map iC),own fa.1 fa.2 l4 1 (fs.map iC)],A,bB LA,bB (aU dy.owns R az)] w):St S w0 [bB (aU dy.owns (g5 l r rs fs++R) (hz++az)++[A])] w:=by
 rw [jt hh.len.symm]
 have D:St S w0 [own ra.1 ra.2 l4 1 (rs.map iC),own fa.1 fa.2 l4 1 (fs.map iC),A,bB LA,bB (aU dy.owns R az)] w:=h.iz
 rcases hh with ⟨q,la,rfl,rfl⟩|⟨q,rfl,rfl⟩
 ·unfold g5
  rw [if_pos q]
  have B:=(St.kF [3,0,1,2,4] rfl rfl D).iz
  have E:=(St.kF [4,1,2,0,3] rfl rfl B).iz
  have C:St S w0 (((aU dy.owns [(⟨rs,fs,jB l r rs⟩:dy)] [(ra,fa,la)]++aU dy.owns R az)++[A])++[]) w:=by
   rw [List.append_nil]
   refine E.perm ?_
   show (aU dy.owns R az++(aU dy.owns [(⟨rs,fs,jB l r rs⟩:dy)] [(ra,fa,la)]++[A])).Perm _
   rw [← List.append_assoc]
   exact List.perm_append_comm.append_right _
  exact C.tied
 ·unfold g5
  rw [if_neg q]
  have B:=(St.kF [4,2] rfl rfl D).iz
  have C:St S w0 (((aU dy.owns [] []++aU dy.owns R az)++[A])++[]) w:=by
   rw [List.append_nil]; exact B
  exact C.tied
theorem Ko {E:fq} {K:Act→World→Prop} {D:g3} {L:dw} {l:bf} {r:cL} {rs fs:List Int} {ra fa:RA} {hz az z:List kJ} {LA:List aw} {R W:List dy} {A A':aw} (hh:xB l r rs fs ra fa hz LA) (hW:g5 l r rs fs++R=W) (hz':hz++az=z) (hA:A=A')
 (h:KJ E K D L [bB (aU dy.owns W z++[A'])]):KJ E K D L [bB [own ra.1 ra.2 l4 1 (rs.map iC),own fa.1 fa.2 l4 1 (fs.map iC)],A,bB LA,bB (aU dy.owns R az)]:=fun a w hf hs=>h a w hf (by subst hW hz' hA; exact JM hh hs)
theorem Ro {E:fq} {K:Act→World→Prop} {D:g3} {L:dw} {X A:aw} {W:List dy} (h:KJ E K D L [bB (aU dy.owns W []++[A])]):KJ E K D L [X,A]:=fun a w hf hs=>h a w hf (by
 have B:St E.S E.w0 [A] w:=St.kF [1] rfl rfl hs
 have C:St E.S E.w0 (([]++[A])++[]) w:=B
 have e:aU dy.owns W []=[]:=by cases W<;>rfl
 rw [e]
 exact C.tied)
theorem Iy {E:fq} {K:Act→World→Prop} {D:g3} {L:dw} {C:List aw} (e sz:Nat) (k:KJ E K D L (own none 0 e sz []::C)):KJ E K D L C:=fun a w hf hs=>k a w hf (hs.rE e sz)
end
section
theorem TN.sub {E:fq} {ops:Array Oper} {Q:dk} {D:g3} {C' C1 C:List aw} {tb rem:List Nat}: ∀ {n:Nat} {L L':dw},dj L L'→TN E ops D C' C1 (fun L C=>KJ E (Q .normal) D L C) tb n rem L' C→TN E ops D C' C1 (fun L C=>KJ E (Q .normal) D L C) tb n rem L C:=by
 intro n
 cases n with
 |zero=>intro L L' hs h; exact jT hs (fun _ h=>h) h
 |succ n=>intro L L' hs h i hi o ho K hK; exact PR hs (fun _ h=>h) (h i hi o ho K hK)
theorem M9 {E:fq} {ops:Array Oper} {Q:dk} {D:g3} {C' C1 C:List aw} {bs:List Bool} {os:List Oper} {L:dw} {tb rem:List Nat} {n:Nat} {t:Nat} {b:Bool} (h:L.lookup t=some (.bool b))
 (h1:b=true→qA E ops D C' C1 (fun L'=>TN E ops D C' C1 (fun L C=>KJ E (Q .normal) D L C) tb n rem L' C) bs os ((t,.bool true)::L)) (h2:b=false→qA E ops D C' C1 (fun L'=>TN E ops D C' C1 (fun L C=>KJ E (Q .normal) D L C) tb n rem L' C) bs os ((t,.bool false)::L)):
 qA E ops D C' C1 (fun L'=>TN E ops D C' C1 (fun L C=>KJ E (Q .normal) D L C) tb n rem L' C) bs os L:=by
 have A: ∀ v:Bool,b=v→dj L ((t,.bool v)::L):=fun v hv=>dj.cons (hv▸h) (fun _ _ h=>h)
 cases b
 ·exact qA.mono (fun _ _=>TN.sub) (A _ U) (h2 U)
 ·exact qA.mono (fun _ _=>TN.sub) (A _ U) (h1 U)
theorem Jr {E:fq} {ops:Array Oper} {Q:dk} {D:List Deferred} {L:List (Nat×Value)} {C1 C2 C:List aw} {t n:Nat} {b:Bool} {bs:List Bool} {os:List Oper} {tb rem:List Nat} (h:L.lookup t=some (.bool b)) (h2:b=false→qA E ops D C2 C1 (fun L2=>TN E ops D C2 C1 (fun L C=>KJ E (Q .normal) D L C) tb n rem L2 C) bs os ((t,.bool false)::L)) (h1:b=true→qA E ops D C2 C1 (fun L2=>TN E ops D C2 C1 (fun L C=>KJ E (Q .normal) D L C) tb n rem L2 C) bs os ((t,.bool true)::L)):qA E ops D C2 C1 (fun L2=>TN E ops D C2 C1 (fun L C=>KJ E (Q .normal) D L C) tb n rem L2 C) bs os L:=M9 h h1 h2
end
section
open Go.RowKit
theorem iS (n lo hi:Int):
 er Tryz.prog 153 [(vI n),(vI lo),(vI hi)] [] (vB (decide (lo≤n∧n≤hi))):=by
 refine bI kr Tryz.func153 U U fun D Q hQ hN=>?_
 try dsimp only
 refine WS fun _ B=>bo 1 U<|RK B<|WS fun _ A=>rP 4 [] mn ?_
 refine cH (t:=10) U (aP fun C=>?_) (aO fun C=>?_)
 ·refine rP 5 [] mn ?_
  refine RK A<|ar<|Q1 hQ U U U ?_
  exact cB (gi.2 I)
 refine rP 5 [] mn ?_
 refine RK A<|ar<|Q1 hQ U U U ?_
 exact cB (bx I).symm
theorem Ce (ts:List ak) (tsA:OA) (tsC:Nat) (hst: ∀ x∈ts,bR x) (hlen:ts.length≤12):
 lx Tryz.prog 170 [(vA (bw.cells (bw.mk (bq.mk tsA ts.length tsC))))] [(rd tsA ts.length 9 (ts.map ak.cells))] (fun (x:(OA)×Nat)=>(vS x.1 ((ij ts (ts.length+1)).length) x.2)) (fun (x:(OA)×Nat)=>True) (fun (x:(OA)×Nat)=>[(own x.1 x.2 40 2 ((ij ts (ts.length+1)).map aa.cells))]):=by
 refine dp kr Tryz.func170 U U fun V Q hQ hN=>?_
 try dsimp only
 refine WS fun _ J=>fK U fun AA=>bo 1 U<|RK J<|WS fun _ K=>bo 1 U<|RK K<|aj fun _ L=>WS fun _ M=>rP 1 [] mn ?_
 refine RK M<|ay<|gl 40 2 ?_
 have A:(0≤ts.length+1):=by exact Nat.zero_le _
 refine bK (ι:={z:Nat×(OA)×Nat // (z.1≤ts.length+1)}) [1] [1,2] U U (fun z=>[(3,(vS z.1.2.1 ((ij ts z.1.1).length) z.1.2.2)),(4,(vI (z.1.1:Int)))]) (fun z=>[(own z.1.2.1 z.1.2.2 40 2 ((ij ts z.1.1).map aa.cells))]) (fun _=>rfl) (fun _=>rfl) (fun z=>ts.length+1-z.1.1) ⟨(0,none,0),A⟩ (aT U) (aI [1,2,0]) ?_
 clear A
 rintro ⟨⟨i,a,c⟩,B⟩ J6 AB
 try dsimp only at B
 try dsimp only
 refine aj fun _ N=>WS fun _ O=>rP 5 [] (mc 0 U mn) ?_
 refine RK O<|bO U (aO fun T=>?_) (aP fun T=>?_)
 ·refine bD<|ab<|ab<|aA<|KK L<|WS fun _ E=>?_
  obtain rfl:i=ts.length+1:=by omega
  refine rP 2 [] mn ?_
  refine RK E<|ar<|LX hQ (a,c) [2] [] mn U U U U ?_
  trivial
 refine WK N<|aj fun _ C=>ay<|WS fun _ D=>fG 2 [] (mc 0 U mn) U<|rS (CL (Ao ts tsA tsC 0 (i:Int) hst hlen I) (bk [1]) U)<|bo 3 U<|AL U dx fun P=>AL U dx fun R=>sj U cz U<|fW U cz U<|RK D<|al<|rP 2 [] (mc 1 U mn) ?_
 refine du (xs:=[.tmp 21]) (cs:=(aa.cells (eQ ts (0:Int).toNat ((i:Int)-0).toNat))) U jY dx U U U U (by simp [Value.cells,aa.aW]) U U fun S=>?_
 refine cO (es2:=(List.map aa.cells (ij ts (i+1)))) (m':=(ij ts (i+1)).length) 5 U U U Et U U sm (bp (es:=List.map aa.cells [(eQ ts (0:Int).toNat ((i:Int)-0).toNat)]) 0 U U (by simp [aa.aW]) U) (hP _) (by simp only [oU]; omega) (by simp only [maxLen,oU]; omega) (by rw [CP]; simp) sm U fun G H=>?_
 try dsimp only
 refine bo 1 U<|aD<|aG<|KK C<|al<|rP 3 [] mn ?_
 refine aD ?_
 have F:(vI (((i+1):Nat):Int))=(vI ((i:Int)+1)):=by exact cI I
 refine aR (AB ⟨((i+1),G,H),(by first|omega|(simp only []; omega))⟩ _ _ _ U os (dj.cons U<|dj.cons U<|aY U F<|dj.nil _) (aI [3,4,5]))
theorem Ur (ts:List ak) (tsA:OA) (tsC:Nat) (s:cK) (hlen:ts.length≤1000000) (hside: ∀ x∈ts,0≤x.iZ∧x.iZ≤255):
 er Tryz.prog 165 [(vA (bw.cells (bw.mk (bq.mk tsA ts.length tsC)))),(vA (cK.cells s))] [(rd tsA ts.length 9 (ts.map ak.cells))] (vT [(vA (aa.cells (Rc ts s))),(vI (Gb ts s))]):=by
 refine bI kr Tryz.func165 U U fun r Q hQ hN=>?_
 try dsimp only
 refine WS fun _ R=>fK U fun i=>fK U fun k=>AL U dx fun l=>bo 1 U<|RK R<|aj fun _ S=>WS fun _ T=>fG 1 [] (mc 2 U mn) U<|rS (CL (wO ts tsA tsC hlen) (bk [3]) U)<|rP 1 [] mn ?_
 refine RK T<|cE U (fun AB=>?_) (fun AB=>?_)
 ·rw [Bool.not_eq_true'] at AB
  refine WS fun _ AA=>rS (SX (bu (xs:=[]) (cs:=(aa.cells (aa.mk 0 0))) U U (br gG U)) U U)<|fW U cz U<|rP 1 [] mn ?_
  refine RK AA<|ar<|lP hQ [0] (mc 0 U mn) U ?_
  (have e:=Mn (s:=s) (by simpa using AB); rw [e.1,e.2]<;>rfl)
 rw [Bool.not_eq_false'] at AB
 refine WK S<|aj fun _ V=>WS fun _ W=>?_
 have M:=j0 AB
 have Z:=kT AB
 refine fG 2 [0,1] (mc 2 U (mc 1 U mn)) U<|rS (CL (rX ts tsA tsC s asm asm) (bk [3]) U)<|rP 1 [] mn ?_
 refine RK W<|cE U (aZ fun D=>?_) (a_ fun D=>?_)
 ·refine WS fun _ O=>rS (SX (bu (xs:=[]) (cs:=(aa.cells (aa.mk 0 0))) U U (br gG U)) U U)<|fW U cz U<|rP 1 [] mn ?_
  refine RK O<|ar<|lP hQ [0] (mc 0 U mn) U ?_
  (have e:=LQ AB D; rw [e.1,e.2]<;>rfl)
 refine WK V<|aj fun _ H=>ow cv [0,2,3] [1,4,5,6,7] [false,false,false] [] [(cm l 40 (aa.cells (aa.mk 0 0))),(cm k 111 (cK.cells s)),(cm i 27 (bw.cells (bw.mk (bq.mk tsA ts.length tsC)))),(rd tsA ts.length 9 (ts.map ak.cells)).ro] [] kr (aI [0,1,2,3]) (aI []) ?_
 have q:=D.1
 have N:=rq M D
 have p:(ij ts (ts.length+1)).length=ts.length+1:=oU
 refine eS U (LW 2 U cb U U)<|eS U (FA 0 U fw U)<|eS U (L1 (vI s.bj) 1 U cb U U)<|eT U<|iJ [1,6] kr (ek ?_<|ek ?_<|j_)
 rotate_left 1
 ·refine NO U U [1,4,5,7] fun T12 J=>AL U dx fun f=>RD J 1 U<|N1 1<|NO U U [4,5,7] fun T14 P=>cX (Ce ts tsA tsC asm asm) (bk [4]) U fun Y b=>?_
  obtain ⟨d,o⟩:=Y
  try dsimp only
  refine RD P 2 U<|N1 4<|NO U U [5,7] fun T19 E=>?_
  obtain ⟨z,hz⟩:=aH (ij ts (ts.length+1)) ((s.bj).toNat) I
  have A:=bJ aa.cells hz
  refine rS (IA ((s.bj).toNat) U (ag (n:=(ij ts (ts.length+1)).length) 0 U sm) jY dc I I)<|RD E 2 U<|N1 5<|NO U U [7] fun T20 F=>rS (lS ((s.bj).toNat) 0 (aa.cells z) U cb (ag (n:=(ij ts (ts.length+1)).length) 0 U sm) A U dc U U)<|RD F 2 U<|N1 7<|NO U U [] fun T21 C=>sj U cz U<|RD C 2 U<|od<|KK H<|WS fun _ B=>rP 1 [] mn ?_
  have A:=pK hz
  have G:=mA M 0 s.bj.toNat
  unfold lR at N
  rw [← A] at G
  refine fG 11 [0,1,0,1] (mc 1 U (mc 3 U mn)) U<|rS (SX (bu (xs:=[(0,.tmp 27),(1,.tmp 33)]) (cs:=(aa.cells (aa.mk (z.Lo+s.lO.Lo) (z.Hi+s.lO.Hi)))) U U (br gG U)) U U)<|Gx U cz U<|rP 1 [] mn ?_
  refine RK B<|ar<|lP hQ [0] (mc 2 U mn) U ?_
  (have e:=yb AB D; subst A; rw [e.1,e.2]<;>rfl)
 refine NO U U [4,5,6,7] fun T12 J=>cX (Ce ts tsA tsC asm asm) (bk [3]) U fun X a=>?_
 obtain ⟨c,m⟩:=X
 try dsimp only
 refine RD J 1 U<|iJ [4,6] kr (ek ?_<|ek ?_<|j_)
 rotate_left 1
 ·refine NO U U [4,5,7] fun T17 K=>AL U dx fun g=>RD K 2 U<|N1 4<|NO U U [5,7] fun T19 E=>?_
  obtain ⟨z,hz⟩:=aH (ij ts (ts.length+1)) ((s.bj).toNat) I
  have A:=bJ aa.cells hz
  refine rS (IA ((s.bj).toNat) U (ag (n:=(ij ts (ts.length+1)).length) 1 U sm) jY dc I I)<|RD E 2 U<|N1 5<|NO U U [7] fun T20 F=>rS (lS ((s.bj).toNat) 0 (aa.cells z) U cb (ag (n:=(ij ts (ts.length+1)).length) 1 U sm) A U dc U U)<|RD F 2 U<|N1 7<|NO U U [] fun T21 C=>fW U cz U<|RD C 2 U<|od<|KK H<|WS fun _ B=>rP 1 [] mn ?_
  have A:=pK hz
  have G:=mA M 0 s.bj.toNat
  unfold lR at N
  rw [← A] at G
  refine fG 11 [0,1,0,1] (mc 0 U (mc 3 U mn)) U<|rS (SX (bu (xs:=[(0,.tmp 27),(1,.tmp 33)]) (cs:=(aa.cells (aa.mk (z.Lo+s.lO.Lo) (z.Hi+s.lO.Hi)))) U U (br gG U)) U U)<|Gx U cz U<|rP 1 [] mn ?_
  refine RK B<|ar<|lP hQ [0] (mc 2 U mn) U ?_
  (have e:=yb AB D; subst A; rw [e.1,e.2]<;>rfl)
 refine NO U U [5,6,7] fun T17 K=>?_
 obtain ⟨z,hz⟩:=aH (ij ts (ts.length+1)) ((s.bj).toNat) I
 have A:=bJ aa.cells hz
 refine rS (IA ((s.bj).toNat) U (ag (n:=(ij ts (ts.length+1)).length) 0 U sm) jY dc I I)<|RD K 1 U<|iJ [5,6] kr (ek ?_<|ek ?_<|j_)
 rotate_left 1
 ·refine NO U U [5,7] fun T18 L=>AL U dx fun h=>RD L 2 U<|N1 5<|NO U U [7] fun T20 F=>rS (lS ((s.bj).toNat) 0 (aa.cells z) U cb (ag (n:=(ij ts (ts.length+1)).length) 1 U sm) A U dc U U)<|RD F 2 U<|N1 7<|NO U U [] fun T21 C=>fW U cz U<|RD C 2 U<|od<|KK H<|WS fun _ B=>rP 1 [] mn ?_
  have A:=pK hz
  have G:=mA M 0 s.bj.toNat
  unfold lR at N
  rw [← A] at G
  refine fG 11 [0,1,0,1] (mc 0 U (mc 3 U mn)) U<|rS (SX (bu (xs:=[(0,.tmp 27),(1,.tmp 33)]) (cs:=(aa.cells (aa.mk (z.Lo+s.lO.Lo) (z.Hi+s.lO.Hi)))) U U (br gG U)) U U)<|Gx U cz U<|rP 1 [] mn ?_
  refine RK B<|ar<|lP hQ [0] (mc 2 U mn) U ?_
  (have e:=yb AB D; subst A; rw [e.1,e.2]<;>rfl)
 refine NO U U [6,7] fun T18 L=>rS (lS ((s.bj).toNat) 0 (aa.cells z) U cb (ag (n:=(ij ts (ts.length+1)).length) 0 U sm) A U dc U U)<|RD L 1 U<|N1 6<|NO U U [7] fun T19 E=>AL U dx fun j=>RD E 2 U<|N1 7<|NO U U [] fun T21 C=>fW U cz U<|RD C 2 U<|od<|KK H<|WS fun _ B=>rP 1 [] mn ?_
 have A:=pK hz
 have G:=mA M 0 s.bj.toNat
 unfold lR at N
 rw [← A] at G
 refine fG 11 [0,1,0,1] (mc 0 U (mc 3 U mn)) U<|rS (SX (bu (xs:=[(0,.tmp 27),(1,.tmp 33)]) (cs:=(aa.cells (aa.mk (z.Lo+s.lO.Lo) (z.Hi+s.lO.Hi)))) U U (br gG U)) U U)<|Gx U cz U<|rP 1 [] mn ?_
 refine RK B<|ar<|lP hQ [0] (mc 2 U mn) U ?_
 (have e:=yb AB D; subst A; rw [e.1,e.2]<;>rfl)
theorem H8 (ts:List ak) (tsA:OA) (tsC:Nat) (p:cK) (q:cK) (hlen:ts.length≤1000000) (hside: ∀ x∈ts,0≤x.iZ∧x.iZ≤255) (hord: ¬ q.bj<p.bj):
 er Tryz.prog 166 [(vA (bw.cells (bw.mk (bq.mk tsA ts.length tsC)))),(vA (cK.cells p)),(vA (cK.cells q))] [(rd tsA ts.length 9 (ts.map ak.cells))] (vT [(vA (aa.cells (kS ts p q))),(vI (mq ts p q))]):=by
 refine bI kr Tryz.func166 U U fun k Q hQ hN=>?_
 try dsimp only
 refine WS fun _ N=>fK U fun f=>fK U fun g=>fK U fun i=>AL U dx fun j=>bo 1 U<|RK N<|aj fun _ O=>WS fun _ P=>fG 1 [] (mc 3 U mn) U<|rS (CL (wO ts tsA tsC hlen) (bk [4]) U)<|rP 1 [] mn ?_
 refine RK P<|cE U (fun A=>?_) (fun A=>?_)
 ·rw [Bool.not_eq_true'] at A
  refine WS fun _ R=>rS (SX (bu (xs:=[]) (cs:=(aa.cells (aa.mk 0 0))) U U (br gG U)) U U)<|fW U cz U<|rP 1 [] mn ?_
  refine RK R<|ar<|lP hQ [0] (mc 0 U mn) U ?_
  (have e:=vz (a:=p) (b:=q) (by simpa using A); rw [e.1,e.2]<;>rfl)
 rw [Bool.not_eq_false'] at A
 refine WK O<|aj fun _ S=>WS fun _ E=>?_
 have D:=j0 A
 have M:=kT A
 refine fG 2 [0,1] (mc 3 U (mc 2 U mn)) U<|rS (CL (rX ts tsA tsC p asm asm) (bk [4]) U)<|rP 2 [] mn ?_
 refine cH (t:=20) U (aZ fun B=>?_) (a_ fun B=>?_)
 ·refine bo 5 U<|RK E<|aN U<|WS fun _ G=>rS (SX (bu (xs:=[]) (cs:=(aa.cells (aa.mk 0 0))) U U (br gG U)) U U)<|fW U cz U<|rP 1 [] mn ?_
  refine RK G<|ar<|lP hQ [0] (mc 0 U mn) U ?_
  (have e:=pn (a:=p) (b:=q) A (fun h=>by first|exact B h.1|exact C h.2); rw [e.1,e.2]<;>rfl)
 refine fG 2 [0,1] (mc 3 U (mc 1 U mn)) U<|rS (CL (rX ts tsA tsC q asm asm) (bk [4]) U)<|rP 2 [] mn ?_
 refine RK E<|cE U (aZ fun C=>?_) (a_ fun C=>?_)
 ·refine WS fun _ H=>rS (SX (bu (xs:=[]) (cs:=(aa.cells (aa.mk 0 0))) U U (br gG U)) U U)<|fW U cz U<|rP 1 [] mn ?_
  refine RK H<|ar<|lP hQ [0] (mc 0 U mn) U ?_
  (have e:=pn (a:=p) (b:=q) A (fun h=>by first|exact B h.1|exact C h.2); rw [e.1,e.2]<;>rfl)
 refine WK S<|aj fun _ AB=>WS fun _ J=>?_
 have AA:fE ts p∧fE ts q:=⟨B,C⟩
 have T:=rq D B
 have V:=rq D C
 have c:=B.1
 have d:=C.1
 have Y:=xq D M C B
 unfold lR at T V
 refine rP 5 [0,1] (mc 1 U (mc 2 U mn)) ?_
 refine RK J<|cE U (aP fun F=>?_) (aO fun F=>?_)
 ·exfalso; omega
 refine WK AB<|WS fun _ K=>rP 2 [] (mc 3 U mn) ?_
 have Z:=mA D p.bj.toNat (q.bj-p.bj).toNat
 refine fG 3 [0,1] (mc 2 U (mc 1 U mn)) U<|rS (CL (Ao ts tsA tsC p.bj q.bj asm asm I) (bk [4]) U)<|bo 3 U<|AL U dx fun W=>AL U dx fun X=>sj U cz U<|fW U cz U<|RK K<|WS fun _ L=>fG 20 [0,1,2,0,1,2] (mc 1 U (mc 3 U (mc 4 U mn))) U<|rS (SX (bu (xs:=[(0,.tmp 64),(1,.tmp 74)]) (cs:=(aa.cells (aa.mk ((((eQ ts p.bj.toNat (q.bj-p.bj).toNat).Lo)+q.lO.Lo)-p.lO.Hi) ((((eQ ts p.bj.toNat (q.bj-p.bj).toNat).Hi)+q.lO.Hi)-p.lO.Lo)))) U U (br gG U)) U U)<|Gx U cz U<|rP 1 [] mn ?_
 refine RK L<|ar<|lP hQ [0] (mc 2 U mn) U ?_
 (have e:=lH A AA; rw [e.1,e.2,rl F]<;>rfl)
theorem MB (ts:List ak) (tsA:OA) (tsC:Nat) (p:cK) (q:cK) (hlen:ts.length≤1000000) (hside: ∀ x∈ts,0≤x.iZ∧x.iZ≤255):
 er Tryz.prog 166 [(vA (bw.cells (bw.mk (bq.mk tsA ts.length tsC)))),(vA (cK.cells p)),(vA (cK.cells q))] [(rd tsA ts.length 9 (ts.map ak.cells))] (vT [(vA (aa.cells (kS ts p q))),(vI (mq ts p q))]):=by
 refine bI kr Tryz.func166 U U fun u Q hQ hN=>?_
 try dsimp only
 refine WS fun _ S=>fK U fun n=>fK U fun o=>fK U fun r=>AL U dx fun s=>bo 1 U<|RK S<|aj fun _ T=>WS fun _ AA=>fG 1 [] (mc 3 U mn) U<|rS (CL (wO ts tsA tsC hlen) (bk [4]) U)<|rP 1 [] mn ?_
 refine RK AA<|cE U (fun A=>?_) (fun A=>?_)
 ·rw [Bool.not_eq_true'] at A
  refine WS fun _ V=>rS (SX (bu (xs:=[]) (cs:=(aa.cells (aa.mk 0 0))) U U (br gG U)) U U)<|fW U cz U<|rP 1 [] mn ?_
  refine RK V<|ar<|lP hQ [0] (mc 0 U mn) U ?_
  (have e:=vz (a:=p) (b:=q) (by simpa using A); rw [e.1,e.2]<;>rfl)
 rw [Bool.not_eq_false'] at A
 refine WK T<|aj fun _ W=>WS fun _ E=>?_
 have D:=j0 A
 have P:=kT A
 refine fG 2 [0,1] (mc 3 U (mc 2 U mn)) U<|rS (CL (rX ts tsA tsC p asm asm) (bk [4]) U)<|rP 2 [] mn ?_
 refine cH (t:=20) U (aZ fun B=>?_) (a_ fun B=>?_)
 ·refine bo 5 U<|RK E<|aN U<|WS fun _ G=>rS (SX (bu (xs:=[]) (cs:=(aa.cells (aa.mk 0 0))) U U (br gG U)) U U)<|fW U cz U<|rP 1 [] mn ?_
  refine RK G<|ar<|lP hQ [0] (mc 0 U mn) U ?_
  (have e:=pn (a:=p) (b:=q) A (fun h=>by first|exact B h.1|exact C h.2); rw [e.1,e.2]<;>rfl)
 refine fG 2 [0,1] (mc 3 U (mc 1 U mn)) U<|rS (CL (rX ts tsA tsC q asm asm) (bk [4]) U)<|rP 2 [] mn ?_
 refine RK E<|cE U (aZ fun C=>?_) (a_ fun C=>?_)
 ·refine WS fun _ H=>rS (SX (bu (xs:=[]) (cs:=(aa.cells (aa.mk 0 0))) U U (br gG U)) U U)<|fW U cz U<|rP 1 [] mn ?_
  refine RK H<|ar<|lP hQ [0] (mc 0 U mn) U ?_
  (have e:=pn (a:=p) (b:=q) A (fun h=>by first|exact B h.1|exact C h.2); rw [e.1,e.2]<;>rfl)
 refine WK W<|aj fun _ AB=>WS fun _ J=>?_
 have R:fE ts p∧fE ts q:=⟨B,C⟩
 have X:=rq D B
 have Y:=rq D C
 have l:=B.1
 have m:=C.1
 have j:=xq D P C B
 unfold lR at X Y
 refine rP 5 [0,1] (mc 1 U (mc 2 U mn)) ?_
 refine RK J<|cE U (aP fun F=>?_) (aO fun F=>?_)
 ·refine WS fun _ K=>fG 3 [0,1,2] (mc 3 U (mc 1 U (mc 2 U mn))) U<|rS (CL (H8 ts tsA tsC q p hlen hside I) (bk [4]) U)<|bo 3 U<|AL U dx fun d=>fW U cz U<|bo 1 U<|RK K<|WS fun _ L=>rP 2 [] (mc 0 U mn) ?_
  have O:kS ts q p=j6 ts q p:=(lH A ⟨C,B⟩).2
  have Z: -400000≤(kS ts q p).Lo∧(kS ts q p).Hi≤400000:=by rw [O]; omega
  have c:(kS ts q p).Lo≤(kS ts q p).Hi:=by rw [O]; omega
  refine rS (NG U ⟨I,I⟩)<|fG 2 [] (mc 0 U mn) U<|rS (NG U ⟨I,I⟩)<|rS (SX (bu (xs:=[(0,.tmp 41),(1,.tmp 44)]) (cs:=(aa.cells (aa.mk (-((kS ts q p).Hi)) (-((kS ts q p).Lo))))) U U (br gG U)) U U)<|sj U cz U<|rP 1 [] mn ?_
  refine RK L<|ar<|lP hQ [0] (mc 1 U mn) U ?_
  (have e:=lH A R; have i:=lH A ⟨C,B⟩; rw [e.1,e.2,i.2,Fk F]<;>rfl)
 refine WK AB<|WS fun _ M=>rP 2 [] (mc 3 U mn) ?_
 have k:=mA D p.bj.toNat (q.bj-p.bj).toNat
 refine fG 3 [0,1] (mc 2 U (mc 1 U mn)) U<|rS (CL (Ao ts tsA tsC p.bj q.bj asm asm I) (bk [4]) U)<|bo 3 U<|AL U dx fun f=>AL U dx fun g=>sj U cz U<|fW U cz U<|RK M<|WS fun _ N=>fG 20 [0,1,2,0,1,2] (mc 1 U (mc 3 U (mc 4 U mn))) U<|rS (SX (bu (xs:=[(0,.tmp 64),(1,.tmp 74)]) (cs:=(aa.cells (aa.mk ((((eQ ts p.bj.toNat (q.bj-p.bj).toNat).Lo)+q.lO.Lo)-p.lO.Hi) ((((eQ ts p.bj.toNat (q.bj-p.bj).toNat).Hi)+q.lO.Hi)-p.lO.Lo)))) U U (br gG U)) U U)<|Gx U cz U<|rP 1 [] mn ?_
 refine RK N<|ar<|lP hQ [0] (mc 2 U mn) U ?_
 (have e:=lH A R; rw [e.1,e.2,rl F]<;>rfl)
end
section
open Go.RowKit
theorem K9 (l:bf) (kA:OA) (kC:Nat) (az:List RA) (cA:OA) (cC:Nat) (bA:OA) (bC:Nat) (hraw:uq l az):
 er Tryz.prog 76 [(vA (bV.cells (lq l kA kC cA cC bA bC)))] [(rd kA l.aL.length 9 (l.aL.map ak.cells)),(rd cA l.ah.length 2 (List.zipWith aq.cells l.ah az)),(eX (aU aq.gE l.ah az)),(rd bA l.ae.length 4 (l.ae.map bG.cells))] (vB (decide (k8 l))):=by
 have e:=hraw.sx
 have d:=hraw.sG
 have a:=hraw.mW
 have b:=hraw.sk
 refine bI kr Tryz.func76 U U fun g Q hQ hN=>?_
 try dsimp only
 refine WS fun _ O=>fK U fun f=>bo 1 U<|RK O<|aj fun _ P=>WS fun _ D=>bo 1 U<|rS (LP (bw.cells (bw.mk (bq.mk kA l.aL.length kC))) 0 U cb U U U)<|rS (CL (Nk l.aL kA kC) (bk [1]) U)<|rP 1 [] mn ?_
 refine cH (t:=7) U (aP fun Z=>?_) (aO fun Z=>?_)
 ·refine bo 11 U<|RK D<|aN U<|WS fun _ R=>rP 1 [] mn ?_
  refine RK R<|ar<|Q1 hQ U U U ?_
  exact cB (dK (.inl I)).symm
 refine rP 6 [] (mc 0 U mn) ?_
 refine cH (t:=13) U (aP fun C=>?_) (aO fun C=>?_)
 ·refine bo 5 U<|RK D<|aN U<|WS fun _ S=>rP 1 [] mn ?_
  refine RK S<|ar<|Q1 hQ U U U ?_
  exact cB (dK (.inl I)).symm
 refine rP 5 [] (mc 0 U mn) ?_
 refine RK D<|cE U (aP fun N=>?_) (aO fun N=>?_)
 ·refine WS fun _ T=>rP 1 [] mn ?_
  refine RK T<|ar<|Q1 hQ U U U ?_
  exact cB (dK (.inl I)).symm
 refine WK P<|aj fun _ AA=>WS fun _ V=>rP 1 [] mn ?_
 refine RK V<|ay ?_
 have A:(0≤l.ah.length)∧(AV l 0):=by exact ⟨Nat.zero_le _,fun j c hj=>absurd hj (Nat.not_lt_zero _)⟩
 refine bK (ι:={z:Nat // (z≤l.ah.length)∧(AV l z)}) [1] [0,1,2,3,4] U U (fun z=>[(3,(vI (z.1:Int)))]) (fun z=>[]) (fun _=>rfl) (fun _=>rfl) (fun z=>l.ah.length-z.1) ⟨0,A⟩ (aT U) (aI [0,1,2,3,4]) ?_
 clear A
 rintro ⟨i,⟨W,B⟩⟩ J10 F
 try dsimp only
 refine aj fun _ G=>WS fun _ H=>rP 5 [] (mc 0 U mn) ?_
 refine RK H<|bO U (aO fun C=>?_) (aP fun C=>?_)
 ·refine bD<|ab<|ab<|aA<|KK AA<|WS fun _ L=>rP 1 [] mn ?_
  refine RK L<|ar<|Q1 hQ U U U ?_
  exact cB (bx (L8 I I B)).symm
 refine WK G<|aj fun _ AB=>ay<|WS fun _ J=>rP 3 [] (mc 0 U mn) ?_
 obtain ⟨x,hx⟩:=aH l.ah i I
 obtain ⟨xa,X⟩:=aH az i I
 have Y:(List.zipWith aq.cells l.ah az)[i]? =some (aq.cells x xa):=cT hx X
 refine rS (IA i U (aB 2 U) uB dc I I)<|rS (mV ((i*2)+1) U (aB 2 U) (Nat.mul_pos I dc) fw U)<|rS (fX i 1 (vS xa.1 x.aV.length xa.2) U cb (aB 2 U) Y U dc U)<|rP 2 [] mn ?_
 refine RK J<|cE U (aP fun E=>?_) (aO fun E=>?_)
 ·refine WS fun _ K=>rP 1 [] mn ?_
  refine RK K<|ar<|Q1 hQ U U U ?_
  exact cB (dK (KB hx E)).symm
 refine ck<|aG<|KK AB<|al<|rP 3 [] mn ?_
 refine aD ?_
 have M:(vI (((i+1):Nat):Int))=(vI ((i:Int)+1)):=by exact cI I
 refine aR (F ⟨(i+1),⟨I,l_ B hx I⟩⟩ _ _ _ U os (dj.cons U<|aY U M<|dj.nil _) (aI [0,1,2,3,4]))
theorem yp (d m:Int) (hd:0≤d∧d≤1000) (hm:0≤m∧m≤90000000):
 er Tryz.prog 164 [(vI d),(vI m)] [] (vI (pI (d*m) 1000000)):=by
 have J:=Rw (a:=d) (b:=m) (A:=1000) (B:=90000000) hd.1 hd.2 hm.1 hm.2
 refine bI kr Tryz.func164 U U fun K Q hQ hN=>?_
 try dsimp only
 refine WS fun _ C=>bo 1 U<|RK C<|WS fun _ D=>bo 2 U<|rS (BI U (F5 ⟨I,I⟩))<|bo 1 U<|RK D<|aj fun _ E=>WS fun _ F=>bo 1 U<|rS (BI U (JO I I))<|rP 1 [] mn ?_
 refine RK F<|cE U (aP fun AA=>?_) (aO fun AA=>?_)
 ·refine WS fun _ G=>bo 1 U<|rS (BI U (uu I I I))<|rP 2 [] mn ?_
  refine RK G<|ar<|Q1 hQ U U U ?_
  exact cI (by unfold pI; omega)
 refine WK E<|WS fun _ H=>bo 1 U<|rS (BI U (uu I I I))<|rP 1 [] mn ?_
 refine RK H<|ar<|Q1 hQ U U U ?_
 exact cI (by unfold pI; omega)
theorem Mm (c:aq) (sA:OA) (sC:Nat) (hlen:c.aV.length≤1000000):
 er Tryz.prog 154 [(vA (dh.cells (dh.mk c.dv (bq.mk sA c.aV.length sC))))] [(rd sA c.aV.length 3 (c.aV.map cd.cells))] (vB (decide (fj c))):=by
 refine bI kr Tryz.func154 U U fun w0 Q hQ hN=>?_
 try dsimp only
 refine WS fun _ Di=>fK U fun b2=>bo 1 U<|RK Di<|aj fun _ Do=>WS fun _ A6=>fG 2 [] (mc 0 U mn) U<|rS (CL (iS c.dv 0 1000) (aM) U)<|rP 2 [] mn ?_
 refine cH (t:=14) U (aZ fun Ck=>?_) (a_ fun Ck=>?_)
 ·refine bo 6 U<|RK A6<|aN U<|WS fun _ EQ=>rP 1 [] mn ?_
  refine RK EQ<|ar<|Q1 hQ U U U ?_
  exact cB (bx fun h=>by have q1:=h.sT; have q2:=h.len; omega).symm
 refine fG 3 [] (mc 0 U mn) U<|rS (CL (iS (c.aV.length:Int) 1 5) (aM) U)<|rP 2 [] mn ?_
 refine RK A6<|cE U (aZ fun Cp=>?_) (a_ fun Cp=>?_)
 ·refine WS fun _ Eq=>rP 1 [] mn ?_
  refine RK Eq<|ar<|Q1 hQ U U U ?_
  exact cB (bx fun h=>by have q1:=h.sT; have q2:=h.len; omega).symm
 refine WK Do<|aj fun _ FS=>WS fun _ Fd=>rP 1 [] mn ?_
 refine RK Fd<|ay ?_
 have A:(0≤c.aV.length)∧(∀ (j:Nat) y,j<0→c.aV[j]? =some y→fD c j y):=by exact ⟨Nat.zero_le _,fun j y hj=>absurd hj (Nat.not_lt_zero _)⟩
 refine bK (ι:={z:Nat // (z≤c.aV.length)∧(∀ (j:Nat) y,j<z→c.aV[j]? =some y→fD c j y)}) [1] [0,1] U U (fun z=>[(3,(vI (z.1:Int)))]) (fun z=>[]) (fun _=>rfl) (fun _=>rfl) (fun z=>c.aV.length-z.1) ⟨0,A⟩ (aT U) (aI [0,1]) ?_
 clear A
 rintro ⟨i,⟨a,C⟩⟩ J9 f
 try dsimp only
 have G1:=Mr a C
 refine aj fun _ g=>WS fun _ l=>rP 5 [] (mc 0 U mn) ?_
 refine RK l<|cE U (aP fun Cx=>?_) (aO fun Cx=>?_)
 ·refine WK g<|aj fun _ AA=>ay<|WS fun _ n=>rP 3 [] (mc 0 U mn) ?_
  obtain ⟨x,hx⟩:=aH c.aV i I
  have b:=bJ cd.cells hx
  refine rS (IA i U (aB 1 U) m8 dc I I)<|rS (lS i 0 (cd.cells x) U cb (aB 1 U) b U dc U U)<|AL U sI fun Ge=>fW U tY U<|RK n<|aj fun _ B=>dg cv 41 kr<|mw 2 [] (mc 0 U mn) U<|dS (CL (iS x.At 0 86400000) (aM) U)<|dP 2 [] mn ?_
  refine jh (t:=37) U (aZ fun C0=>?_) (a_ fun C0=>?_)
  ·refine lQ 36 U<|cM<|RK B<|aN U<|WS fun _ p=>rP 1 [] mn ?_
   refine RK p<|ar<|Q1 hQ U U U ?_
   exact cB (bx fun h=>by have q:=h.sync i x hx; unfold fD at q; (rw [gK I] at q; omega)).symm
  refine dP 3 [] mn ?_
  refine jA (t:=40) U (aO fun C1=>?_) (aP fun C1=>?_)
  ·refine dP 19 [] (mc 0 U mn) ?_
   refine jh (t:=59) U (aP fun X=>?_) (aO fun X=>?_)
   ·refine lQ 14 U<|cM<|RK B<|aN U<|WS fun _ w=>rP 1 [] mn ?_
    refine RK w<|ar<|Q1 hQ U U U ?_
    exact cB (bx fun h=>by have q:=h.sync i x hx; unfold fD at q; (rw [gK I] at q; omega)).symm
   refine dP 9 [] (mc 0 U mn) ?_
   refine jh (t:=68) U (aP fun Y=>?_) (aO fun Y=>?_)
   ·refine lQ 5 U<|cM<|RK B<|aN U<|WS fun _ AC=>rP 1 [] mn ?_
    refine RK AC<|ar<|Q1 hQ U U U ?_
    exact cB (bx fun h=>by have q:=h.sync i x hx; unfold fD at q; (rw [gK I] at q; omega)).symm
   refine dP 5 [] (mc 0 U mn) ?_
   refine cM<|RK B<|bO U (aO fun Z=>?_) (aP fun Z=>?_)
   ·refine ck<|aG<|KK AA<|al<|rP 3 [] mn ?_
    refine aD ?_
    have A9:(vI (((i+1):Nat):Int))=(vI ((i:Int)+1)):=by exact cI I
    refine aR (f ⟨(i+1),⟨I,l_ C hx (by unfold fD; (rw [gK I]; omega))⟩⟩ _ _ _ U os (dj.cons U<|aY U A9<|dj.nil _) (aI [1,2]))
   refine WS fun _ AO=>rP 1 [] mn ?_
   refine RK AO<|ar<|Q1 hQ U U U ?_
   exact cB (bx fun h=>by have q:=h.sync i x hx; unfold fD at q; (rw [gK I] at q; omega)).symm
  refine dP 6 [0,1] (mc 0 U (mc 1 U mn)) ?_
  obtain ⟨y,hy⟩:=aH c.aV (i-1) I
  have d:=bJ cd.cells hy
  refine dS (IA (i-1) U (aB 2 U) m8 dc I I)<|dS (mV ((i-1)*3) U (aB 2 U) (Nat.mul_pos I dc) fw U)<|dS (fX (i-1) 0 (vI y.At) U cb (aB 2 U) d U dc U)<|dP 4 [] mn ?_
  refine jh (t:=53) U (aP fun C2=>?_) (aO fun C2=>?_)
  ·refine lQ 20 U<|cM<|RK B<|aN U<|WS fun _ r=>rP 1 [] mn ?_
   refine RK r<|ar<|Q1 hQ U U U ?_
   exact cB (bx fun h=>by have q:=h.sync i x hx; unfold fD at q; (rw [yl I hy] at q; omega)).symm
  refine dP 6 [] (mc 0 U mn) ?_
  refine jh (t:=59) U (aP fun X=>?_) (aO fun X=>?_)
  ·refine lQ 14 U<|cM<|RK B<|aN U<|WS fun _ s=>rP 1 [] mn ?_
   refine RK s<|ar<|Q1 hQ U U U ?_
   exact cB (bx fun h=>by have q:=h.sync i x hx; unfold fD at q; (rw [gK I] at q; omega)).symm
  refine dP 9 [] (mc 0 U mn) ?_
  refine jh (t:=68) U (aP fun Y=>?_) (aO fun Y=>?_)
  ·refine lQ 5 U<|cM<|RK B<|aN U<|WS fun _ u=>rP 1 [] mn ?_
   refine RK u<|ar<|Q1 hQ U U U ?_
   exact cB (bx fun h=>by have q:=h.sync i x hx; unfold fD at q; (rw [gK I] at q; omega)).symm
  refine dP 5 [] (mc 0 U mn) ?_
  refine cM<|RK B<|bO U (aO fun Z=>?_) (aP fun Z=>?_)
  ·refine ck<|aG<|KK AA<|al<|rP 3 [] mn ?_
   refine aD ?_
   have A8:(vI (((i+1):Nat):Int))=(vI ((i:Int)+1)):=by exact cI I
   refine aR (f ⟨(i+1),⟨I,l_ C hx (by unfold fD; (rw [yl I hy]; omega))⟩⟩ _ _ _ U os (dj.cons U<|aY U A8<|dj.nil _) (aI [1,2]))
  refine WS fun _ v=>rP 1 [] mn ?_
  refine RK v<|ar<|Q1 hQ U U U ?_
  exact cB (bx fun h=>by have q:=h.sync i x hx; unfold fD at q; (rw [gK I] at q; omega)).symm
 refine bD<|ab<|ab<|aA<|KK FS<|aj fun _ An=>WS fun _ Av=>rP 1 [] mn ?_
 refine RK Av<|ay ?_
 have A:(0≤c.aV.length)∧(ub c 0):=by exact ⟨Nat.zero_le _,fun j y hj=>absurd hj (Nat.not_lt_zero _)⟩
 refine bK (ι:={z:Nat // (z≤c.aV.length)∧(ub c z)}) [1] [0,1] U U (fun z=>[(5,(vI (z.1:Int)))]) (fun z=>[]) (fun _=>rfl) (fun _=>rfl) (fun z=>c.aV.length-z.1) ⟨0,A⟩ (aT U) (aI [0,1]) ?_
 clear A
 rintro ⟨m,⟨B3,G⟩⟩ J28 e
 try dsimp only
 have F:=yK (P:=fD c) I C
 refine aj fun _ A0=>WS fun _ A1=>rP 5 [] (mc 0 U mn) ?_
 refine RK A1<|bO U (aO fun C3=>?_) (aP fun C3=>?_)
 ·refine bD<|ab<|ab<|aA<|KK An<|WS fun _ A7=>rP 1 [] mn ?_
  refine RK A7<|ar<|Q1 hQ U U U ?_
  exact cB (dK (JZ I I (yK I C) I G)).symm
 refine WK A0<|aj fun _ A2=>ay<|WS fun _ A3=>rP 1 [] mn ?_
 refine RK A3<|ay ?_
 have A:(0≤m)∧(∀ y,c.aV[m]? =some y→Gc c y 0):=by exact ⟨Nat.zero_le _,fun y _ j o hj=>absurd hj (Nat.not_lt_zero _)⟩
 refine bK (ι:={z:Nat // (z≤m)∧(∀ y,c.aV[m]? =some y→Gc c y z)}) [1,5] [0,1] U U (fun z=>[(6,(vI (z.1:Int)))]) (fun z=>[]) (fun _=>rfl) (fun _=>rfl) (fun z=>m-z.1) ⟨0,A⟩ (aT U) (aI [0,1]) ?_
 clear A
 rintro ⟨k,⟨B7,D⟩⟩ J33 T
 try dsimp only
 refine aj fun _ A4=>WS fun _ A5=>rP 3 [] mn ?_
 refine RK A5<|bO U (aO fun DV=>?_) (aP fun DV=>?_)
 ·refine bD<|ab<|ab<|aA<|aG<|KK A2<|al<|rP 3 [] mn ?_
  refine aD ?_
  have BX:(vI (((m+1):Nat):Int))=(vI ((m:Int)+1)):=by exact cI I
  refine aR (e ⟨(m+1),⟨I,EE G D I⟩⟩ _ _ _ U os (dj.cons U<|aY U BX<|dj.nil _) (aI [0,1]))
 refine WK A4<|aj fun _ V=>ay<|aj fun _ W=>ow cv [0,1,2,3,4,5,6,7,8,9] [10,11,12,13] [false,false,false,false,false,false,false,false,false,false] [] [(cm b2 119 (dh.cells (dh.mk c.dv (bq.mk sA c.aV.length sC)))),(rd sA c.aV.length 3 (c.aV.map cd.cells)).ro] [] kr (aI [0,1]) (aI [])<|eS U (FA 1 U fw U)<|eS U (L1 (vS sA c.aV.length sC) 0 U cb U U)<|eS U (MV U) ?_
 obtain ⟨x,hx⟩:=aH c.aV k I
 have b:=bJ cd.cells hx
 refine eS U (IA k U (aB 1 U) m8 dc I I)<|eS U (lS k 0 (cd.cells x) U cb (aB 1 U) b U dc U U)<|eS U (FA 1 U fw U)<|eS U (L1 (vS sA c.aV.length sC) 0 U cb U U)<|eS U (MV U) ?_
 obtain ⟨y,hy⟩:=aH c.aV m I
 have d:=bJ cd.cells hy
 refine eS U (IA m U (aB 1 U) m8 dc I I)<|eS U (lS m 0 (cd.cells y) U cb (aB 1 U) d U dc U U)<|eT U<|iJ [10,11] kr (ek ?_<|ek ?_<|j_)
 rotate_left 1
 ·refine NO U U [10,12,13] fun T38 M=>AL U sI fun B9=>RD M 1 U<|N1 10<|NO U U [12,13] fun T40 N=>AL U sI fun Ci=>RD N 2 U<|N1 12<|NO U U [13] fun T42 O=>fW U tY U<|RD O 2 U<|N1 13<|NO U U [] fun T43 R=>sj U tY U<|RD R 2 U<|od<|KK W<|WS fun _ J=>rP 6 [0,1,2] (mc 2 U (mc 1 U (mc 0 U mn))) ?_
  obtain ⟨Fn,GE,GT⟩:=u3 (fun j z _ hz=>F j z hz) hy (F _ _ hy) (show k<m by omega) hx
  refine bo 1 U<|rS (CL (yp c.dv (y.At-x.At) I I) (aM) U)<|bo 1 U<|RK J<|WS fun _ E=>rP 10 [0,1] (mc 0 U (mc 1 U mn)) ?_
  refine cH (t:=113) U (aP fun H=>?_) (aO fun H=>?_)
  ·refine bo 10 U<|RK E<|aN U<|WS fun _ K=>rP 1 [] mn ?_
   refine RK K<|ar<|Q1 hQ U U U ?_
   exact cB (bx fun h=>by have q:=h.pair m k y x hy I hx; unfold oa at q; omega).symm
  refine rP 10 [0,1] (mc 1 U (mc 0 U mn)) ?_
  refine RK E<|bO U (aO fun AB=>?_) (aP fun AB=>?_)
  ·refine ck<|aG<|KK V<|al<|rP 3 [] mn ?_
   refine aD ?_
   have S:(vI (((k+1):Nat):Int))=(vI ((k:Int)+1)):=by exact cI I
   refine aR (T ⟨(k+1),⟨I,fun z hz=>by rw [hy] at hz; cases hz; exact l_ (D _ hy) hx (by unfold oa; omega)⟩⟩ _ _ _ rfl os (dj.cons rfl<|dj.cons rfl<|aY rfl S<|dj.nil _) (aI [2,3]))
  refine WS fun _ L=>rP 1 [] mn ?_
  refine RK L<|ar<|Q1 hQ U U U ?_
  exact cB (bx fun h=>by have q:=h.pair m k y x hy I hx; unfold oa at q; omega).symm
 refine NO U U [11,12,13] fun T38 M=>AL U sI fun B9=>RD M 1 U<|N1 11<|NO U U [12,13] fun T40 N=>AL U sI fun Ci=>RD N 2 U<|N1 12<|NO U U [13] fun T42 O=>sj U tY U<|RD O 2 U<|N1 13<|NO U U [] fun T43 R=>fW U tY U<|RD R 2 U<|od<|KK W<|WS fun _ J=>rP 6 [0,1,2] (mc 2 U (mc 0 U (mc 1 U mn))) ?_
 obtain ⟨Fn,GE,GT⟩:=u3 (fun j z _ hz=>F j z hz) hy (F _ _ hy) (show k<m by omega) hx
 refine bo 1 U<|rS (CL (yp c.dv (y.At-x.At) I I) (aM) U)<|bo 1 U<|RK J<|WS fun _ E=>rP 10 [0,1] (mc 1 U (mc 0 U mn)) ?_
 refine cH (t:=113) U (aP fun H=>?_) (aO fun H=>?_)
 ·refine bo 10 U<|RK E<|aN U<|WS fun _ K=>rP 1 [] mn ?_
  refine RK K<|ar<|Q1 hQ U U U ?_
  exact cB (bx fun h=>by have q:=h.pair m k y x hy I hx; unfold oa at q; omega).symm
 refine rP 10 [0,1] (mc 0 U (mc 1 U mn)) ?_
 refine RK E<|bO U (aO fun AB=>?_) (aP fun AB=>?_)
 ·refine ck<|aG<|KK V<|al<|rP 3 [] mn ?_
  refine aD ?_
  have S:(vI (((k+1):Nat):Int))=(vI ((k:Int)+1)):=by exact cI I
  refine aR (T ⟨(k+1),⟨I,fun z hz=>by rw [hy] at hz; cases hz; exact l_ (D _ hy) hx (by unfold oa; omega)⟩⟩ _ _ _ rfl os (dj.cons rfl<|dj.cons rfl<|aY rfl S<|dj.nil _) (aI [2,3]))
 refine WS fun _ L=>rP 1 [] mn ?_
 refine RK L<|ar<|Q1 hQ U U U ?_
 exact cB (bx fun h=>by have q:=h.pair m k y x hy I hx; unfold oa at q; omega).symm
theorem BY (c:aq) (sA:OA) (sC:Nat) (at_:Int) (hc:fj c) (ha:0≤at_∧at_≤90000000):
 er Tryz.prog 178 [(vA (dh.cells (dh.mk c.dv (bq.mk sA c.aV.length sC)))),(vI at_)] [(rd sA c.aV.length 3 (c.aV.map cd.cells))] (vA (aa.cells (iI c at_))):=by
 have e:=hc.len
 have W:=hc.sT
 refine bI kr Tryz.func178 U U fun j Q hQ hN=>?_
 try dsimp only
 refine WS fun _ R=>fK U fun g=>AL U dx fun h=>RK R<|WS fun _ S=>AL U dx fun d=>RK S<|aj fun _ T=>WS fun _ AA=>rP 1 [] mn ?_
 refine RK AA<|ay ?_
 have A:(0≤c.aV.length):=by exact Nat.zero_le _
 refine bK (ι:={z:Nat // (z≤c.aV.length)}) [1,2,4,5] [1,2,3] U U (fun z=>[(6,(vI (z.1:Int)))]) (fun z=>[(cm d 40 (aa.cells (kY c at_ z.1)))]) (fun _=>rfl) (fun _=>rfl) (fun z=>c.aV.length-z.1) ⟨0,A⟩ (aT U) (aI [1,2,3,0]) ?_
 clear A
 rintro ⟨i,X⟩ J8 D
 try dsimp only
 refine aj fun _ V=>WS fun _ E=>rP 5 [] (mc 1 U mn) ?_
 refine RK E<|bO U (aO fun O=>?_) (aP fun O=>?_)
 ·refine bD<|ab<|ab<|aA<|KK T<|WS fun _ J=>rP 1 [] (mc 3 U mn) ?_
  refine fW U cz U<|RK J<|ar<|IN hQ [0] (mc 0 U mn) U ?_
  rw [ES hc (show c.aV.length≤i by omega)]
 refine WK V<|aj fun _ B=>ay<|WS fun _ F=>rP 3 [] (mc 1 U mn) ?_
 obtain ⟨x,hx⟩:=aH c.aV i I
 have Z:=bJ cd.cells hx
 refine rS (IA i U (aB 2 U) m8 dc I I)<|rS (lS i 0 (cd.cells x) U cb (aB 2 U) Z U dc U U)<|AL U sI fun a=>fW U tY U<|RK F<|WS fun _ G=>rP 2 [] (mc 2 U mn) ?_
 have Y:=hc.vy hx
 have f:0≤pI (c.dv*max (at_-x.At) (x.At-at_)) 1000000∧pI (c.dv*max (at_-x.At) (x.At-at_)) 1000000≤90001:=vr W ha Y.1
 refine fG 8 [] (mc 0 U mn) U<|rS (MX U)<|rS (CL (yp c.dv (max (at_-x.At) (x.At-at_)) I I) (aM) U)<|bo 1 U<|RK G<|WS fun _ H=>fG 10 [] (mc 0 U mn) U<|rS (SX (bu (xs:=[(0,.tmp 38),(1,.tmp 43)]) (cs:=(aa.cells (aa.mk (x.d_.Lo-(pI (c.dv*(max (at_-x.At) (x.At-at_))) 1000000)) (x.d_.Hi+(pI (c.dv*(max (at_-x.At) (x.At-at_))) 1000000))))) U U (br gG U)) U U)<|AL U dx fun b=>fW U cz U<|RK H<|aj fun _ C=>WS fun _ AB=>rP 2 [] mn ?_
 refine RK AB<|bO U (aO fun P=>?_) (aP fun P=>?_)
 ·refine WK C<|al<|fG 4 [0,1] (mc 5 U (mc 0 U mn)) U<|rS (MX U)<|rP 4 [0,1] (mc 5 U (mc 0 U mn)) ?_
  refine rS (MN U)<|rS (SX (bu (xs:=[(0,.tmp 52),(1,.tmp 57)]) (cs:=(aa.cells (aa.mk (max ((kY c at_ i).Lo) (x.d_.Lo-(pI (c.dv*(max (at_-x.At) (x.At-at_))) 1000000))) (min ((kY c at_ i).Hi) (x.d_.Hi+(pI (c.dv*(max (at_-x.At) (x.At-at_))) 1000000)))))) U U (br gG U)) U U)<|IM U cz U<|aD<|aG<|KK B ?_
  have M:(aa.cells (aa.mk (max ((kY c at_ i).Lo) (x.d_.Lo-(pI (c.dv*(max (at_-x.At) (x.At-at_))) 1000000))) (min ((kY c at_ i).Hi) (x.d_.Hi+(pI (c.dv*(max (at_-x.At) (x.At-at_))) 1000000)))))=(aa.cells (kY c at_ (i+1))):=by exact congrArg aa.cells (Dk hx I).symm
  rw [M]
  refine al<|rP 3 [] mn ?_
  refine aD ?_
  have N:(vI (((i+1):Nat):Int))=(vI ((i:Int)+1)):=by exact cI I
  refine aR (D ⟨(i+1),(by first|omega|(simp only []; omega))⟩ _ _ _ U os (cR 4<|aY U N<|dj.nil _) (aI [2,3,4,5]))
 refine al<|fG 1 [] (mc 0 U mn) U<|IM U cz U<|RK C<|al<|fG 4 [0,1] (mc 5 U (mc 0 U mn)) U<|rS (MX U)<|rP 4 [0,1] (mc 5 U (mc 0 U mn)) ?_
 refine rS (MN U)<|rS (SX (bu (xs:=[(0,.tmp 52),(1,.tmp 57)]) (cs:=(aa.cells (aa.mk (max (x.d_.Lo-(pI (c.dv*(max (at_-x.At) (x.At-at_))) 1000000)) (x.d_.Lo-(pI (c.dv*(max (at_-x.At) (x.At-at_))) 1000000))) (min (x.d_.Hi+(pI (c.dv*(max (at_-x.At) (x.At-at_))) 1000000)) (x.d_.Hi+(pI (c.dv*(max (at_-x.At) (x.At-at_))) 1000000)))))) U U (br gG U)) U U)<|IM U cz U<|aD<|aG<|KK B ?_
 have K:(aa.cells (aa.mk (max (x.d_.Lo-(pI (c.dv*(max (at_-x.At) (x.At-at_))) 1000000)) (x.d_.Lo-(pI (c.dv*(max (at_-x.At) (x.At-at_))) 1000000))) (min (x.d_.Hi+(pI (c.dv*(max (at_-x.At) (x.At-at_))) 1000000)) (x.d_.Hi+(pI (c.dv*(max (at_-x.At) (x.At-at_))) 1000000)))))=(aa.cells (kY c at_ (i+1))):=by exact congrArg aa.cells (Au hc ha hx I).symm
 rw [K]
 refine al<|rP 3 [] mn ?_
 refine aD ?_
 have L:(vI (((i+1):Nat):Int))=(vI ((i:Int)+1)):=by exact cI I
 refine aR (D ⟨(i+1),(by first|omega|(simp only []; omega))⟩ _ _ _ U os (cR 4<|aY U L<|dj.nil _) (aI [2,3,4,5]))
theorem Jd (l:bf) (kA:OA) (kC:Nat) (az:List RA) (cA:OA) (cC:Nat) (bA:OA) (bC:Nat) (n:Int) (hin:ep l az) (htr:di l.aL=true) (hbk: ∀ b∈l.ae,j9 l b) (hn:0≤n∧n<(l.ae.length:Int)):
 er Tryz.prog 156 [(vA (bV.cells (lq l kA kC cA cC bA bC))),(vI n)] [(rd kA l.aL.length 9 (l.aL.map ak.cells)),(rd cA l.ah.length 2 (List.zipWith aq.cells l.ah az)),(eX (aU aq.gE l.ah az)),(rd bA l.ae.length 4 (l.ae.map bG.cells))] (vI (my l n.toNat)):=by
 have AA:=hin.sx
 have S:=hin.sG
 have P:=hin.mW
 have R:=hin.sk
 have T:=hin.side
 refine bI kr Tryz.func156 U U fun X Q hQ hN=>?_
 try dsimp only
 refine WS fun _ G=>fK U fun V=>bo 1 U<|RK G<|aj fun _ H=>WS fun _ AB=>rP 2 [] mn ?_
 refine RK AB<|cE U (aP fun F=>?_) (aO fun F=>?_)
 ·refine aj fun _ J=>dJ cv [11,12] [] [] [0,1,2,3,4] [] U U U U U<|eS U (FA 0 U fw U)<|eS U (LP (bw.cells (bw.mk (bq.mk kA l.aL.length kC))) 0 U cb U U U)<|eS U (FA 3 U fw U)<|eS U (L1 (vS bA l.ae.length bC) 0 U cb U U) ?_
  obtain ⟨y,hy⟩:=aH l.ae 0 I
  have A:=bJ bG.cells hy
  refine eS U (IA 0 U (aB 4 U) th dc U I)<|eS U (mV (0*4) U (aB 4 U) (Nat.mul_pos I dc) fw U)<|eS U (lS 0 0 (cK.cells y.kZ) U cb (aB 4 U) A U dc U U)<|eS U (CL (Ur l.aL kA kC y.kZ asm asm) (bk [1]) U)<|eS U (MV U)<|eS U (EX U)<|eS U (EX U)<|eS U (AG U)<|eT U<|cp U fun T6 L=>AL U dx fun W=>aD (L _ _ (aI [1,2,3,4,5]) ?_)
  refine cp U fun T8 M=>fW U cz U<|aD (M _ _ (aI [1,2,3,4,5]) ?_)
  refine fO U<|KK J<|WS fun _ K=>rP 3 [] (mc 0 U mn) ?_
  refine RK K<|ar<|Q1 hQ U U U ?_
  (refine congrArg (Value.int .i64) ?_; rw [show n.toNat=0 by omega]; rw [zz hy,(yb htr (hbk _ (List.mem_of_getElem? hy)).1).2])
 refine WK H<|aj fun _ B=>dJ cv [19,20] [] [] [0,1,2,3,4] [] U U U U U<|eS U (FA 0 U fw U)<|eS U (LP (bw.cells (bw.mk (bq.mk kA l.aL.length kC))) 0 U cb U U U)<|eS U (FA 3 U fw U)<|eS U (L1 (vS bA l.ae.length bC) 0 U cb U U)<|eS U (MV U)<|eS U (BI U (sJ ⟨I,I⟩)) ?_
 obtain ⟨y,hy⟩:=aH l.ae (((n-1)).toNat) I
 have A:=bJ bG.cells hy
 refine eS U (IA (((n-1)).toNat) U (aB 4 U) th dc I I)<|eS U (mV ((((n-1)).toNat)*4) U (aB 4 U) (Nat.mul_pos I dc) fw U)<|eS U (lS (((n-1)).toNat) 0 (cK.cells y.kZ) U cb (aB 4 U) A U dc U U)<|eS U (FA 3 U fw U)<|eS U (L1 (vS bA l.ae.length bC) 0 U cb U U)<|eS U (MV U) ?_
 obtain ⟨x,hx⟩:=aH l.ae ((n).toNat) I
 have N:=bJ bG.cells hx
 refine eS U (IA ((n).toNat) U (aB 4 U) th dc I I)<|eS U (mV (((n).toNat)*4) U (aB 4 U) (Nat.mul_pos I dc) fw U)<|eS U (lS ((n).toNat) 0 (cK.cells x.kZ) U cb (aB 4 U) N U dc U U)<|eS U (CL (MB l.aL kA kC y.kZ x.kZ asm asm) (bk [1]) U)<|eS U (MV U)<|eS U (EX U)<|eS U (EX U)<|eS U (AG U)<|eT U<|cp U fun T11 D=>AL U dx fun O=>aD (D _ _ (aI [1,2,3,4,5]) ?_)
 refine cp U fun T13 E=>fW U cz U<|aD (E _ _ (aI [1,2,3,4,5]) ?_)
 refine fO U<|KK B<|WS fun _ C=>rP 3 [] (mc 0 U mn) ?_
 refine RK C<|ar<|Q1 hQ U U U ?_
 (refine congrArg (Value.int .i64) ?_; rw [Dw I hx (by rw [show n.toNat-1=(n-1).toNat by omega]; exact hy),(lH htr ⟨(hbk _ (List.mem_of_getElem? hy)).1,(hbk _ (List.mem_of_getElem? hx)).1⟩).2])
theorem Lz (l:bf) (kA:OA) (kC:Nat) (az:List RA) (cA:OA) (cC:Nat) (bA:OA) (bC:Nat) (n:Int) (hin:ep l az) (htr:di l.aL=true) (hok:lB l) (hn:0≤n∧n<(l.ae.length:Int)):
 er Tryz.prog 176 [(vA (bV.cells (lq l kA kC cA cC bA bC))),(vI n)] [(rd kA l.aL.length 9 (l.aL.map ak.cells)),(rd cA l.ah.length 2 (List.zipWith aq.cells l.ah az)),(eX (aU aq.gE l.ah az)),(rd bA l.ae.length 4 (l.ae.map bG.cells))] (vI (eB l n.toNat)):=by
 have G:=hin.sx
 have F:=hin.sG
 have D:=hin.mW
 have E:=hin.sk
 have C:=hok.head
 unfold gJ at C
 have H:=F1 htr hok.wx n.toNat
 have AA:=hok.RS n.toNat I
 refine bI kr Tryz.func176 U U fun K Q hQ hN=>?_
 try dsimp only
 refine WS fun _ A=>fK U fun J=>bo 1 U<|RK A<|aj fun _ B=>dg cv 12 kr<|mw 2 [] (mc 0 U mn) U<|dS (CL (Jd l kA kC az cA cC bA bC n hin htr (by exact hok.wx) hn) (bk [1,2,3,4]) U)<|dS (BI U (F5 ⟨I,I⟩))<|mw 6 [] (mc 0 U mn) U<|dS (BI U (uu I I I))<|dP 1 [] mn ?_
 refine cM<|RK B<|ar<|Q1 hQ U U U ?_
 exact cI (by unfold eB pI; rw [Int.mul_comm])
theorem OM (l:bf) (kA:OA) (kC:Nat) (az:List RA) (cA:OA) (cC:Nat) (bA:OA) (bC:Nat) (hin:ep l az) (htr:di l.aL=true):
 er Tryz.prog 136 [(vA (bV.cells (lq l kA kC cA cC bA bC)))] [(rd kA l.aL.length 9 (l.aL.map ak.cells)),(rd cA l.ah.length 2 (List.zipWith aq.cells l.ah az)),(eX (aU aq.gE l.ah az)),(rd bA l.ae.length 4 (l.ae.map bG.cells))] (vB (decide (lB l))):=by
 have Eq:=hin.sx
 have DV:=hin.sG
 have C1:=hin.mW
 have C3:=hin.sk
 have Di:=hin.side
 have Do:=j0 htr
 have C0:=kT htr
 refine bI kr Tryz.func136 U U fun w0 Q hQ hN=>?_
 try dsimp only
 refine WS fun _ A8=>fK U fun b2=>bo 1 U<|RK A8<|aj fun _ A9=>WS fun _ D=>fG 2 [] (mc 0 U mn) U<|rS (CL (iS l.f_ 1 5000) (aM) U)<|rP 2 [] mn ?_
 refine cH (t:=10) U (aZ fun An=>?_) (a_ fun An=>?_)
 ·refine bo 35 U<|RK D<|aN U<|WS fun _ BX=>rP 1 [] mn ?_
  refine RK BX<|ar<|Q1 hQ U U U ?_
  exact cB (bx fun h=>by have q:=h.head; unfold gJ at q; omega).symm
 refine fG 3 [] (mc 0 U mn) U<|rS (CL (iS (l.ah.length:Int) 1 4) (aM) U)<|rP 3 [] mn ?_
 refine cH (t:=17) U (aZ fun Av=>?_) (a_ fun Av=>?_)
 ·refine bo 28 U<|RK D<|aN U<|WS fun _ B3=>rP 1 [] mn ?_
  refine RK B3<|ar<|Q1 hQ U U U ?_
  exact cB (bx fun h=>by have q:=h.head; unfold gJ at q; omega).symm
 refine fG 3 [] (mc 0 U mn) U<|rS (CL (iS (l.ae.length:Int) 1 6) (aM) U)<|rP 3 [] mn ?_
 refine cH (t:=24) U (aZ fun A0=>?_) (a_ fun A0=>?_)
 ·refine bo 21 U<|RK D<|aN U<|WS fun _ B7=>rP 1 [] mn ?_
  refine RK B7<|ar<|Q1 hQ U U U ?_
  exact cB (bx fun h=>by have q:=h.head; unfold gJ at q; omega).symm
 refine fG 6 [] (mc 0 U mn) U<|rS (CL (iS l.cq 0 ((l.ae.length:Int)-1)) (aM) U)<|rP 3 [] mn ?_
 refine cH (t:=34) U (aZ fun A1=>?_) (a_ fun A1=>?_)
 ·refine bo 11 U<|RK D<|aN U<|WS fun _ B9=>rP 1 [] mn ?_
  refine RK B9<|ar<|Q1 hQ U U U ?_
  exact cB (bx fun h=>by have q:=h.head; unfold gJ at q; omega).symm
 refine fG 2 [] (mc 0 U mn) U<|rS (CL (iS l.dM 0 3) (aM) U)<|rP 3 [] mn ?_
 refine cH (t:=40) U (aZ fun A2=>?_) (a_ fun A2=>?_)
 ·refine bo 5 U<|RK D<|aN U<|WS fun _ Ci=>rP 1 [] mn ?_
  refine RK Ci<|ar<|Q1 hQ U U U ?_
  exact cB (bx fun h=>by have q:=h.head; unfold gJ at q; omega).symm
 refine fG 2 [] (mc 0 U mn) U<|rS (CL (iS l.cD 0 3) (aM) U)<|rP 2 [] mn ?_
 refine RK D<|cE U (aZ fun A3=>?_) (a_ fun A3=>?_)
 ·refine WS fun _ N=>rP 1 [] mn ?_
  refine RK N<|ar<|Q1 hQ U U U ?_
  exact cB (bx fun h=>by have q:=h.head; unfold gJ at q; omega).symm
 refine WK A9<|aj fun _ O=>WS fun _ R=>rP 1 [] mn ?_
 refine RK R<|ay ?_
 have A:(0≤l.ah.length)∧(∀ (j:Nat) y,j<0→l.ah[j]? =some y→fj y):=by exact ⟨Nat.zero_le _,fun j y hj=>absurd hj (Nat.not_lt_zero _)⟩
 refine bK (ι:={z:Nat // (z≤l.ah.length)∧(∀ (j:Nat) y,j<z→l.ah[j]? =some y→fj y)}) [1] [0,1,2,3,4] U U (fun z=>[(3,(vI (z.1:Int)))]) (fun z=>[]) (fun _=>rfl) (fun _=>rfl) (fun z=>l.ah.length-z.1) ⟨0,A⟩ (aT U) (aI [0,1,2,3,4]) ?_
 clear A
 rintro ⟨i,⟨Ck,F⟩⟩ J13 K
 try dsimp only
 refine aj fun _ S=>WS fun _ T=>rP 5 [] (mc 0 U mn) ?_
 refine RK T<|cE U (aP fun A4=>?_) (aO fun A4=>?_)
 ·refine WK S<|aj fun _ AA=>ay<|WS fun _ V=>rP 3 [] (mc 0 U mn) ?_
  obtain ⟨x,hx⟩:=aH l.ah i I
  obtain ⟨xa,J⟩:=aH az i I
  have Cx:(List.zipWith aq.cells l.ah az)[i]? =some (aq.cells x xa):=cT hx J
  refine rS (IA i U (aB 2 U) uB dc I I)<|rS (lS i 0 (dh.cells (dh.mk x.dv (bq.mk xa.1 x.aV.length xa.2))) U cb (aB 2 U) Cx U dc U U) ?_
  have EQ:=(hin.RP _ _ _ hx J).2
  refine rS (CL (Mm x xa.1 xa.2 asm) (av (show g9 _ (rd xa.1 x.aV.length 3 (x.aV.map cd.cells)).holds from (cw 3 U (bH hx J (by simp [aq.gE]))))<|aM) U)<|rP 1 [] mn ?_
  refine RK V<|bO U (a_ fun AB=>?_) (aZ fun AB=>?_)
  ·refine ck<|aG<|KK AA<|al<|rP 3 [] mn ?_
   refine aD ?_
   have u:(vI (((i+1):Nat):Int))=(vI ((i:Int)+1)):=by exact cI I
   refine aR (K ⟨(i+1),⟨I,l_ (P:=fun _ y=>fj y) F hx AB⟩⟩ _ _ _ U os (dj.cons U<|aY U u<|dj.nil _) (aI [0,1,2,3,4]))
  refine WS fun _ W=>rP 1 [] mn ?_
  refine RK W<|ar<|Q1 hQ U U U ?_
  exact cB (bx fun h=>AB (h.clock _ (aS hx))).symm
 refine bD<|ab<|ab<|aA<|KK O<|aj fun _ X=>WS fun _ Y=>rP 1 [] mn ?_
 refine RK Y<|ay ?_
 have A:(0≤l.ae.length)∧(∀ (j:Nat) y,j<0→l.ae[j]? =some y→j9 l y):=by exact ⟨Nat.zero_le _,fun j y hj=>absurd hj (Nat.not_lt_zero _)⟩
 refine bK (ι:={z:Nat // (z≤l.ae.length)∧(∀ (j:Nat) y,j<z→l.ae[j]? =some y→j9 l y)}) [1] [0,1,2,3,4] U U (fun z=>[(4,(vI (z.1:Int)))]) (fun z=>[]) (fun _=>rfl) (fun _=>rfl) (fun z=>l.ae.length-z.1) ⟨0,A⟩ (aT U) (aI [0,1,2,3,4]) ?_
 clear A
 rintro ⟨m,⟨Cp,B⟩⟩ J22 L
 try dsimp only
 refine aj fun _ Z=>WS fun _ a=>rP 5 [] (mc 0 U mn) ?_
 refine RK a<|bO U (aO fun A5=>?_) (aP fun A5=>?_)
 ·refine bD<|ab<|ab<|aA<|KK X<|aj fun _ e=>WS fun _ f=>rP 1 [] mn ?_
  refine RK f<|ay ?_
  have A:(0≤l.ae.length)∧(∀ j,j<0→1≤my l j):=by exact ⟨Nat.zero_le _,fun j hj=>absurd hj (Nat.not_lt_zero _)⟩
  refine bK (ι:={z:Nat // (z≤l.ae.length)∧(∀ j,j<z→1≤my l j)}) [1] [0,1,2,3,4] U U (fun z=>[(5,(vI (z.1:Int)))]) (fun z=>[]) (fun _=>rfl) (fun _=>rfl) (fun z=>l.ae.length-z.1) ⟨0,A⟩ (aT U) (aI [0,1,2,3,4]) ?_
  clear A
  rintro ⟨n,⟨AO,C⟩⟩ J32 M
  try dsimp only
  have C2:=xj (P:=j9 l) I B
  refine aj fun _ g=>WS fun _ k=>rP 5 [] (mc 0 U mn) ?_
  refine RK k<|bO U (aO fun A7=>?_) (aP fun A7=>?_)
  ·refine bD<|ab<|ab<|aA<|KK e<|WS fun _ s=>rP 1 [] mn ?_
   refine RK s<|ar<|Q1 hQ U U U ?_
   exact cB (dK (z5 (by unfold gJ; omega) (xj I F) (xj I B) (fun j hj=>C j I))).symm
  refine WK g<|aj fun _ o=>ay<|WS fun _ p=>fG 2 [] (mc 0 U mn) U<|rS (CL (Jd l kA kC az cA cC bA bC (n:Int) hin htr asm I) (bk [1,2,3,4]) U)<|rP 1 [] mn ?_
  refine RK p<|bO U (aO fun E=>?_) (aP fun E=>?_)
  ·refine ck<|aG<|KK o<|al<|rP 3 [] mn ?_
   refine aD ?_
   have w:(vI (((n+1):Nat):Int))=(vI ((n:Int)+1)):=by exact cI I
   refine aR (M ⟨(n+1),⟨I,fun j hj=>by rcases Nat.lt_or_ge j n with q|q; exact C j q; (obtain rfl:j=n:=by omega); simp only [Int.toNat_natCast] at E; omega⟩⟩ _ _ _ rfl os (dj.cons rfl<|aY rfl w<|dj.nil _) (aI [0,1,2,3,4]))
  refine WS fun _ r=>rP 1 [] mn ?_
  refine RK r<|ar<|Q1 hQ U U U ?_
  exact cB (bx fun h=>by have q:=h.RS n I; simp only [Int.toNat_natCast] at E; omega).symm
 refine WK Z<|aj fun _ b=>ay<|aj fun _ H=>dg cv 24 kr<|lQ 1 U<|dS (LP (bw.cells (bw.mk (bq.mk kA l.aL.length kC))) 0 U cb U U U)<|dP 3 [] (mc 0 U mn) ?_
 obtain ⟨y,hy⟩:=aH l.ae m I
 have AC:=bJ bG.cells hy
 refine dS (IA m U (aB 4 U) th dc I I)<|dS (mV (m*4) U (aB 4 U) (Nat.mul_pos I dc) fw U)<|dS (lS m 0 (cK.cells y.kZ) U cb (aB 4 U) AC U dc U U)<|dS (CL (rX l.aL kA kC y.kZ asm asm) (bk [1]) U)<|dP 2 [] mn ?_
 refine jh (t:=77) U (aZ fun G=>?_) (a_ fun G=>?_)
 ·refine lQ 13 U<|cM<|RK H<|aN U<|WS fun _ c=>rP 1 [] mn ?_
  refine RK c<|ar<|Q1 hQ U U U ?_
  exact cB (bx fun h=>by have q:=h.wx _ (aS hy); have q2:=q.2; first|exact G q.1|omega).symm
 refine mw 3 [] (mc 0 U mn) U<|dS (IA m U (aB 4 U) th dc I I)<|dS (mV ((m*4)+3) U (aB 4 U) (Nat.mul_pos I dc) fw U)<|dS (fX m 3 (vI y.jH) U cb (aB 4 U) AC U dc U)<|mw 4 [] (mc 0 U mn) U<|dS (CL (iS y.jH 0 ((l.ah.length:Int)-1)) (aM) U)<|dP 2 [] mn ?_
 refine cM<|RK H<|bO U (a_ fun A6=>?_) (aZ fun A6=>?_)
 ·refine ck<|aG<|KK b<|al<|rP 3 [] mn ?_
  refine aD ?_
  have v:(vI (((m+1):Nat):Int))=(vI ((m:Int)+1)):=by exact cI I
  refine aR (L ⟨(m+1),⟨I,l_ (P:=fun _ y=>j9 l y) B hy ⟨G,I,I⟩⟩⟩ _ _ _ U os (dj.cons U<|aY U v<|dj.nil _) (aI [0,1,2,3,4]))
 refine WS fun _ d=>rP 1 [] mn ?_
 refine RK d<|ar<|Q1 hQ U U U ?_
 exact cB (bx fun h=>by have q:=h.wx _ (aS hy); have q2:=q.2; first|exact G q.1|omega).symm
end
section
open Go.RowKit
theorem DI (l:bf) (kA:OA) (kC:Nat) (az:List RA) (cA:OA) (cC:Nat) (bA:OA) (bC:Nat) (hin:ep l az):
 er Tryz.prog 111 [(vA (bV.cells (lq l kA kC cA cC bA bC)))] [(rd kA l.aL.length 9 (l.aL.map ak.cells)),(rd cA l.ah.length 2 (List.zipWith aq.cells l.ah az)),(eX (aU aq.gE l.ah az)),(rd bA l.ae.length 4 (l.ae.map bG.cells))] (vI (dH l)):=by
 have N:=hin.sx
 have M:=hin.sG
 have K:=hin.mW
 have L:=hin.sk
 refine bI kr Tryz.func111 U U fun P Q hQ hN=>?_
 try dsimp only
 refine WS fun _ C=>fK U fun O=>bo 1 U<|RK C<|aj fun _ D=>WS fun _ E=>bo 1 U<|rS (LP (bw.cells (bw.mk (bq.mk kA l.aL.length kC))) 0 U cb U U U)<|rS (CL (wO l.aL kA kC asm) (bk [1]) U)<|rP 1 [] mn ?_
 refine RK E<|cE U (fun A=>?_) (fun A=>?_)
 ·rw [Bool.not_eq_true'] at A
  refine WS fun _ F=>rP 1 [] mn ?_
  refine RK F<|ar<|Q1 hQ U U U ?_
  exact cI (zm (by simpa using A)).symm
 rw [Bool.not_eq_false'] at A
 refine WK D<|aj fun _ G=>WS fun _ H=>fG 1 [] (mc 0 U mn) U<|rS (CL (OM l kA kC az cA cC bA bC hin asm) (bk [1,2,3,4]) U)<|rP 1 [] mn ?_
 refine RK H<|cE U (aZ fun B=>?_) (a_ fun B=>?_)
 ·refine WS fun _ AA=>rP 1 [] mn ?_
  refine RK AA<|ar<|Q1 hQ U U U ?_
  exact cI (rv A B).symm
 refine WK G<|WS fun _ J=>rP 1 [] mn ?_
 refine RK J<|ar<|Q1 hQ U U U ?_
 exact cI (yg A B).symm
theorem NJ (l:bf) (kA:OA) (kC:Nat) (az:List RA) (cA:OA) (cC:Nat) (bA:OA) (bC:Nat) (s:aJ) (hin:ep l az) (hok:lB l) (hs:(0≤s.gk∧s.gk≤(l.ae.length:Int)-1)∧0≤s.Read∧s.Read≤86400000):
 er Tryz.prog 177 [(vA (bV.cells (lq l kA kC cA cC bA bC))),(vA (aJ.cells s))] [(rd kA l.aL.length 9 (l.aL.map ak.cells)),(rd cA l.ah.length 2 (List.zipWith aq.cells l.ah az)),(eX (aU aq.gE l.ah az)),(rd bA l.ae.length 4 (l.ae.map bG.cells))] (vT [(vA (aa.cells (cP l s))),(vB (decide ((cP l s).Lo≤(cP l s).Hi)))]):=by
 have A0:=hin.sx
 have Av:=hin.sG
 have AO:=hin.mW
 have An:=hin.sk
 refine bI kr Tryz.func177 U U fun w0 Q hQ hN=>?_
 try dsimp only
 refine WS fun _ i=>fK U fun b2=>fK U fun b3=>AL U dx fun b4=>rP 1 [] mn ?_
 refine RK i<|aj fun _ j=>dJ cv [11,12] [] [] [0,1,2,3,4,5,6] [] U U U U U<|eS U (FA 2 U fw U)<|eS U (L1 (vS cA l.ah.length cC) 2 U cb U U)<|eS U (FA 3 U fw U)<|eS U (L1 (vS bA l.ae.length bC) 2 U cb U U)<|eS U (FA 0 U fw U)<|eS U (L1 (vI s.gk) 1 U cb U U) ?_
 obtain ⟨y,hy⟩:=aH l.ae ((s.gk).toNat) I
 have w:=bJ bG.cells hy
 refine eS U (IA ((s.gk).toNat) U (aB 6 U) th dc I I)<|eS U (mV ((((s.gk).toNat)*4)+3) U (aB 6 U) (Nat.mul_pos I dc) fw U)<|eS U (fX ((s.gk).toNat) 3 (vI y.jH) U cb (aB 6 U) w U dc U) ?_
 have A1:=(hok.wx _ (aS hy)).2
 obtain ⟨x,hx⟩:=aH l.ah ((y.jH).toNat) I
 obtain ⟨xa,J⟩:=aH az ((y.jH).toNat) I
 have u:(List.zipWith aq.cells l.ah az)[(y.jH).toNat]? =some (aq.cells x xa):=cT hx J
 refine eS U (IA ((y.jH).toNat) U (aB 4 U) uB dc I I)<|eS U (lS ((y.jH).toNat) 0 (dh.cells (dh.mk x.dv (bq.mk xa.1 x.aV.length xa.2))) U cb (aB 4 U) u U dc U U)<|eT U<|cp U fun T6 m=>AL U xU fun b7=>aD (m _ _ (aI [1,2,3,4,5,6,7]) ?_)
 refine cp U fun T8 o=>fW U zo U<|aD (o _ _ (aI [1,2,3,4,5,6,7]) ?_)
 refine fO U<|KK j<|WS fun _ k=>rP 2 [] mn ?_
 refine RK k<|aj fun _ K=>ay ?_
 have A:(0≤(0:Int)∧(0:Int)≤(fF (gu x s.Read) 86400001))∧((fF (gu x s.Read) 86400001)≤(86400001:Int)∧(86400001:Int)≤86400001):=by (have Z:=iF (p:=gu x s.Read) (n:=86400001); omega)
 refine bK (ι:={z:Int×Int // (0≤z.1∧z.1≤(fF (gu x s.Read) 86400001))∧((fF (gu x s.Read) 86400001)≤z.2∧z.2≤86400001)}) [2,3,4,6] [0,1,2,3,4,5,6,7] U U (fun z=>[(7,(vI z.1.1)),(8,(vI z.1.2))]) (fun z=>[]) (fun _=>rfl) (fun _=>rfl) (fun z=>(z.1.2-z.1.1).toNat) ⟨((0:Int),(86400001:Int)),A⟩ (aT U) (aI [0,1,2,3,4,5,6,7]) ?_
 clear A
 rintro ⟨⟨a,b⟩,⟨H,AB⟩⟩ J11 F
 try dsimp only at H AB
 try dsimp only
 have B:=hok.clock _ (aS hx)
 have Z:=iF (p:=gu x s.Read) (n:=86400001)
 have Y:=iF (p:=gv x s.Read) (n:=86400001)
 refine aj fun _ L=>WS fun _ M=>rP 3 [] mn ?_
 refine RK M<|cE U (aP fun c=>?_) (aO fun c=>?_)
 ·refine WK L<|ay<|WS fun _ N=>bo 3 U<|rS (BI U (uu I I I))<|bo 1 U<|RK N<|aj fun _ O=>dg cv 9 kr<|dP 3 [] (mc 0 U mn) ?_
  refine dS (CL (BY x xa.1 xa.2 ((a+b)/2) asm I) (av (show g9 _ (rd xa.1 x.aV.length 3 (x.aV.map cd.cells)).holds from (cw 6 U (bH hx J (by simp [aq.gE]))))<|aM) U)<|dS (SX (ld (v:=(vI ((iI x ((a+b)/2)).Hi))) U U fw Bk U) U U) ?_
  have t:=rj B (show 0≤(a+b)/2∧(a+b)/2≤90000000 by omega)
  refine dP 4 [] (mc 2 U mn) ?_
  refine cM<|RK O<|cE U (aP fun g=>?_) (aO fun g=>?_)
  ·refine al<|rP 2 [] mn ?_
   refine aD<|aG ?_
   refine aR (F ⟨(a,((a+b)/2)),(by dsimp only; have hm:=lf (r:=s.Read) B (x:=(a+b)/2) I I; rcases Int.lt_or_le ((a+b)/2) (fF (gu x s.Read) 86400001) with q|q; (have C:=hm.1 q; simp only [gu,decide_eq_false_iff_not] at C; omega); (have C:=hm.2.1 q; simp only [gu,decide_eq_true_eq] at C; omega))⟩ _ _ _ rfl (by simp only []; omega) (aT rfl) (aI [0,1,2,3,4,5,6,7]))
  refine al<|rP 3 [] mn ?_
  refine aD<|aG ?_
  refine aR (F ⟨((((a+b)/2)+1),b),(by dsimp only; have hm:=lf (r:=s.Read) B (x:=(a+b)/2) I I; rcases Int.lt_or_le ((a+b)/2) (fF (gu x s.Read) 86400001) with q|q; (have C:=hm.1 q; simp only [gu,decide_eq_false_iff_not] at C; omega); (have C:=hm.2.1 q; simp only [gu,decide_eq_true_eq] at C; omega))⟩ _ _ _ rfl (by simp only []; omega) (aT rfl) (aI [0,1,2,3,4,5,6,7]))
 refine bD<|ab<|ab<|aA<|KK K<|WS fun _ P=>bo 2 U<|RK P<|WS fun _ R=>rP 2 [] mn ?_
 refine RK R<|aj fun _ S=>ay ?_
 have A:(-1≤((-1):Int)∧((-1):Int)≤(fF (gv x s.Read) 86400001)-1)∧((fF (gv x s.Read) 86400001)-1≤(86400000:Int)∧(86400000:Int)≤86400000):=by (have Y:=iF (p:=gv x s.Read) (n:=86400001); omega)
 refine bK (ι:={z:Int×Int // (-1≤z.1∧z.1≤(fF (gv x s.Read) 86400001)-1)∧((fF (gv x s.Read) 86400001)-1≤z.2∧z.2≤86400000)}) [2,3,4,6,10] [0,1,2,3,4,5,6,7] U U (fun z=>[(7,(vI z.1.1)),(8,(vI z.1.2))]) (fun z=>[]) (fun _=>rfl) (fun _=>rfl) (fun z=>(z.1.2-z.1.1).toNat) ⟨(((-1):Int),(86400000:Int)),A⟩ (aT U) (aI [0,1,2,3,4,5,6,7]) ?_
 clear A
 rintro ⟨⟨d,e⟩,⟨D,E⟩⟩ J20 G
 try dsimp only at D E
 try dsimp only
 have B:=hok.clock _ (aS hx)
 have Z:=iF (p:=gu x s.Read) (n:=86400001)
 have Y:=iF (p:=gv x s.Read) (n:=86400001)
 refine aj fun _ T=>WS fun _ AA=>rP 3 [] mn ?_
 refine RK AA<|bO U (aO fun f=>?_) (aP fun f=>?_)
 ·refine bD<|ab<|ab<|aA<|KK S<|WS fun _ X=>bo 2 U<|rS (SX (bu (xs:=[(0,.tmp 63),(1,.tmp 64)]) (cs:=(aa.cells (aa.mk a d))) U U (br gG U)) U U)<|bo 3 U<|sj U cz U<|rP 1 [] mn ?_
  refine RK X<|ar<|lP hQ [0] (mc 1 U mn) U ?_
  have e0:cP l s=⟨a,d⟩:=by (unfold cP qT; rw [xY hy hx,show a=(fF (gu x s.Read) 86400001) by omega,show d=(fF (gv x s.Read) 86400001)-1 by omega])
  rw [e0]
 refine WK T<|ay<|WS fun _ V=>bo 4 U<|rS (BI U (uu I I I))<|bo 1 U<|RK V<|aj fun _ W=>dg cv 9 kr<|dP 3 [] (mc 0 U mn) ?_
 refine dS (CL (BY x xa.1 xa.2 (((d+e)+1)/2) asm I) (av (show g9 _ (rd xa.1 x.aV.length 3 (x.aV.map cd.cells)).holds from (cw 6 U (bH hx J (by simp [aq.gE]))))<|aM) U)<|dS (SX (ld (v:=(vI ((iI x (((d+e)+1)/2)).Lo))) U U fw AN U) U U) ?_
 have t:=rj B (show 0≤(d+e+1)/2∧(d+e+1)/2≤90000000 by omega)
 refine dP 4 [] (mc 2 U mn) ?_
 refine cM<|RK W<|cE U (aP fun h=>?_) (aO fun h=>?_)
 ·refine al<|rP 2 [] mn ?_
  refine aD<|aG ?_
  refine aR (G ⟨((((d+e)+1)/2),e),(by dsimp only; have hm:=lf (r:=s.Read) B (x:=(d+e+1)/2) I I; rcases Int.lt_or_le ((d+e+1)/2) (fF (gv x s.Read) 86400001) with q|q; (have C:=hm.2.2.1 q; simp only [gv,decide_eq_false_iff_not] at C; omega); (have C:=hm.2.2.2 q; simp only [gv,decide_eq_true_eq] at C; omega))⟩ _ _ _ rfl (by simp only []; omega) (aT rfl) (aI [0,1,2,3,4,5,6,7]))
 refine al<|rP 3 [] mn ?_
 refine aD<|aG ?_
 refine aR (G ⟨(d,((((d+e)+1)/2)-1)),(by dsimp only; have hm:=lf (r:=s.Read) B (x:=(d+e+1)/2) I I; rcases Int.lt_or_le ((d+e+1)/2) (fF (gv x s.Read) 86400001) with q|q; (have C:=hm.2.2.1 q; simp only [gv,decide_eq_false_iff_not] at C; omega); (have C:=hm.2.2.2 q; simp only [gv,decide_eq_true_eq] at C; omega))⟩ _ _ _ rfl (by simp only []; omega) (aT rfl) (aI [0,1,2,3,4,5,6,7]))
end
section
open Go.RowKit
theorem No (l:bf) (kA:OA) (kC:Nat) (az:List RA) (cA:OA) (cC:Nat) (bA:OA) (bC:Nat) (r:cL) (sgA:OA) (sgC:Nat) (hin:ep l az) (hsl:r.ai.length≤1000000):
 er Tryz.prog 172 [(vA (bV.cells (lq l kA kC cA cC bA bC))),(vA (dL.cells (lV r sgA sgC)))] [(rd kA l.aL.length 9 (l.aL.map ak.cells)),(rd cA l.ah.length 2 (List.zipWith aq.cells l.ah az)),(eX (aU aq.gE l.ah az)),(rd bA l.ae.length 4 (l.ae.map bG.cells)),(rd sgA r.ai.length 2 (r.ai.map aJ.cells))] (vB (decide (fx l r))):=by
 have An:=hin.sx
 have AO:=hin.sG
 have w:=hin.mW
 have AC:=hin.sk
 refine bI kr Tryz.func172 U U fun w0 Q hQ hN=>?_
 try dsimp only
 refine WS fun _ h=>fK U fun b2=>fK U fun b3=>bo 1 U<|RK h<|aj fun _ j=>WS fun _ H=>fG 2 [] (mc 0 U mn) U<|rS (CL (iS r.Start 0 86400000) (aM) U)<|rP 2 [] mn ?_
 refine cH (t:=11) U (aZ fun X=>?_) (a_ fun X=>?_)
 ·refine bo 13 U<|RK H<|aN U<|WS fun _ k=>rP 1 [] mn ?_
  refine RK k<|ar<|Q1 hQ U U U ?_
  exact cB (bx fun q=>by have C:=q.time; have u:=q.len; omega).symm
 refine fG 4 [] (mc 0 U mn) U<|rS (CL (iS r.fZ r.Start 86400000) (aM) U)<|rP 3 [] mn ?_
 refine cH (t:=19) U (aZ fun Z=>?_) (a_ fun Z=>?_)
 ·refine bo 5 U<|RK H<|aN U<|WS fun _ m=>rP 1 [] mn ?_
  refine RK m<|ar<|Q1 hQ U U U ?_
  exact cB (bx fun q=>by have C:=q.time; have u:=q.len; omega).symm
 refine rP 5 [] (mc 0 U mn) ?_
 refine RK H<|cE U (aP fun a=>?_) (aO fun a=>?_)
 ·refine WS fun _ n=>rP 1 [] mn ?_
  refine RK n<|ar<|Q1 hQ U U U ?_
  exact cB (bx fun q=>by have C:=q.time; have u:=q.len; omega).symm
 refine WK j<|aj fun _ o=>WS fun _ J=>rP 1 [] mn ?_
 refine RK J<|ay ?_
 have F:(0≤r.ai.length)∧(qQ l r.ai 0):=by exact ⟨Nat.zero_le _,z4⟩
 refine bK (ι:={z:Nat // (z≤r.ai.length)∧(qQ l r.ai z)}) [2,3] [0,1,2,3,4,5,6] U U (fun z=>[(5,(vI (z.1:Int)))]) (fun z=>[]) (fun _=>rfl) (fun _=>rfl) (fun z=>r.ai.length-z.1) ⟨0,F⟩ (aT U) (aI [0,1,2,3,4,5,6]) ?_
 clear F
 rintro ⟨i,⟨p,A⟩⟩ J11 D
 try dsimp only
 refine aj fun _ K=>WS fun _ L=>rP 5 [] (mc 0 U mn) ?_
 refine RK L<|bO U (aO fun Y=>?_) (aP fun Y=>?_)
 ·refine bD<|ab<|ab<|aA<|KK o<|WS fun _ T=>rP 1 [] mn ?_
  refine RK T<|ar<|Q1 hQ U U U ?_
  exact cB (dK (BG I I A I)).symm
 refine WK K<|aj fun _ E=>ay<|WS fun _ M=>rP 3 [] (mc 0 U mn) ?_
 obtain ⟨x,hx⟩:=aH r.ai i I
 have s:=bJ aJ.cells hx
 refine rS (IA i U (aB 6 U) wv dc I I)<|rS (lS i 0 (aJ.cells x) U cb (aB 6 U) s U dc U U)<|AL U Gh fun v=>fW U xd U<|RK M<|aj fun _ N=>WS fun _ G=>fG 6 [0,1] (mc 0 U (mc 2 U mn)) U<|rS (CL (iS x.gk 0 ((l.ae.length:Int)-1)) (aM) U)<|rP 2 [] mn ?_
 refine cH (t:=45) U (aZ fun b=>?_) (a_ fun b=>?_)
 ·refine bo 5 U<|RK G<|aN U<|WS fun _ O=>rP 1 [] mn ?_
  refine RK O<|ar<|Q1 hQ U U U ?_
  exact cB (bx fun q=>by have C:=q.sig i x hx; unfold kx lE at C; omega).symm
 refine fG 2 [] (mc 0 U mn) U<|rS (CL (iS x.Read 0 86400000) (aM) U)<|rP 2 [] mn ?_
 refine RK G<|cE U (aZ fun c=>?_) (a_ fun c=>?_)
 ·refine WS fun _ P=>rP 1 [] mn ?_
  refine RK P<|ar<|Q1 hQ U U U ?_
  exact cB (bx fun q=>by have C:=q.sig i x hx; unfold kx lE at C; omega).symm
 refine WK N<|aj fun _ B=>dg cv 38 kr<|dP 3 [] mn ?_
 refine jA (t:=53) U (aO fun d=>?_) (aP fun d=>?_)
 ·refine lQ 35 U<|cM<|RK B<|bh U<|ck<|aG<|KK E<|al<|rP 3 [] mn ?_
  refine aD ?_
  have W:(vI (((i+1):Nat):Int))=(vI ((i:Int)+1)):=by exact cI I
  refine aR (D ⟨(i+1),⟨I,mm A hx (by unfold kx lE; (rw [Ha I]; simp only; omega))⟩⟩ _ _ _ U os (dj.cons U<|dj.cons U<|aY U W<|dj.nil _) (aI [1,2,3,4,5,6,7]))
 refine dP 6 [0,1] (mc 0 U (mc 1 U mn)) ?_
 obtain ⟨y,hy⟩:=aH r.ai (i-1) I
 have AB:=bJ aJ.cells hy
 refine dS (IA (i-1) U (aB 7 U) wv dc I I)<|dS (mV ((i-1)*2) U (aB 7 U) (Nat.mul_pos I dc) fw U)<|dS (fX (i-1) 0 (vI y.gk) U cb (aB 7 U) AB U dc U)<|dP 2 [] mn ?_
 refine jh (t:=64) U (aP fun e=>?_) (aO fun e=>?_)
 ·refine lQ 24 U<|cM<|RK B<|aN U<|WS fun _ R=>rP 1 [] mn ?_
  refine RK R<|ar<|Q1 hQ U U U ?_
  exact cB (bx fun q=>by have C:=q.sig i x hx; unfold kx lE at C; (rw [sf I hy] at C; omega)).symm
 refine mw 6 [0,1] (mc 0 U (mc 1 U mn)) U<|dS (IA (i-1) U (aB 7 U) wv dc I I)<|dS (mV ((i-1)*2) U (aB 7 U) (Nat.mul_pos I dc) fw U)<|dS (fX (i-1) 0 (vI y.gk) U cb (aB 7 U) AB U dc U)<|dP 2 [] mn ?_
 refine jA (t:=75) U (aO fun f=>?_) (aP fun f=>?_)
 ·refine lQ 13 U<|cM<|RK B<|bh U<|ck<|aG<|KK E<|al<|rP 3 [] mn ?_
  refine aD ?_
  have V:(vI (((i+1):Nat):Int))=(vI ((i:Int)+1)):=by exact cI I
  refine aR (D ⟨(i+1),⟨I,mm A hx (by unfold kx lE; (rw [sf I hy]; omega))⟩⟩ _ _ _ U os (dj.cons U<|dj.cons U<|aY U V<|dj.nil _) (aI [1,2,3,4,5,6,7]))
 refine mw 6 [0,1] (mc 0 U (mc 1 U mn)) U<|dS (IA (i-1) U (aB 7 U) wv dc I I)<|dS (mV (((i-1)*2)+1) U (aB 7 U) (Nat.mul_pos I dc) fw U)<|dS (fX (i-1) 1 (vI y.Read) U cb (aB 7 U) AB U dc U)<|dP 4 [] mn ?_
 refine cM<|RK B<|cE U (aP fun g=>?_) (aO fun g=>?_)
 ·refine WS fun _ S=>rP 1 [] mn ?_
  refine RK S<|ar<|Q1 hQ U U U ?_
  exact cB (bx fun q=>by have C:=q.sig i x hx; unfold kx lE at C; (rw [sf I hy] at C; omega)).symm
 refine ck<|aG<|KK E<|al<|rP 3 [] mn ?_
 refine aD ?_
 have AA:(vI (((i+1):Nat):Int))=(vI ((i:Int)+1)):=by exact cI I
 refine aR (D ⟨(i+1),⟨I,mm A hx (by unfold kx lE; (rw [sf I hy]; omega))⟩⟩ _ _ _ U os (dj.cons U<|dj.cons U<|aY U AA<|dj.nil _) (aI [1,2,3,4,5,6,7]))
end
section
open Go.RowKit
theorem NV (l:bf) (kA:OA) (kC:Nat) (az:List RA) (cA:OA) (cC:Nat) (bA:OA) (bC:Nat) (r:cL) (sgA:OA) (sgC:Nat) (hin:ep l az) (hle:dH l=0) (hr:fx l r):
 lx Tryz.prog 174 [(vA (bV.cells (lq l kA kC cA cC bA bC))),(vA (dL.cells (lV r sgA sgC)))] [(rd kA l.aL.length 9 (l.aL.map ak.cells)),(rd cA l.ah.length 2 (List.zipWith aq.cells l.ah az)),(eX (aU aq.gE l.ah az)),(rd bA l.ae.length 4 (l.ae.map bG.cells)),(rd sgA r.ai.length 2 (r.ai.map aJ.cells))] (fun (x:(OA)×Nat×(OA)×Nat×(OA)×Nat)=>(vA (iN.cells (iN.mk (bq.mk x.1 ((cS l l.ae.length).length) x.2.1) (bq.mk x.2.2.1 ((e_ l r r.ai.length).length) x.2.2.2.1) (bq.mk x.2.2.2.2.1 ((fu l r r.ai.length).length) x.2.2.2.2.2))))) (fun (x:(OA)×Nat×(OA)×Nat×(OA)×Nat)=>True) (fun (x:(OA)×Nat×(OA)×Nat×(OA)×Nat)=>[(own x.1 x.2.1 3 1 ((cS l l.ae.length).map iC)),(own x.2.2.1 x.2.2.2.1 40 2 ((e_ l r r.ai.length).map aa.cells)),(own x.2.2.2.2.1 x.2.2.2.2.2 4 1 ((fu l r r.ai.length).map qs))]):=by
 have A5:=hin.sx
 have A1:=hin.sG
 have Av:=hin.mW
 have A0:=hin.sk
 obtain ⟨w,g⟩:=gT hle
 have t:=g.head
 unfold gJ at t
 have A3:=hr.len
 have A4:=hr.time
 refine dp kr Tryz.func174 U U fun w0 Q hQ hN=>?_
 try dsimp only
 refine WS fun _ n=>fK U fun b2=>fK U fun b3=>AL U Pv fun b4=>RK n<|WS fun _ o=>AL U Pv fun h=>RK o<|aj fun _ p=>WS fun _ q=>rP 1 [] mn ?_
 refine RK q<|ay<|gl 3 1 ?_
 have A:(0≤l.ae.length):=by exact Nat.zero_le _
 refine bK (ι:={z:Nat×(OA)×Nat // (z.1≤l.ae.length)}) [2,3,4,5] [2,3,4,5,6,7,8,9] U U (fun z=>[(6,(vI (z.1.1:Int)))]) (fun z=>[(own z.1.2.1 z.1.2.2 3 1 ((cS l z.1.1).map iC)),(cm h 238 (iN.cells (iN.mk (bq.mk z.1.2.1 ((cS l z.1.1).length) z.1.2.2) (bq.mk none 0 0) (bq.mk none 0 0))))]) (fun _=>rfl) (fun _=>rfl) (fun z=>l.ae.length-z.1.1) ⟨(0,none,0),A⟩ (aT U) (aI [2,3,4,5,6,7,8,9,0,1]) ?_
 clear A
 rintro ⟨⟨b,a,c⟩,F⟩ J9 m
 try dsimp only at F
 try dsimp only
 refine aj fun _ K=>WS fun _ L=>rP 5 [] (mc 2 U mn) ?_
 refine RK L<|cE U (aP fun j=>?_) (aO fun j=>?_)
 ·refine WK K<|aj fun _ M=>ay<|dJ cv [5,6,8] [1] [0] [0,1,2,3,4,5,6,7] [0,1,2,3,4,5,6,7,8,9] U U U U U<|eS U (FA 0 U fw U)<|fS U (L1 (vS a ((cS l b).length) c) 9 U cb U U)<|eS U (LW 2 U cb U U)<|eS U (MV U) ?_
  have A2:=nA w g (i:=b) I
  refine eS U (CL (Lz l kA kC az cA cC bA bC (b:Int) hin asm asm I) (bk [3,4,5,6]) U)<|eS U (FA 0 U fw U)<|eT U<|gP U fun T14 W=>du (xs:=[.tmp 21]) (cs:=[(vI (eB l (b:Int).toNat))]) U cN jv U U U U (by simp [Value.cells]) U U fun y=>aD (W _ _ (aI [1,2,3,4,5,6,7,8]) (aI [1,2,3,4,5,6,7,8,9,10]) ?_)
  refine cp U fun T16 X=>?_
  refine cO (es2:=(List.map iC (cS l (b+1)))) (m':=(cS l (b+1)).length) 9 U U U pq U U sm (bp (es:=List.map iC [(eB l (b:Int).toNat)]) 0 U U (by simp [bM]) U) (jP _) (by simp only [eH]; omega) (by simp only [maxLen,eH]; omega) (by rw [wb]; simp) sm U fun H AB=>?_
  try dsimp only
  refine aD (X _ _ (aI [1,2,3,4,5,6,7,8]) ?_)
  refine cp U fun T19 Y=>VA (iN.cells (iN.mk (bq.mk H ((cS l (b+1)).length) AB) (bq.mk none 0 0) (bq.mk none 0 0))) U xn U U<|aD (Y _ _ (aI [1,2,3,4,5,6,7,8]) ?_)
  refine fO U<|aG<|KK M<|al<|rP 3 [] mn ?_
  refine aD ?_
  have e:(vI (((b+1):Nat):Int))=(vI ((b:Int)+1)):=by exact cI I
  refine aR (m ⟨((b+1),H,AB),(by first|omega|(simp only []; omega))⟩ _ _ _ U os (cR 4<|aY U e<|dj.nil _) (aI [1,2,3,4,5,6,7,8,9,10]))
 refine bD<|ab<|ab<|aA<|KK p<|aj fun _ N=>WS fun _ O=>?_
 rw [show cS l b=(cS l l.ae.length) from by rw [show b=l.ae.length by omega]]
 refine rP 1 [] mn ?_
 refine RK O<|ay<|gl 40 2<|gl 4 1 ?_
 have A:(0≤r.ai.length):=by exact Nat.zero_le _
 refine bK (ι:={z:Nat×(OA)×Nat×(OA)×Nat // (z.1≤r.ai.length)}) [2,3,4,5] [2,3,4,5,6,7,8,9,10] U U (fun z=>[(7,(vI (z.1.1:Int)))]) (fun z=>[(own z.1.2.2.2.1 z.1.2.2.2.2 4 1 ((fu l r z.1.1).map qs)),(own z.1.2.1 z.1.2.2.1 40 2 ((e_ l r z.1.1).map aa.cells)),(cm h 238 (iN.cells (iN.mk (bq.mk a ((cS l l.ae.length).length) c) (bq.mk z.1.2.1 ((e_ l r z.1.1).length) z.1.2.2.1) (bq.mk z.1.2.2.2.1 ((fu l r z.1.1).length) z.1.2.2.2.2))))]) (fun _=>rfl) (fun _=>rfl) (fun z=>r.ai.length-z.1.1) ⟨(0,none,0,none,0),A⟩ (aT U) (aI [2,3,4,5,6,7,8,9,10,0,1,11]) ?_
 clear A
 rintro ⟨⟨i,ta,tc,sa,sc⟩,G⟩ J23 J
 try dsimp only at G
 try dsimp only
 refine aj fun _ P=>WS fun _ R=>rP 5 [] (mc 1 U mn) ?_
 refine RK R<|bO U (aO fun k=>?_) (aP fun k=>?_)
 ·refine bD<|ab<|ab<|aA<|KK N<|WS fun _ V=>?_
  rw [show e_ l r i=(e_ l r r.ai.length) from by rw [show i=r.ai.length by omega]]
  rw [show fu l r i=(fu l r r.ai.length) from by rw [show i=r.ai.length by omega]]
  refine rP 1 [] (mc 11 U mn) ?_
  refine fW U Uh U<|RK V<|ar<|LX hQ (a,c,ta,tc,sa,sc) [8,10,9] [0] (mc 0 U mn) U U U U ?_
  trivial
 refine WK P<|aj fun _ S=>ay<|aj fun _ T=>dJ cv [10,11] [] [] [0,1,2,3,4,5,6,7,8,9,10,11] [] U U U U U<|eS U (LW 2 U cb U U)<|eS U (FA 2 U fw U)<|eS U (L1 (vS sgA r.ai.length sgC) 1 U cb U U)<|eS U (MV U) ?_
 obtain ⟨s,hs⟩:=aH r.ai i I
 have v:=bJ aJ.cells hs
 refine eS U (IA i U (aB 7 U) wv dc I I)<|eS U (lS i 0 (aJ.cells s) U cb (aB 7 U) v U dc U U) ?_
 have u:=(hr.sig i s hs).1
 refine eS U (CL (NJ l kA kC az cA cC bA bC s hin asm (by exact u)) (bk [3,4,5,6]) U)<|eS U (MV U)<|eS U (EX U)<|eS U (EX U)<|eS U (AG U)<|eT U<|cp U fun T29 Z=>AL U dx fun AC=>aD (Z _ _ (aI [1,2,3,4,5,6,7,8,9,10,11,12]) ?_)
 refine cp U fun T31 d=>fW U cz U<|aD (d _ _ (aI [1,2,3,4,5,6,7,8,9,10,11,12]) ?_)
 refine fO U<|KK T<|WS fun _ AA=>rP 3 [0,1] (mc 12 U (mc 0 U mn)) ?_
 refine du (xs:=[.tmp 44]) (cs:=(aa.cells (cP l s))) U jY dx U U U U (by simp [Value.cells,aa.aW]) U U fun AO=>?_
 refine cO (es2:=(List.map aa.cells (e_ l r (i+1)))) (m':=(e_ l r (i+1)).length) 12 U U U Et U U sm (bp (es:=List.map aa.cells [(cP l s)]) 0 U U (by simp [aa.aW]) U) (hP _) (by rw [rQ I]; omega) (by rw [rQ I]; simp only [maxLen]; omega) (by rw [EC hs]; simp) sm U fun B C=>?_
 try dsimp only
 refine bo 1 U<|jx (vs:=[(vS B ((e_ l r (i+1)).length) C)]) (cs':=(iN.cells (iN.mk (bq.mk a ((cS l l.ae.length).length) c) (bq.mk B ((e_ l r (i+1)).length) C) (bq.mk sa ((fu l r i).length) sc)))) (C':=[_,_,_,_,_,_,_,_,_,_,_,_,_,(cm h 238 (iN.cells (iN.mk (bq.mk a ((cS l l.ae.length).length) c) (bq.mk B ((e_ l r (i+1)).length) C) (bq.mk sa ((fu l r i).length) sc))))]) 13 U U U Vv U U U U U U U<|RK AA<|al<|rP 3 [] (mc 13 U mn) ?_
 refine du (xs:=[.tmp 50]) (cs:=[(vB (decide ((cP l s).Lo≤(cP l s).Hi)))]) U Pd We U U U U (by simp [Value.cells]) U U fun An=>?_
 refine cO (es2:=(List.map qs (fu l r (i+1)))) (m':=(fu l r (i+1)).length) 12 U U U Sy U U sm (bp (es:=List.map qs [(decide ((cP l s).Lo≤(cP l s).Hi))]) 0 U U (by simp [AH]) U) (IB _) (by rw [vo I]; omega) (by rw [vo I]; simp only [maxLen]; omega) (by rw [E1 hs]; simp) sm U fun D E=>?_
 try dsimp only
 refine bo 1 U<|jx (vs:=[(vS D ((fu l r (i+1)).length) E)]) (cs':=(iN.cells (iN.mk (bq.mk a ((cS l l.ae.length).length) c) (bq.mk B ((e_ l r (i+1)).length) C) (bq.mk D ((fu l r (i+1)).length) E)))) (C':=[_,_,_,_,_,_,_,_,_,_,_,_,_,_,(cm h 238 (iN.cells (iN.mk (bq.mk a ((cS l l.ae.length).length) c) (bq.mk B ((e_ l r (i+1)).length) C) (bq.mk D ((fu l r (i+1)).length) E))))]) 14 U U U Sb U U U U U U U<|aD<|aG<|KK S<|al<|bo 2 U<|rP 1 [] mn ?_
 refine aD ?_
 have f:(vI (((i+1):Nat):Int))=(vI ((i:Int)+1)):=by exact cI I
 refine aR (J ⟨((i+1),B,C,D,E),(by first|omega|(simp only []; omega))⟩ _ _ _ U os (cR 4<|aY U f<|dj.nil _) (aI [3,4,5,6,7,8,9,10,11,12,13,14]))
theorem Mh (r:cL) (sgA:OA) (sgC:Nat) (l:bf) (wA:OA) (wC:Nat) (tA:OA) (tC:Nat) (bA:OA) (bC:Nat) (rs:List Int) (rsA:OA) (rsC:Nat) (hle:dH l=0) (hr:fx l r) (hn:rs.length≤l.ae.length) (hrs: ∀ x∈rs,0≤x→x<(r.ai.length:Int)):
 lx Tryz.prog 175 [(vA (dL.cells (lV r sgA sgC))),(vA (iN.cells (iN.mk (bq.mk wA ((cS l l.ae.length).length) wC) (bq.mk tA ((e_ l r r.ai.length).length) tC) (bq.mk bA ((fu l r r.ai.length).length) bC)))),(vS rsA rs.length rsC)] [(rd sgA r.ai.length 2 (r.ai.map aJ.cells)),(rd wA ((cS l l.ae.length).length) 1 ((cS l l.ae.length).map iC)),(rd tA ((e_ l r r.ai.length).length) 2 ((e_ l r r.ai.length).map aa.cells)),(rd bA ((fu l r r.ai.length).length) 1 ((fu l r r.ai.length).map qs)),(rd rsA rs.length 1 (rs.map iC))] (fun (x:(OA)×Nat)=>(vS x.1 ((jB l r rs).length) x.2)) (fun (x:(OA)×Nat)=>True) (fun (x:(OA)×Nat)=>[(own x.1 x.2 3 1 ((jB l r rs).map iC))]):=by
 obtain ⟨J,D⟩:=gT hle
 have v:=D.head
 unfold gJ at v
 have A2:=hr.len
 have A3:=hr.time
 have w:=FH (l:=l) (rs:=rs) ⟨I,I⟩ (fun b hb=>by have:=nA J D (i:=b) I; omega) hrs
 have A0:=eH (l:=l) (n:=l.ae.length)
 have A4:=rQ (l:=l) (Nat.le_refl r.ai.length)
 refine dp kr Tryz.func175 U U fun w0 Q hQ hN=>?_
 try dsimp only
 refine WS fun _ h=>fK U fun b2=>fK U fun b3=>bo 1 U<|RK h<|WS fun _ m=>rP 2 [] mn ?_
 refine xu (n:=rs.length) (es:=(List.map iC (List.replicate rs.length 0))) U U U pq I I (by simp only [maxLen]; omega) (by rw [List.map_replicate]; rfl) U fun E=>?_
 try dsimp only
 refine bo 1 U<|RK m<|WS fun _ p=>fG 3 [] (mc 2 U mn) U<|RK p<|aj fun _ q=>WS fun _ t=>rP 4 [] mn ?_
 refine RK t<|ay ?_
 rw [show (own (some ⟨E,0,none⟩) rs.length 3 1 (List.map iC (List.replicate rs.length 0)))=(own (some ⟨E,0,none⟩) rs.length 3 1 ((jR l r rs rs.length).map iC)) from by rw [IE]]
 have B:(rs.length≤rs.length):=by exact Nat.le_refl _
 have u:(vI ((jV l r rs rs.length).2))=(vI r.fZ):=by rw [u_]
 refine bK (ι:={z:Nat // (z≤rs.length)}) [2,3,4,7] [1,2,3,4,5,6,7] U U (fun z=>[(8,(vI ((jV l r rs z.1).2))),(9,(vI ((z.1:Int)-1)))]) (fun z=>[(own (some ⟨E,0,none⟩) rs.length 3 1 ((jR l r rs z.1).map iC))]) (fun _=>rfl) (fun _=>rfl) (fun z=>z.1) ⟨rs.length,B⟩ (aY U u<|aT U) (aI [1,2,3,4,5,6,7,0]) ?_
 clear B
 rintro ⟨j,AC⟩ J10 F
 try dsimp only
 have A1:=HU (l:=l) (r:=r) (rs:=rs) (j:=j) I
 refine aj fun _ L=>WS fun _ M=>rP 2 [] mn ?_
 refine RK M<|bO U (aO fun g=>?_) (aP fun g=>?_)
 ·refine bD<|ab<|ab<|aA<|KK q<|WS fun _ R=>rP 1 [] mn ?_
  rw [show (Value.slice (some ⟨E,0,none⟩) rs.length rs.length)=(Value.slice (some ⟨E,0,none⟩) ((jB l r rs).length) rs.length) from by rw [show (jB l r rs).length=rs.length from rR _ _]]
  rw [show jR l r rs j=jB l r rs from by rw [show j=0 by omega]; exact EK]
  refine rP 1 [] mn ?_
  refine RK R<|ar<|LX hQ ((some ⟨E,0,none⟩),rs.length) [7] [] mn U U U U ?_
  trivial
 refine WK L<|aj fun _ G=>ay<|aj fun _ H=>WS fun _ N=>rP 2 [] mn ?_
 have Av:=w (rs.length-j) j I
 obtain ⟨x,hx⟩:=aH rs (j-1) I
 have d:=bJ iC hx
 refine rS (IA (j-1) U (aB 6 U) cN dc I I)<|rS (fX (j-1) 0 (vI x) U cb (aB 6 U) d U dc U)<|rP 1 [] mn ?_
 refine RK N<|bO U (aO fun A=>?_) (aP fun A=>?_)
 ·refine WK H<|WS fun _ P=>rP 3 [] mn ?_
  obtain ⟨A7,c⟩:=aH (jR l r rs j) (j-1) I
  have hx25m:=bJ iC c
  refine rS (IA (j-1) U (ag (n:=rs.length) 7 U sq) cN dc I I) ?_
  have V:((jR l r rs j).set (j-1) ((jV l r rs j).2))=(jR l r rs (j-1)):=by (rw [← zH I hx]; congr 1; unfold uD; (rw [if_neg A]; done))
  refine dI (k:=(j-1)) (o:=0) (vs:=[(vI ((jV l r rs j).2))]) (es':=(List.map iC (jR l r rs (j-1)))) (C':=[_,_,_,_,_,_,_,(own (some ⟨E,0,none⟩) rs.length 3 1 (List.map iC (jR l r rs (j-1))))]) 7 U U U DM U U U U hx25m U dc (by exact (List.map_set (f:=iC) (l:=(jR l r rs j)) (i:=(j-1)) (a:=(jV l r rs j).2)).symm.trans (congrArg _ V)) U<|RK P<|al<|rP 4 [] (mc 0 U mn) ?_
  obtain ⟨y,hy⟩:=aH (cS l l.ae.length) (j-1) I
  have K:=bJ iC hy
  refine rS (IA (j-1) U (aB 3 U) cN dc I I)<|rS (fX (j-1) 0 (vI y) U cb (aB 3 U) K U dc U) ?_
  have C:=uV hy
  have AB:=nA J D (i:=j-1) I
  rw [← C] at AB
  refine bo 2 U<|aD<|aG<|KK G<|al<|rP 3 [] mn ?_
  refine aD ?_
  have W:(vI ((jV l r rs (j-1)).2))=(vI (((jV l r rs j).2)-y)):=by exact cI (by rw [qc I hx]; simp only; unfold uD; rw [C]; (rw [if_neg A]; done))
  have X:(vI ((((j-1):Nat):Int)-1))=(vI (((j:Int)-1)-1)):=by exact cI I
  refine aR (F ⟨(j-1),(by first|omega|(simp only []; omega))⟩ _ _ _ U os (cR 4<|aY U W<|aY U X<|dj.nil _) (aI [0,1,2,3,4,5,6,7]))
 refine dg cv 12 kr<|dP 5 [] (mc 0 U mn) ?_
 refine dS (IA (j-1) U (aB 6 U) cN dc I I)<|dS (fX (j-1) 0 (vI x) U cb (aB 6 U) d U dc U) ?_
 have A5:=hrs x (aS hx) A
 obtain ⟨z,hz⟩:=aH (e_ l r r.ai.length) ((x).toNat) I
 have An:=bJ aa.cells hz
 refine dS (IA ((x).toNat) U (aB 4 U) jY dc I I)<|dS (mV ((((x).toNat)*2)+1) U (aB 4 U) (Nat.mul_pos I dc) fw U) ?_
 obtain ⟨s,hs,e⟩:=LS hz
 have AO:=yh l s
 rw [← e] at AO
 have Y:M4 l r x=z.Hi:=by rw [Fm hs,e]
 refine dS (fX ((x).toNat) 1 (vI z.Hi) U cb (aB 4 U) An U dc U)<|dS (MN U)<|lQ 1 U<|cM<|RK H<|WS fun _ O=>rP 3 [] mn ?_
 obtain ⟨A6,Z⟩:=aH (jR l r rs j) (j-1) I
 have hx19m:=bJ iC Z
 refine rS (IA (j-1) U (ag (n:=rs.length) 7 U sq) cN dc I I) ?_
 have S:((jR l r rs j).set (j-1) (min ((jV l r rs j).2) z.Hi))=(jR l r rs (j-1)):=by (rw [← zH I hx]; congr 1; unfold uD; (rw [if_pos A,Y]; done))
 refine dI (k:=(j-1)) (o:=0) (vs:=[(vI (min ((jV l r rs j).2) z.Hi))]) (es':=(List.map iC (jR l r rs (j-1)))) (C':=[_,_,_,_,_,_,_,(own (some ⟨E,0,none⟩) rs.length 3 1 (List.map iC (jR l r rs (j-1))))]) 7 U U U DM U U U U hx19m U dc (by exact (List.map_set (f:=iC) (l:=(jR l r rs j)) (i:=(j-1)) (a:=(min ((jV l r rs j).2) z.Hi))).symm.trans (congrArg _ S)) U<|RK O<|al<|rP 4 [] (mc 0 U mn) ?_
 obtain ⟨y,hy⟩:=aH (cS l l.ae.length) (j-1) I
 have K:=bJ iC hy
 refine rS (IA (j-1) U (aB 3 U) cN dc I I)<|rS (fX (j-1) 0 (vI y) U cb (aB 3 U) K U dc U) ?_
 have C:=uV hy
 have AB:=nA J D (i:=j-1) I
 rw [← C] at AB
 refine bo 2 U<|aD<|aG<|KK G<|al<|rP 3 [] mn ?_
 refine aD ?_
 have T:(vI ((jV l r rs (j-1)).2))=(vI ((min ((jV l r rs j).2) z.Hi)-y)):=by exact cI (by rw [qc I hx]; simp only; unfold uD; rw [C]; (rw [if_pos A,Y]; done))
 have AA:(vI ((((j-1):Nat):Int)-1))=(vI (((j:Int)-1)-1)):=by exact cI I
 refine aR (F ⟨(j-1),(by first|omega|(simp only []; omega))⟩ _ _ _ U os (cR 4<|aY U T<|aY U AA<|dj.nil _) (aI [0,1,2,3,4,5,6,7]))
end
section
open Go.RowKit
theorem Il (l:bf) (kA:OA) (kC:Nat) (az:List RA) (cA:OA) (cC:Nat) (bA:OA) (bC:Nat) (r:cL) (sgA:OA) (sgC:Nat) (vwA:OA) (vwC:Nat) (vtA:OA) (vtC:Nat) (vbA:OA) (vbC k:Nat) (rs:List Int) (rA:OA) (rC:Nat) (fs:List Int) (fA:OA) (fC:Nat) (hin:ep l az) (hle:dH l=0) (hr:fx l r) (hk:rs.length+k=l.ae.length) (hfl:fs.length=rs.length) (hst:r.Start≤gp r.Start fs∧gp r.Start fs≤r.fZ) (hrs: ∀ x∈rs,-1≤x∧x<(r.ai.length:Int)) (hrec: ∀ (k2:Nat) (rs2:List Int) (rA2:OA) (rC2:Nat) (fs2:List Int) (fA2:OA) (fC2:Nat),(k2<k)→(rs2.length+k2=l.ae.length)→(fs2.length=rs2.length)→(r.Start≤gp r.Start fs2∧gp r.Start fs2≤r.fZ)→(∀ x∈rs2,-1≤x∧x<(r.ai.length:Int))→DS Tryz.prog 173 [(vA (bV.cells (lq l kA kC cA cC bA bC))),(vA (dL.cells (lV r sgA sgC))),(vA (iN.cells (iN.mk (bq.mk vwA ((cS l l.ae.length).length) vwC) (bq.mk vtA ((e_ l r r.ai.length).length) vtC) (bq.mk vbA ((fu l r r.ai.length).length) vbC)))),(vS rA2 rs2.length rC2),(vS fA2 fs2.length fC2)] [(rd kA l.aL.length 9 (l.aL.map ak.cells)),(rd cA l.ah.length 2 (List.zipWith aq.cells l.ah az)),(eX (aU aq.gE l.ah az)),(rd bA l.ae.length 4 (l.ae.map bG.cells)),(rd sgA r.ai.length 2 (r.ai.map aJ.cells)),(rd vwA ((cS l l.ae.length).length) 1 ((cS l l.ae.length).map iC)),(rd vtA ((e_ l r r.ai.length).length) 2 ((e_ l r r.ai.length).map aa.cells)),(rd vbA ((fu l r r.ai.length).length) 1 ((fu l r r.ai.length).map qs))] (bB [own rA2 rC2 3 1 (rs2.map iC),own fA2 fC2 3 1 (fs2.map iC)]) (fun (x:(OA)×Nat×(List kJ))=>(vS x.1 ((iq l r k2 rs2 fs2).length) x.2.1)) (fun (x:(OA)×Nat×(List kJ))=>x.2.2.length=(iq l r k2 rs2 fs2).length) (fun (x:(OA)×Nat×(List kJ))=>(bB (aU dy.owns (iq l r k2 rs2 fs2) x.2.2++[own x.1 x.2.1 241 3 (List.zipWith dy.cells (iq l r k2 rs2 fs2) x.2.2)])))):
 DS Tryz.prog 173 [(vA (bV.cells (lq l kA kC cA cC bA bC))),(vA (dL.cells (lV r sgA sgC))),(vA (iN.cells (iN.mk (bq.mk vwA ((cS l l.ae.length).length) vwC) (bq.mk vtA ((e_ l r r.ai.length).length) vtC) (bq.mk vbA ((fu l r r.ai.length).length) vbC)))),(vS rA rs.length rC),(vS fA fs.length fC)] [(rd kA l.aL.length 9 (l.aL.map ak.cells)),(rd cA l.ah.length 2 (List.zipWith aq.cells l.ah az)),(eX (aU aq.gE l.ah az)),(rd bA l.ae.length 4 (l.ae.map bG.cells)),(rd sgA r.ai.length 2 (r.ai.map aJ.cells)),(rd vwA ((cS l l.ae.length).length) 1 ((cS l l.ae.length).map iC)),(rd vtA ((e_ l r r.ai.length).length) 2 ((e_ l r r.ai.length).map aa.cells)),(rd vbA ((fu l r r.ai.length).length) 1 ((fu l r r.ai.length).map qs))] (bB [own rA rC 3 1 (rs.map iC),own fA fC 3 1 (fs.map iC)]) (fun (x:(OA)×Nat×(List kJ))=>(vS x.1 ((iq l r k rs fs).length) x.2.1)) (fun (x:(OA)×Nat×(List kJ))=>x.2.2.length=(iq l r k rs fs).length) (fun (x:(OA)×Nat×(List kJ))=>(bB (aU dy.owns (iq l r k rs fs) x.2.2++[own x.1 x.2.1 241 3 (List.zipWith dy.cells (iq l r k rs fs) x.2.2)]))):=by
 have R0:=hin.sx
 have Q_:=hin.sG
 have Qq:=hin.mW
 have Qr:=hin.sk
 obtain ⟨L2,Ge⟩:=gT hle
 have LT:=Ge.head
 unfold gJ at LT
 have Av:=hr.len
 have RZ:=hr.time
 have RS:=eH (l:=l) (n:=l.ae.length)
 have R1:=rQ (l:=l) (Nat.le_refl r.ai.length)
 have Rk:=vo (l:=l) (Nat.le_refl r.ai.length)
 have R2:=tR rs
 refine mZ kr Tryz.func173 U U fun w0 Q hQ hN=>?_
 try dsimp only
 refine Da 0 U U fun wz Sz hz=>?_
 try dsimp only
 refine WS fun _ Kp=>fK U fun b2=>fK U fun b3=>fK U fun b4=>bo 1 U<|RK Kp<|WS fun _ Kx=>bo 1 U<|RK Kx<|WS fun _ K0=>bo 4 U<|RK K0<|aj fun _ K4=>WS fun _ K5=>rP 1 [] mn ?_
 refine RK K5<|ay ?_
 have C:(0≤rs.length):=by exact Nat.zero_le _
 have K8:(vI ((dq (rs.take 0)).right))=(vI 0):=by rfl
 refine bK (ι:={z:Nat // (z≤rs.length)}) [3,4,5,6,7,11,12] [0,1,2,3,4,5,6,7,8,9,10,11] U U (fun z=>[(13,(vI ((dq (rs.take z.1)).right))),(14,(vI (z.1:Int)))]) (fun z=>[]) (fun _=>rfl) (fun _=>rfl) (fun z=>rs.length-z.1) ⟨0,C⟩ (aY U K8<|aT U) (aI [0,1,2,3,4,5,6,7,8,9,10,11]) ?_
 clear C
 rintro ⟨i,Lf⟩ J10 g
 try dsimp only
 have Lk:=tR (rs.take i)
 rw [List.length_take] at Lk
 refine aj fun _ A2=>WS fun _ A3=>rP 3 [] mn ?_
 refine RK A3<|cE U (aP fun J5=>?_) (aO fun J5=>?_)
 ·refine WK A2<|aj fun _ h=>ay<|WS fun _ A4=>rP 2 [] mn ?_
  obtain ⟨x,hx⟩:=aH rs i I
  have L3:=bJ iC hx
  refine rS (IA i U (show g9 _ (rd rA rs.length 1 (rs.map iC)).holds from (qa (c:=rC) (e:=3) 3 U sm sm)) cN dc I I)<|rS (fX i 0 (vI x) U cb (show g9 _ (rd rA rs.length 1 (rs.map iC)).holds from (qa (c:=rC) (e:=3) 3 U sm sm)) L3 U dc U)<|rP 1 [] mn ?_
  refine RK A4<|bO U (aO fun AO=>?_) (aP fun AO=>?_)
  ·refine ck<|aG<|KK h<|al<|rP 3 [] mn ?_
   refine aD ?_
   have C3:(vI ((dq (rs.take (i+1))).right))=(vI ((dq (rs.take i)).right)):=by exact cI (by rw [tL hx]; (rw [if_neg AO]; exact Int.add_zero _))
   have DV:(vI (((i+1):Nat):Int))=(vI ((i:Int)+1)):=by exact cI I
   refine aR (g ⟨(i+1),(by first|omega|(simp only []; omega))⟩ _ _ _ U os (cR 7<|aY U C3<|aY U DV<|dj.nil _) (aI [0,1,2,3,4,5,6,7,8,9,10,11]))
  refine al<|bo 3 U<|aD<|aG<|KK h<|al<|rP 3 [] mn ?_
  refine aD ?_
  have C0:(vI ((dq (rs.take (i+1))).right))=(vI (((dq (rs.take i)).right)+1)):=by exact cI (by rw [tL hx]; (rw [if_pos AO]; done))
  have C2:(vI (((i+1):Nat):Int))=(vI ((i:Int)+1)):=by exact cI I
  refine aR (g ⟨(i+1),(by first|omega|(simp only []; omega))⟩ _ _ _ U os (cR 7<|aY U C0<|aY U C2<|dj.nil _) (aI [0,1,2,3,4,5,6,7,8,9,10,11]))
 refine bD<|ab<|ab<|aA<|KK K4<|aj fun _ A5=>aj fun _ A6=>?_
 rw [show rs.take i=rs from List.take_of_length_le I]
 refine al<|rP 6 [] (mc 2 U mn) ?_
 refine RK A6<|cE U (aP fun J7=>?_) (aO fun J7=>?_)
 ·refine WS fun _ A7=>eg 241 3<|rP 1 [] mn ?_
  refine RK A7<|ar<|Bj (C1:=[(own none 0 241 3 [])]) hz [0] U U U<|Ro (W:=iq l r k rs fs) ?_
  rw [show (own none 0 241 3 [])=(own none 0 241 3 (List.zipWith dy.cells (iq l r k rs fs) [])) from by rw [n8 I]; rfl]
  refine LM hQ (none,0,[]) 0 [] mn U (by show List.all _ _=true; rw [List.all_append,pW]; rfl) U ?_ ?_
  ·exact (by rw [n8 I]; rfl)
  ·rw [n8 I]; rfl
 refine WK A5 ?_
 refine oI (ι:={z:(OA)×Nat×(List kJ)×(List aw) // (xB l r rs fs (rA,rC) (fA,fC) z.2.2.1 z.2.2.2)}) [3,4,5,6,7,12] [0,1,2,3,4,5,6,7,8,9,10,11] U U (fun z=>[(11,(vS z.1.1 ((g5 l r rs fs).length) z.1.2.1))]) (fun z=>[(own z.1.1 z.1.2.1 241 3 (List.zipWith dy.cells (g5 l r rs fs) z.1.2.2.1)),(bB z.1.2.2.2)]) (fun _=>rfl) (fun _=>rfl) ?_ fun K23 m=>?_
 ·rintro ⟨⟨oA,oC,E,LA⟩,H⟩
  try dsimp only at H
  try dsimp only
  have D:=H
  have La:=D.len
  have RG:=ye (l:=l) (r:=r) (rs:=rs) (fs:=fs)
  refine aj fun _ V=>WS fun _ A8=>rP 4 [] (mc 2 U mn) ?_
  have R3:=uN (l:=l) (r:=r) (rs:=rs) (fs:=fs) Av (k:=k) I
  refine rP 1 [] mn ?_
  refine RK A8<|cE U (aP fun J8=>?_) (aO fun J8=>?_)
  ·refine WS fun _ A9=>bo 1 U<|rP 1 [] mn ?_
   refine RK A9<|ar ?_
   obtain rfl:k=0:=by omega
   refine FC ?_
   try dsimp only
   refine Bj (C1:=[(own oA oC 241 3 (List.zipWith dy.cells (g5 l r rs fs) E)),(bB LA),(bB (aU dy.owns [] []))]) hz [13,14,0] U U (by simp only [fz,List.all_nil,Bool.and_true,cW]; exact ⟨U,D.wr,pW _ _⟩) ?_
   refine Ko (ra:=(rA,rC)) (fa:=(fA,fC)) (A':=(own oA oC 241 3 (List.zipWith dy.cells (iq l r 0 rs fs) E))) D ((List.append_nil _).trans (nV I).symm) (List.append_nil _) (by rw [nV I]) ?_
   refine LM hQ (oA,oC,E) 0 [] mn U (by show List.all _ _=true; rw [List.all_append,pW]; rfl) U ?_ ?_
   ·exact (by (rw [nV I]; rfl))
   ·rw [nV I]; exact La
  refine WK V<|WS fun _ BX=>?_
  obtain ⟨B,rfl⟩: ∃ B,k=B+1:=⟨k-1,I⟩
  refine rP 3 [] (mc 1 U mn) ?_
  refine RK BX ?_
  refine oI (ι:=Unit) [3,4,5,6,7,11,12] [0,1,2,3,4,5,6,7,8,9,10,11,12,13] U U (fun z=>[(15,(vI (gp r.Start fs)))]) (fun z=>[]) (fun _=>rfl) (fun _=>rfl) ?_ fun K28 o=>?_
  ·intro _
   try dsimp only
   refine WS fun _ Z=>rP 4 [] (mc 0 U mn) ?_
   obtain ⟨yls,Hj⟩:=aH (cS l l.ae.length) (rs.length) I
   have H1:=bJ iC Hj
   refine rS (IA rs.length U (aB 9 U) cN dc I I)<|rS (fX rs.length 0 (vI yls) U cb (aB 9 U) H1 U dc U) ?_
   have RP:=nA L2 Ge (i:=rs.length) I
   rw [uV Hj]
   refine bo 2 U<|RK Z<|aj fun _ B3=>WS fun _ B7=>rP 1 [] mn ?_
   refine RK B7<|ay ?_
   rw [show (g5 l r rs fs)=((g5 l r rs fs)++(iB l r B rs fs 0)) from (List.append_nil _).symm]
   rw [show E=E++[] from (List.append_nil _).symm]
   refine lY ?_
   try dsimp only
   have C:(0≤r.ai.length+1)∧(([]:List kJ).length=(iB l r B rs fs 0).length):=by exact ⟨Nat.zero_le _,rfl⟩
   have d:(vI ((0:Int)-1))=(vI (-1)):=by exact cI I
   refine bK (ι:={z:Nat×(OA)×Nat×(List kJ) // (z.1≤r.ai.length+1)∧(z.2.2.2.length=(iB l r B rs fs z.1).length)}) [3,4,5,6,7,12,15] [1,2,3,4,5,6,7,8,9,10,11,12,14] U U (fun z=>[(11,(vS z.1.2.1 (((g5 l r rs fs)++(iB l r B rs fs z.1.1)).length) z.1.2.2.1)),(16,(vI ((z.1.1:Int)-1)))]) (fun z=>[(bB (aU dy.owns (iB l r B rs fs z.1.1) z.1.2.2.2)),(own z.1.2.1 z.1.2.2.1 241 3 (List.zipWith dy.cells ((g5 l r rs fs)++(iB l r B rs fs z.1.1)) (E++z.1.2.2.2)))]) (fun _=>rfl) (fun _=>rfl) (fun z=>r.ai.length+1-z.1.1) ⟨(0,oA,oC,([]:List kJ)),C⟩ (dj.cons U<|aY U d<|dj.nil _) (aI [1,2,3,4,5,6,7,8,9,10,11,12,14,0,13]) ?_
   clear C
   rintro ⟨⟨j,M,N,azW⟩,⟨f,A⟩⟩ J33 O
   try dsimp only at f A
   try dsimp only
   have L0:=Kr (l:=l) (r:=r) (k:=B) (j:=j) (rs:=rs) (fs:=fs) Av I I
   refine aj fun _ B9=>WS fun _ Ci=>rP 5 [] (mc 1 U mn) ?_
   refine RK Ci<|bO U (aO fun J6=>?_) (aP fun J6=>?_)
   ·refine bD<|ab<|ab<|aA<|KK B3<|WS fun _ Cx=>bo 1 U<|rP 1 [] mn ?_
    refine RK Cx<|ar ?_
    refine Bj (C1:=[(own M N 241 3 (List.zipWith dy.cells ((g5 l r rs fs)++(iB l r B rs fs j)) (E++azW))),(bB LA),(bB (aU dy.owns (iB l r B rs fs j) azW))]) hz [14,12,13] U U (by simp only [fz,List.all_nil,Bool.and_true,cW]; exact ⟨U,D.wr,pW _ _⟩) ?_
    refine Ko (ra:=(rA,rC)) (fa:=(fA,fC)) (W:=iq l r (B+1) rs fs) (A':=(own M N 241 3 (List.zipWith dy.cells (iq l r (B+1) rs fs) (E++azW)))) D (by rw [og I,rN,show r.ai.length+1=j by omega]) U (by rw [og I,rN,show r.ai.length+1=j by omega]) ?_
    refine LM hQ (M,N,(E++azW)) 0 [] mn U (by show List.all _ _=true; rw [List.all_append,pW]; rfl) U ?_ ?_
    ·exact (by (rw [og I,rN,show r.ai.length+1=j by omega]; rfl))
    ·rw [og I,rN,show r.ai.length+1=j by omega]; simp only [List.length_append]; omega
   refine WK B9<|aj fun _ P=>ay<|aj fun _ Ck=>dg cv 5 kr<|dP 5 [] (mc 1 U mn) ?_
   refine cM<|RK Ck ?_
   refine oI (ι:={z:Int×Int // ((z.1≤z.2→o1 l r rs.length (gp r.Start fs+eB l rs.length) ((j:Int)-1)=some z.1)∧(¬ z.1≤z.2→o1 l r rs.length (gp r.Start fs+eB l rs.length) ((j:Int)-1)=none))∧(r.Start≤z.1∧z.2≤r.fZ)}) [3,4,5,6,7,11,12,15,16] [0,1,2,3,4,5,6,7,8,9,10,11,12,13,14] U U (fun z=>[(17,(vI z.1.1)),(18,(vI z.1.2))]) (fun z=>[]) (fun _=>rfl) (fun _=>rfl) ?_ fun K39 p=>?_
   ·rintro ⟨⟨tt,ee⟩,⟨AB,J⟩⟩
    try dsimp only at AB J
    try dsimp only
    have GT:=AB
    have RH:=J
    refine WS fun _ a=>rP 3 [] mn ?_
    refine RK a<|bO U (aO fun AA=>?_) (aP fun AA=>?_)
    ·refine ck<|aG<|KK P<|al<|rP 3 [] mn ?_
     refine aD ?_
     have L:(iB l r B rs fs (j+1))=(iB l r B rs fs j):=by exact qC (GT.2 AA)
     rw [← L]
     have Fn:(vI ((((j+1):Nat):Int)-1))=(vI (((j:Int)-1)+1)):=by exact cI I
     refine aR (O ⟨((j+1),M,N,azW),⟨I,by dsimp only; (rw [L]; exact A)⟩⟩ _ _ _ U os (cR 8<|aY U Fn<|dj.nil _) (aI [0,1,2,3,4,5,6,7,8,9,10,11,12,13,14]))
    refine SU (L':=[(3,(vS rA rs.length rC)),(4,(vS fA fs.length fC)),(5,(vP b2)),(6,(vP b3)),(7,(vP b4)),(11,(vS M (((g5 l r rs fs)++(iB l r B rs fs j)).length) N)),(12,(vI (rs.length:Int))),(15,(vI ((gp r.Start fs)+(eB l rs.length)))),(16,(vI ((j:Int)-1))),(17,(vI tt)),(18,(vI ee)),(123,(vI tt)),(124,(vI ee)),(125,(vB (decide (tt≤ee))))]) rfl<|ow cv [0,1,2,3,5,7,11,13] [4,6,8,9,10,12,14,15,16,17,18] [false,false,false,false,false,false,false,false] [] [(cm b4 238 (iN.cells (iN.mk (bq.mk vwA ((cS l l.ae.length).length) vwC) (bq.mk vtA ((e_ l r r.ai.length).length) vtC) (bq.mk vbA ((fu l r r.ai.length).length) vbC)))),(cm b3 43 (dL.cells (lV r sgA sgC))),(cm b2 31 (bV.cells (lq l kA kC cA cC bA bC))),(bB [own rA rC 3 1 (rs.map iC),own fA fC 3 1 (fs.map iC)]).ro,(rd kA l.aL.length 9 (l.aL.map ak.cells)).ro,(rd cA l.ah.length 2 (List.zipWith aq.cells l.ah az)).ro,(eX (aU aq.gE l.ah az)).ro,(rd bA l.ae.length 4 (l.ae.map bG.cells)).ro,(rd sgA r.ai.length 2 (r.ai.map aJ.cells)).ro,(rd vwA ((cS l l.ae.length).length) 1 ((cS l l.ae.length).map iC)).ro,(rd vtA ((e_ l r r.ai.length).length) 2 ((e_ l r r.ai.length).map aa.cells)).ro,(rd vbA ((fu l r r.ai.length).length) 1 ((fu l r r.ai.length).map qs)).ro,(bB LA),(bB (aU dy.owns (iB l r B rs fs j) azW))] [] kr (aI [0,1,2,3,4,5,6,7,8,9,10,11,12,13]) (aI [])<|eS rfl (MV rfl)<|eS rfl (LW 2 rfl cb rfl rfl)<|eS rfl (LW 1 rfl cb rfl rfl)<|eS rfl (LW 0 rfl cb rfl rfl)<|eS rfl (MV rfl)<|eS rfl (MV rfl)<|eS rfl (MV rfl)<|eS rfl (MV rfl)<|eT rfl<|Oh [.take 4,.op 6,.take 8,.op 9,.take 10,.op 12,.take 14,.op 15,.op 16,.op 17,.op 18] [(133,(vI ((j:Int)-1))),(139,(vI tt))] (fun i=>match i with |4=>130|8=>134|10=>136|14=>140|_=>0) (fun i b=>match i with |4=> .slice (some ⟨b,0,none⟩) 0 0|8=> .slice (some ⟨b,0,none⟩) 1 1|10=> .slice (some ⟨b,0,none⟩) 0 0|14=> .slice (some ⟨b,0,none⟩) 1 1|_=>undef) (fun i b=>match i with |4=>cm b 3 []|8=>cm b 3 [(vI ((j:Int)-1))]|10=>cm b 3 []|14=>cm b 3 [(vI tt)]|_=>cm b 0 []) rfl rfl rfl kr rfl rfl (aI [0,1,2,3,4,5,6,7,8,9,10,11,12,13]) (wP (Ln rfl cN rfl rfl (fun _=>rfl) fun _=>rfl)<|xr<|wP (PZ (xs:=[.tmp 133]) (cs:=[(vI ((j:Int)-1))]) rfl cN jv rfl rfl rfl rfl (by simp [Value.cells]) rfl rfl rfl (fun _=>rfl) fun _=>rfl)<|xr<|wP (Ln rfl cN rfl rfl (fun _=>rfl) fun _=>rfl)<|xr<|wP (PZ (xs:=[.tmp 139]) (cs:=[(vI tt)]) rfl cN jv rfl rfl rfl rfl (by simp [Value.cells]) rfl rfl rfl (fun _=>rfl) fun _=>rfl)<|xr<|xr<|xr<|xr<|Qw) ?_
    intro JR
    try dsimp only
    refine w4 U fun Y X K hT=>db (es:=(List.map iC [])) (C':=[own (some ⟨JR,0,none⟩) 0 3 1 (List.map iC []),_,_,_,_,_,_,_,_,_,_,_,_,_,_,_]++X) 0 U sm U (by simp [maxLen]) U ?_
    refine cO (es2:=(List.map iC rs)) (m':=rs.length) 0 U U U pq U U sm (show g9 _ (rd rA rs.length 1 (rs.map iC)).holds from (qa (c:=rC) (e:=3) 4 U sm sm)) (jP _) (by first|omega|(simp; done)|(simp; omega)) (by (simp only [maxLen]; omega)) sm sm U fun Pi QL=>?_
    try dsimp only
    refine tq hT 24 16 U U (fun w hs=>St.kF [1,2,3,4,5,6,7,8,9,10,11,12,13,14] U U hs) U U ?_
    try dsimp only [List.take]
    intro P5
    try dsimp only
    refine w4 U fun Y X K hT=>?_
    refine cO (es2:=(List.map iC (rs++[(j:Int)-1]))) (m':=(rs++[(j:Int)-1]).length) 1 U U U pq U U sm (bp (es:=List.map iC [((j:Int)-1)]) 0 U U (by simp [bM]) U) (jP _) (by first|omega|(simp; done)|(simp; omega)) (by (simp only [maxLen]; omega)) sm sm U fun Id J2=>?_
    try dsimp only
    refine tq hT 26 17 U U (fun w hs=>St.kF [2,3,4,5,6,7,8,9,10,11,12,13,14,15] U U hs) U U ?_
    try dsimp only [List.take]
    intro Jm
    try dsimp only
    refine w4 U fun Y X K hT=>db (es:=(List.map iC [])) (C':=[own (some ⟨Jm,0,none⟩) 0 3 1 (List.map iC []),_,_,_,_,_,_,_,_,_,_,_,_,_,_,_,_,_]++X) 0 U sm U (by simp [maxLen]) U ?_
    refine cO (es2:=(List.map iC fs)) (m':=fs.length) 0 U U U pq U U sm (show g9 _ (rd fA fs.length 1 (fs.map iC)).holds from (qa (c:=fC) (e:=3) 6 U sm sm)) (jP _) (by first|omega|(simp; done)|(simp; omega)) (by (simp only [maxLen]; omega)) sm sm U fun Pl QQ=>?_
    try dsimp only
    refine tq hT 28 18 U U (fun w hs=>St.kF [3,4,5,6,7,8,9,10,11,12,13,14,15,16] U U hs) U U ?_
    try dsimp only [List.take]
    intro P6
    try dsimp only
    refine w4 U fun Y X K hT=>?_
    refine cO (es2:=(List.map iC (fs++[tt]))) (m':=(fs++[tt]).length) 1 U U U pq U U sm (bp (es:=List.map iC [tt]) 0 U U (by simp [bM]) U) (jP _) (by first|omega|(simp; done)|(simp; omega)) (by (simp only [maxLen]; omega)) sm sm U fun If J3=>?_
    try dsimp only
    refine tq hT 30 19 U U (fun w hs=>St.kF [4,5,6,7,8,9,10,11,12,13,14,15,16,17] U U hs) U U ?_
    try dsimp only [List.take]
    refine w4 U fun Y X K hT=>?_
    have R:=GT.1 AA
    refine yf<|r9 4 U ?_
    try dsimp only [List.eraseIdx]
    refine Bw U<|r9 2 U ?_
    try dsimp only [List.eraseIdx]
    refine Bw U ?_
    try dsimp only
    refine je 0 rfl rfl rfl rfl (hrec B (rs++[(j:Int)-1]) Id J2 (fs++[tt]) If J3 I (by simp only [List.length_append,List.length_singleton]; omega) (by simp only [List.length_append,List.length_singleton]; omega) (by rw [nB]; omega) (by intro x hx; rcases dQ.1 hx with hx|hx; exact hrs x hx; rw [bP.1 hx]; omega)) rfl (eA 7 rfl rfl (dV (bU _)) (eA 8 rfl rfl (dV (bU _)) (eA 9 rfl rfl (dV (bU _)) (eA 10 rfl rfl (dV (bU _)) (eA 11 rfl rfl (dV (bU _)) (eA 12 rfl rfl (dV (bU _)) (eA 13 rfl rfl (dV (bU _)) (eA 14 rfl rfl (dV (bU _)) kG)))))))) rfl (fun NE A0=>?_)
    obtain ⟨O8,PP,v⟩:=NE
    try dsimp only
    dsimp only at A0
    refine tq hT 31 18 U U (fun w hs=>St.kF [3,4,5,6,7,8,9,10,11,12,13,14,15,16] U U hs) U U ?_
    try dsimp only [List.take]
    refine w4 U fun Y X K hT=>r9 0 U ?_
    try dsimp only [List.eraseIdx]
    refine zS ?_
    have R4:=uN (l:=l) (r:=r) (k:=B) (rs:=(rs++[(j:Int)-1])) (fs:=(fs++[tt])) Av I
    refine cO (es2:=(List.zipWith dy.cells ((g5 l r rs fs)++(iB l r B rs fs (j+1))) (E++(azW++v)))) (m':=((g5 l r rs fs)++(iB l r B rs fs (j+1))).length) 18 U U U P0 U U (ue (by simp only [List.length_append]; omega)).symm (ag (n:=(iq l r B (rs++[(j:Int)-1]) (fs++[tt])).length) 0 U (ue A0)) (Df _ _) (by simp only [List.length_append]; omega) (by simp only [List.length_append,maxLen]; omega) (by rw [nJ R,← List.append_assoc,← List.append_assoc]; exact (Jw (by simp only [List.length_append]; omega)).symm) (ue (by rw [nJ R]; simp only [List.length_append]; omega)) U fun In J4=>?_
    try dsimp only
    refine tq hT 32 19 U U (fun w hs=>St.kF [4,5,6,7,8,9,10,11,12,13,14,15,16,17] U U hs) U U ?_
    try dsimp only [List.take]
    refine w4 U fun Y X K hT=>rS (AG U)<|tq hT 33 19 U U (fun w hs=>St.kF [4,5,6,7,8,9,10,11,12,13,14,15,16,17] U U hs) U U ?_
    try dsimp only [List.take]
    refine aG<|KK P<|al<|rP 3 [] mn ?_
    refine aD<|F_ 1 U ?_
    try dsimp only [List.eraseIdx]
    refine F_ 17 U ?_
    try dsimp only [List.eraseIdx]
    refine J_ A ?_
    rw [← nJ R]
    try dsimp only
    have Fd:(vI ((((j+1):Nat):Int)-1))=(vI (((j:Int)-1)+1)):=by exact cI I
    refine aR (O ⟨((j+1),In,J4,(azW++v)),⟨I,by dsimp only; (rw [nJ R,List.length_append,List.length_append,A,A0])⟩⟩ _ _ _ U os (cR 8<|aY U Fd<|dj.nil _) (aI [4,5,6,7,8,9,10,11,12,13,14,15,16,0,17]))
   refine WS fun _ a=>rP 2 [] mn ?_
   refine RK a<|bO U (aO fun KY=>?_) (aP fun KY=>?_)
   ·refine ck ?_
    refine aR (jT (aT U) (aI [0,1,2,3,4,5,6,7,8,9,10,11,12,13,14]) (p ⟨(((gp r.Start fs)+(eB l rs.length)),r.fZ),⟨by exact MF I,I⟩⟩))
   refine aj fun _ Cp=>WS fun _ u=>rP 3 [] (mc 1 U mn) ?_
   obtain ⟨s,hs⟩:=aH r.ai ((((j:Int)-1)).toNat) I
   have Li:=bJ aJ.cells hs
   refine rS (IA ((((j:Int)-1)).toNat) U (aB 8 U) wv dc I I)<|rS (mV (((((j:Int)-1)).toNat)*2) U (aB 8 U) (Nat.mul_pos I dc) fw U)<|rS (fX ((((j:Int)-1)).toNat) 0 (vI s.gk) U cb (aB 8 U) Li U dc U) ?_
   have Rh:=(hr.sig _ s hs).1
   refine rP 3 [] mn ?_
   refine cH (t:=99) U (aZ fun A1=>?_) (a_ fun A1=>?_)
   ·refine bo 7 U<|RK u<|aN U<|bD<|ab<|ab<|aA<|KK P<|al<|rP 3 [] mn ?_
    refine aD ?_
    have L:(iB l r B rs fs (j+1))=(iB l r B rs fs j):=by exact qC (xz I hs (fun q=>A1 I))
    rw [← L]
    have Eq:(vI ((((j+1):Nat):Int)-1))=(vI (((j:Int)-1)+1)):=by exact cI I
    refine aR (O ⟨((j+1),M,N,azW),⟨I,by dsimp only; (rw [L]; exact A)⟩⟩ _ _ _ U os (cR 8<|aY U Eq<|dj.nil _) (aI [0,1,2,3,4,5,6,7,8,9,10,11,12,13,14]))
   refine rP 3 [] (mc 0 U mn) ?_
   obtain ⟨bs,An⟩:=aH (fu l r r.ai.length) ((((j:Int)-1)).toNat) I
   have GE:=bJ qs An
   refine rS (IA ((((j:Int)-1)).toNat) U (aB 11 U) Pd dc I I)<|rS (fX ((((j:Int)-1)).toNat) 0 (vB bs) U cb (aB 11 U) GE U dc U)<|rP 2 [] mn ?_
   refine RK u<|cE U (fun F=>?_) (fun F=>?_)
   ·rw [Bool.not_eq_true'] at F
    refine bD<|ab<|ab<|aA<|KK P<|al<|rP 3 [] mn ?_
    refine aD ?_
    have L:(iB l r B rs fs (j+1))=(iB l r B rs fs j):=by exact qC (xz I hs (fun q=>by rw [(Cy hs An).2 q.2] at F; cases F))
    rw [← L]
    have FS:(vI ((((j+1):Nat):Int)-1))=(vI (((j:Int)-1)+1)):=by exact cI I
    refine aR (O ⟨((j+1),M,N,azW),⟨I,by dsimp only; (rw [L]; exact A)⟩⟩ _ _ _ U os (cR 8<|aY U FS<|dj.nil _) (aI [0,1,2,3,4,5,6,7,8,9,10,11,12,13,14]))
   rw [Bool.not_eq_false'] at F
   refine WK Cp<|dg cv 18 kr<|dP 4 [] (mc 0 U mn) ?_
   obtain ⟨z,hz⟩:=aH (e_ l r r.ai.length) ((((j:Int)-1)).toNat) I
   have IO:=bJ aa.cells hz
   refine dS (IA ((((j:Int)-1)).toNat) U (aB 10 U) jY dc I I)<|dS (mV (((((j:Int)-1)).toNat)*2) U (aB 10 U) (Nat.mul_pos I dc) fw U) ?_
   have IR:=Lt hs hz
   have Ms:=yh l s
   rw [← IR] at Ms
   have LE:(cP l s).Lo≤(cP l s).Hi:=(Cy hs An).1 F
   refine dS (fX ((((j:Int)-1)).toNat) 0 (vI z.Lo) U cb (aB 10 U) IO U dc U)<|dS (MX U)<|mw 4 [] (mc 0 U mn) U<|dS (IA ((((j:Int)-1)).toNat) U (aB 10 U) jY dc I I)<|dS (mV ((((((j:Int)-1)).toNat)*2)+1) U (aB 10 U) (Nat.mul_pos I dc) fw U)<|dS (fX ((((j:Int)-1)).toNat) 1 (vI z.Hi) U cb (aB 10 U) IO U dc U)<|dS (MN U)<|dP 2 [] mn ?_
   refine cM<|aD ?_
   refine aR (jT (aT U) (aI [0,1,2,3,4,5,6,7,8,9,10,11,12,13,14]) (p ⟨((max ((gp r.Start fs)+(eB l rs.length)) z.Lo),(min r.fZ z.Hi)),⟨by (rw [IR]; exact Jk I hs I LE),I⟩⟩))
  refine WS fun _ Z=>rP 2 [] mn ?_
  refine RK Z<|bO U (aO fun J9=>?_) (aP fun J9=>?_)
  ·refine ck ?_
   have Do:(vI (gp r.Start fs))=(vI r.Start):=by exact cI (by have e:fs=[]:=jS I; rw [e]; rfl)
   refine aR (jT (cR 7<|aY U Do<|dj.nil _) (aI [0,1,2,3,4,5,6,7,8,9,10,11,12,13]) (o ()))
  refine al<|rP 3 [] mn ?_
  obtain ⟨xf,Go⟩:=aH fs (rs.length-1) I
  have G1:=bJ iC Go
  refine rS (IA (rs.length-1) U (show g9 _ (rd fA fs.length 1 (fs.map iC)).holds from (qa (c:=fC) (e:=3) 3 U sm sm)) cN dc I I)<|rS (fX (rs.length-1) 0 (vI xf) U cb (show g9 _ (rd fA fs.length 1 (fs.map iC)).holds from (qa (c:=fC) (e:=3) 3 U sm sm)) G1 U dc U)<|rP 1 [] mn ?_
  refine aD ?_
  have Di:(vI (gp r.Start fs))=(vI xf):=by exact cI (B8 _ _ _ (by rw [hfl]; exact Go))
  refine aR (jT (cR 7<|aY U Di<|dj.nil _) (aI [0,1,2,3,4,5,6,7,8,9,10,11,12,13]) (o ()))
 refine WS fun _ V=>rP 8 [0,1] (mc 1 U (mc 2 U mn)) ?_
 refine RK V<|bO U (aO fun G=>?_) (aP fun G=>?_)
 ·refine ck<|FC<|Iy 241 3 ?_
  rw [show (own none 0 241 3 [])=(own none 0 241 3 (List.zipWith dy.cells (g5 l r rs fs) [])) from by rw [yo G]; rfl]
  have EQ:(vS none ((g5 l r rs fs).length) 0)=(vS none 0 0):=by first|rfl|(rw [yo G]; rfl)
  refine aR (jT (cR 6<|aY U EQ<|dj.nil _) (aI [2,3,4,5,6,7,8,9,10,11,12,13,0,1]) (m ⟨(none,0,[],[]),(by exact .inr ⟨G,U,U⟩)⟩))
 refine al<|rP 6 [0,1] (mc 1 U (mc 0 U mn)) ?_
 refine cX (Mh r sgA sgC l vwA vwC vtA vtC vbA vbC rs rA rC hle hr I (by exact fun x hx h0=>(hrs x hx).2)) (l5 [8,9,10,11]<|av (show g9 _ (rd rA rs.length 1 (rs.map iC)).holds from (qa (c:=rC) (e:=3) 3 U sm sm))<|aM) U fun M2 Os=>?_
 obtain ⟨S,T⟩:=M2
 try dsimp only
 refine rS (SX (bu (xs:=[(0,.tmp 48),(1,.tmp 49),(2,.tmp 53)]) (cs:=(yQ.cells (yQ.mk (bq.mk rA rs.length rC) (bq.mk fA fs.length fC) (bq.mk S ((jB l r rs).length) T)))) U U (br Tt U)) U U)<|du (xs:=[.tmp 54]) (cs:=(yQ.cells (yQ.mk (bq.mk rA rs.length rC) (bq.mk fA fs.length fC) (bq.mk S ((jB l r rs).length) T)))) U FN Sf U U U U (by simp [Value.cells,yQ.aW]) U U fun Pn=>eg 241 3 ?_
 refine cO (es2:=(List.zipWith dy.cells (g5 l r rs fs) ([((rA,rC),(fA,fC),(S,T))]))) (m':=(g5 l r rs fs).length) 0 rfl rfl rfl P0 rfl rfl rfl (bp (es:=List.zipWith dy.cells [(dy.mk rs fs (jB l r rs))] [((rA,rC),(fA,fC),(S,T))]) 1 rfl rfl (by intro e he; simp at he; subst he; rfl) rfl) (Df _ _) dc dc (by rw [zW G]; rfl) (by rw [zW G]; rfl) rfl fun y AC=>?_
 try dsimp only
 refine yf<|PI 0 3 U U U ?_
 try dsimp only
 refine rP 1 [] mn ?_
 refine aD ?_
 have d:(vS y ((g5 l r rs fs).length) AC)=(vS y ((g5 l r rs fs).length) AC):=by first|rfl|(rw [yo G]; rfl)
 refine aR (jT (cR 6<|aY U d<|dj.nil _) (aI [3,4,5,6,7,8,9,10,11,12,13,14,1,0]) (m ⟨(y,AC,[((rA,rC),(fA,fC),(S,T))],[(own S T 3 1 ((jB l r rs).map iC))]),(by exact .inl ⟨G,_,U,U⟩)⟩))
theorem Qn (l:bf) (kA:OA) (kC:Nat) (az:List RA) (cA:OA) (cC:Nat) (bA:OA) (bC:Nat) (r:cL) (sgA:OA) (sgC:Nat) (vwA:OA) (vwC:Nat) (vtA:OA) (vtC:Nat) (vbA:OA) (vbC k:Nat) (rs:List Int) (rA:OA) (rC:Nat) (fs:List Int) (fA:OA) (fC:Nat) (hin:ep l az) (hle:dH l=0) (hr:fx l r) (hk:rs.length+k=l.ae.length) (hfl:fs.length=rs.length) (hst:r.Start≤gp r.Start fs∧gp r.Start fs≤r.fZ) (hrs: ∀ x∈rs,-1≤x∧x<(r.ai.length:Int)):
 DS Tryz.prog 173 [(vA (bV.cells (lq l kA kC cA cC bA bC))),(vA (dL.cells (lV r sgA sgC))),(vA (iN.cells (iN.mk (bq.mk vwA ((cS l l.ae.length).length) vwC) (bq.mk vtA ((e_ l r r.ai.length).length) vtC) (bq.mk vbA ((fu l r r.ai.length).length) vbC)))),(vS rA rs.length rC),(vS fA fs.length fC)] [(rd kA l.aL.length 9 (l.aL.map ak.cells)),(rd cA l.ah.length 2 (List.zipWith aq.cells l.ah az)),(eX (aU aq.gE l.ah az)),(rd bA l.ae.length 4 (l.ae.map bG.cells)),(rd sgA r.ai.length 2 (r.ai.map aJ.cells)),(rd vwA ((cS l l.ae.length).length) 1 ((cS l l.ae.length).map iC)),(rd vtA ((e_ l r r.ai.length).length) 2 ((e_ l r r.ai.length).map aa.cells)),(rd vbA ((fu l r r.ai.length).length) 1 ((fu l r r.ai.length).map qs))] (bB [own rA rC 3 1 (rs.map iC),own fA fC 3 1 (fs.map iC)]) (fun (x:(OA)×Nat×(List kJ))=>(vS x.1 ((iq l r k rs fs).length) x.2.1)) (fun (x:(OA)×Nat×(List kJ))=>x.2.2.length=(iq l r k rs fs).length) (fun (x:(OA)×Nat×(List kJ))=>(bB (aU dy.owns (iq l r k rs fs) x.2.2++[own x.1 x.2.1 241 3 (List.zipWith dy.cells (iq l r k rs fs) x.2.2)]))):=by
 induction k using Nat.strongRecOn generalizing rs rA rC fs fA fC with
 |ind k ih=>exact Il l kA kC az cA cC bA bC r sgA sgC vwA vwC vtA vtC vbA vbC k rs rA rC fs fA fC hin hle hr hk hfl hst hrs (fun L F D E C A B G H AA J K=>ih L G F D E C A B H AA J K)
end
section
open Go.RowKit
theorem NX (l:bf) (kA:OA) (kC:Nat) (az:List RA) (cA:OA) (cC:Nat) (bA:OA) (bC:Nat) (r:cL) (sgA:OA) (sgC:Nat) (hin:ep l az) (hsl:r.ai.length≤1000000):
 lx Tryz.prog 167 [(vA (bV.cells (lq l kA kC cA cC bA bC))),(vA (dL.cells (lV r sgA sgC)))] [(rd kA l.aL.length 9 (l.aL.map ak.cells)),(rd cA l.ah.length 2 (List.zipWith aq.cells l.ah az)),(eX (aU aq.gE l.ah az)),(rd bA l.ae.length 4 (l.ae.map bG.cells)),(rd sgA r.ai.length 2 (r.ai.map aJ.cells))] (fun (x:Bool×Int×(OA)×Nat×(List kJ))=>bif x.1 then (vT [(vS x.2.2.1 ((qz l r).length) x.2.2.2.1),(vI 0)]) else (vT [(vS none 0 0),(vI x.2.1)])) (fun (x:Bool×Int×(OA)×Nat×(List kJ))=>(x.1=true→(eO l r 0=0∧x.2.2.2.2.length=(qz l r).length))∧(x.1=false→(x.2.1=eO l r 0∧ ¬ eO l r 0=0))) (fun (x:Bool×Int×(OA)×Nat×(List kJ))=>bif x.1 then [(own x.2.2.1 x.2.2.2.1 241 3 (List.zipWith dy.cells (qz l r) x.2.2.2.2)),(bB (aU dy.owns (qz l r) x.2.2.2.2))] else []):=by
 have k:=hin.sx
 have j:=hin.sG
 have h:=hin.mW
 have i:=hin.sk
 refine dp kr Tryz.func167 U U fun o Q hQ hN=>?_
 try dsimp only
 refine WS fun _ X=>fK U fun m=>fK U fun n=>bo 2 U<|RK X<|aj fun _ Y=>WS fun _ Z=>fG 1 [] (mc 1 U mn) U<|rS (CL (DI l kA kC az cA cC bA bC hin) (bk [2,3,4,5]) U)<|bo 1 U<|RK Z<|WS fun _ a=>rP 2 [] mn ?_
 refine RK a<|cE U (aZ fun A=>?_) (a_ fun A=>?_)
 ·refine WS fun _ b=>rP 3 [] mn ?_
  refine RK b<|ar<|LX hQ (false,(dH l),none,0,[]) [] [] mn U (by rfl) U U ?_
  exact sE<|I_ (oy (r:=r) (me:=0) A) A
 refine WK Y<|aj fun _ c=>WS fun _ d=>fG 2 [0,1] (mc 1 U (mc 0 U mn)) U<|rS (CL (No l kA kC az cA cC bA bC r sgA sgC hin (by exact hsl)) (bk [2,3,4,5,6]) U)<|rP 1 [] mn ?_
 refine RK d<|cE U (aZ fun B=>?_) (a_ fun B=>?_)
 ·refine WS fun _ D=>rP 2 [] mn ?_
  refine RK D<|ar<|LX hQ (false,51,none,0,[]) [] [] mn U (by rfl) U U ?_
  exact sE<|qy (ju (me:=0) A B)
 refine WK c<|aj fun _ E=>dJ cv [4,5,6] [] [] [0,1,2,3,4,5,6] [] U U U U U<|eS U (LW 1 U cb U U)<|eS U (LW 0 U cb U U)<|eS U (LW 1 U cb U U)<|eS U (LW 0 U cb U U)<|eT U<|cp U fun T12 J=>cX (NV l kA kC az cA cC bA bC r sgA sgC hin (by exact A) (by exact B)) (bk [2,3,4,5,6]) U fun e g=>?_
 obtain ⟨V,W,T,AA,R,S⟩:=e
 try dsimp only
 refine aD (J _ _ (aI [3,4,5,6,7,8,9]) ?_)
 refine cp U fun T21 K=>eg 3 1<|eg 3 1<|yf<|r9 1 U ?_
 try dsimp only [List.eraseIdx]
 refine Bw U<|r9 1 U ?_
 try dsimp only [List.eraseIdx]
 refine Bw U ?_
 try dsimp only
 refine je 0 rfl rfl rfl rfl (Qn l kA kC az cA cC bA bC r sgA sgC V W T AA R S l.ae.length ([]:List Int) none 0 ([]:List Int) none 0 hin (by exact A) (by exact B) sm (by rfl) (by exact ⟨Int.le_refl _,B.time.2.1⟩) (by intro x hx; cases hx)) rfl (eA 6 rfl rfl (dV (bU _)) (eA 7 rfl rfl (dV (bU _)) (eA 8 rfl rfl (dV (bU _)) (eA 9 rfl rfl (dV (bU _)) (eA 10 rfl rfl (dV (bU _)) (eA 1 rfl rfl (kq sm) (eA 2 rfl rfl (kq sm) (eA 3 rfl rfl (kq sm) kG)))))))) rfl (fun f M=>?_)
 obtain ⟨N,O,P⟩:=f
 try dsimp only
 refine aD (K _ _ (aI [4,5,6,7,8,9,10]) ?_)
 refine cp U fun T26 L=>r9 0 U ?_
 try dsimp only [List.eraseIdx]
 refine zS ?_
 dsimp only at M
 refine rS (AG U)<|aD (L _ _ (aI [5,6,7,8,9,10,11]) ?_)
 refine fO U<|KK E<|aj fun _ F=>WS fun _ G=>rP 3 [] mn ?_
 refine RK G<|bO U (aO fun C=>?_) (aP fun C=>?_)
 ·refine WK F<|WS fun _ AB=>rP 3 [] mn ?_
  refine RK AB<|ar ?_
  refine LX hQ (true,0,N,O,P) [0,1] [] mn U (by (show List.all _ _=true; simp only [cond_true,fz,List.all_nil,I7,Bool.and_true]; rfl)) U U ?_
  exact ⟨fun _=>⟨l3 A B U fun q=>C (by rw [show iq l r l.ae.length [] []=[] from (fB A B).2 q]; rfl),M⟩,Nc⟩
 refine WS fun _ H=>rP 2 [] mn ?_
 refine RK H<|ar<|LX hQ (false,8,none,0,[]) [] [] mn U (by rfl) U U ?_
 exact sE<|qy (p7 (me:=0) A B U ((fB A B).1 (jS (Int.natCast_eq_zero.1 C))))
theorem HG (ws:List dy) (wz:List kJ) (wA:OA) (wC b:Nat) (hws:Ob ws) (hwz:wz.length=ws.length) (hb:b≤6):
 er Tryz.prog 168 [(vS wA ws.length wC),(vI (b:Int))] [(rd wA ws.length 3 (List.zipWith dy.cells ws wz)),(eX (aU dy.gE ws wz))] (vT [(vA (aa.cells (pQ ws b))),(vI (qg ws b))]):=by
 have u:=hws.num
 refine bI kr Tryz.func168 U U fun x Q hQ hN=>?_
 try dsimp only
 refine WS fun _ g=>AL U dx fun w=>bo 1 U<|RK g<|WS fun _ h=>AL U dx fun t=>RK h<|WS fun _ j=>bo 1 U<|RK j<|aj fun _ k=>WS fun _ l=>rP 1 [] mn ?_
 refine RK l<|ay ?_
 have D:(0≤ws.length)∧(oi b (ws.take 0) false (aa.mk 0 0)):=by exact ⟨Nat.zero_le _,Ij⟩
 refine bK (ι:={z:Nat×Bool×aa // (z.1≤ws.length)∧(oi b (ws.take z.1) z.2.1 z.2.2)}) [0,1,4,5,6] [1,2,3] U U (fun z=>[(7,(vB z.1.2.1)),(8,(vI (z.1.1:Int)))]) (fun z=>[(cm t 40 (aa.cells z.1.2.2))]) (fun _=>rfl) (fun _=>rfl) (fun z=>ws.length-z.1.1) ⟨(0,false,(aa.mk 0 0)),D⟩ (aT U) (aI [1,2,3,0]) ?_
 clear D
 rintro ⟨⟨i,fd,o⟩,⟨J,A⟩⟩ J8 H
 try dsimp only at J A
 try dsimp only
 refine aj fun _ m=>WS fun _ L=>rP 4 [] mn ?_
 refine RK L<|bO U (aO fun c=>?_) (aP fun c=>?_)
 ·refine bD<|ab<|ab<|aA<|KK k<|aj fun _ R=>WS fun _ S=>rP 2 [] mn ?_
  refine RK S<|bO U (fun B=>?_) (fun B=>?_)
  ·rw [Bool.not_eq_false'] at B
   refine WK R<|WS fun _ AA=>fG 1 [] (mc 3 U mn) U<|fW U cz U<|rP 1 [] mn ?_
   refine RK AA<|ar<|lP hQ [0] (mc 0 U mn) U ?_
   have AB:=zg (by have q:=A; rwa [List.take_of_length_le I] at q) hws.Ge
   (have q:=AB.2 B; rw [q.1,q.2]; done)
  rw [Bool.not_eq_true'] at B
  refine WS fun _ T=>rS (SX (bu (xs:=[]) (cs:=(aa.cells (aa.mk 0 0))) U U (br gG U)) U U)<|fW U cz U<|rP 1 [] mn ?_
  refine RK T<|ar<|lP hQ [0] (mc 0 U mn) U ?_
  have AB:=zg (by have q:=A; rwa [List.take_of_length_le I] at q) hws.Ge
  (have q:=AB.1 B; rw [q.1,q.2]; done)
 refine WK m<|aj fun _ C=>ay<|aj fun _ M=>WS fun _ N=>rP 2 [] mn ?_
 obtain ⟨y,hy⟩:=aH ws i I
 obtain ⟨ya,E⟩:=aH wz i I
 have K:(List.zipWith dy.cells ws wz)[i]? =some (dy.cells y ya):=cT hy E
 refine rS (IA i U (aB 1 U) FN dc I I)<|rS (mV (i*3) U (aB 1 U) (Nat.mul_pos I dc) fw U)<|rS (fX i 0 (vS ya.1.1 y.gH.length ya.1.2) U cb (aB 1 U) K U dc U)<|rP 3 [] mn ?_
 refine RK N<|cE U (aP fun d=>?_) (aO fun d=>?_)
 ·refine bD<|ab<|aA<|KK C<|al<|rP 3 [] mn ?_
  refine aD ?_
  have X:(vI (((i+1):Nat):Int))=(vI ((i:Int)+1)):=by exact cI I
  refine aR (H ⟨((i+1),fd,o),⟨I,by dsimp only; rw [mg hy]; exact E4 A I⟩⟩ _ _ _ U os (cR 6<|aY U X<|dj.nil _) (aI [0,1,2,3]))
 refine WK M<|aj fun _ O=>dJ cv [17,18] [] [] [0,1,2,3] [] U U U U U ?_
 have v:=hws.lens y (aS hy)
 obtain ⟨s,hs⟩: ∃ s,y.gH[b]? =some s:=⟨y.gH[b]'I,e7 _⟩
 refine eS U (MV U)<|eS U (MV U)<|eS U (IA i U (aB 1 U) FN dc I I)<|eS U (mV ((i*3)+1) U (aB 1 U) (Nat.mul_pos I dc) fw U)<|eS U (fX i 1 (vS ya.2.1.1 y.iX.length ya.2.1.2) U cb (aB 1 U) K U dc U)<|eS U (MV U) ?_
 obtain ⟨f,hf⟩:=aH y.iX b I
 have p:=bJ iC hf
 refine eS U (IA b U (show g9 _ (rd ya.2.1.1 y.iX.length 1 (y.iX.map iC)).holds from (cw 2 U (bH hy E (by simp [dy.gE])))) cN dc I I)<|eS U (fX b 0 (vI f) U cb (show g9 _ (rd ya.2.1.1 y.iX.length 1 (y.iX.map iC)).holds from (cw 2 U (bH hy E (by simp [dy.gE])))) p U dc U)<|eS U (MV U)<|eS U (MV U)<|eS U (IA i U (aB 1 U) FN dc I I)<|eS U (mV ((i*3)+2) U (aB 1 U) (Nat.mul_pos I dc) fw U)<|eS U (fX i 2 (vS ya.2.2.1 y.mj.length ya.2.2.2) U cb (aB 1 U) K U dc U)<|eS U (MV U) ?_
 obtain ⟨e,he⟩:=aH y.mj b I
 have n:=bJ iC he
 refine eS U (IA b U (show g9 _ (rd ya.2.2.1 y.mj.length 1 (y.mj.map iC)).holds from (cw 2 U (bH hy E (by simp [dy.gE])))) cN dc I I)<|eS U (fX b 0 (vI e) U cb (show g9 _ (rd ya.2.2.1 y.mj.length 1 (y.mj.map iC)).holds from (cw 2 U (bH hy E (by simp [dy.gE])))) n U dc U)<|eS U (SX (bu (xs:=[(0,.tmp 31),(1,.tmp 39)]) (cs:=(aa.cells (aa.mk f e))) U U (br gG U)) U U)<|eT U<|cp U fun T17 V=>AL U dx fun r=>aD (V _ _ (aI [1,2,3,4]) ?_)
 refine cp U fun T19 W=>fW U cz U<|aD (W _ _ (aI [1,2,3,4]) ?_)
 refine fO U<|KK O<|aj fun _ F=>WS fun _ P=>?_
 have a:=hws.le y (aS hy) b f e I hf he
 refine rP 1 [] mn ?_
 refine RK P<|bO U (fun G=>?_) (fun G=>?_)
 ·refine WK F<|al<|fG 1 [] (mc 0 U mn) U<|Pw U cz U<|bo 1 U<|aD<|aG<|KK C<|al<|rP 3 [] mn ?_
  refine aD ?_
  have Z:(vI (((i+1):Nat):Int))=(vI ((i:Int)+1)):=by exact cI I
  refine aR (H ⟨((i+1),true,(aa.mk f e)),⟨I,by dsimp only; rw [mg hy]; exact Dv A G hs hf he a⟩⟩ _ _ _ U os (cR 6<|aY U Z<|dj.nil _) (aI [1,2,3,4]))
 refine al<|fG 4 [0,1] (mc 0 U (mc 4 U mn)) U<|rS (MN U)<|fG 4 [0,1] (mc 0 U (mc 4 U mn)) U<|rS (MX U)<|rS (SX (bu (xs:=[(0,.tmp 46),(1,.tmp 51)]) (cs:=(aa.cells (aa.mk (min f o.Lo) (max e o.Hi)))) U U (br gG U)) U U)<|fW U cz U<|RK F<|al<|fG 1 [] (mc 0 U mn) U<|Pw U cz U<|bo 1 U<|aD<|aG<|KK C<|al<|rP 3 [] mn ?_
 refine aD ?_
 have Y:(vI (((i+1):Nat):Int))=(vI ((i:Int)+1)):=by exact cI I
 refine aR (H ⟨((i+1),true,(aa.mk (min f o.Lo) (max e o.Hi))),⟨I,by dsimp only; rw [mg hy]; exact Ef A G hs hf he a⟩⟩ _ _ _ U os (cR 6<|aY U Y<|dj.nil _) (aI [1,2,3,4]))
end
section
open Go.RowKit
theorem Qd (l:bf) (kA:OA) (kC:Nat) (az:List RA) (cA:OA) (cC:Nat) (bA:OA) (bC:Nat) (r:cL) (sgA:OA) (sgC:Nat) (hin:ep l az) (hsl:r.ai.length≤1000000):
 er Tryz.prog 158 [(vA (bV.cells (bV.mk (bw.mk (bq.mk kA l.aL.length kC)) l.f_ (bq.mk cA l.ah.length cC) (bq.mk bA l.ae.length bC) l.cq l.dM l.cD))),(vA (dL.cells (lV r sgA sgC)))] [(rd kA l.aL.length 9 (l.aL.map ak.cells)),(rd cA l.ah.length 2 (List.zipWith aq.cells l.ah az)),(eX (aU aq.gE l.ah az)),(rd bA l.ae.length 4 (l.ae.map bG.cells)),(rd sgA r.ai.length 2 (r.ai.map aJ.cells))] (vT [(vA (aa.cells (AA l r))),(vI (e8 l r l.cq))]):=by
 have q:=hin.sx
 have j:=hin.sG
 have h:=hin.mW
 have i:=hin.sk
 refine bI kr Tryz.func158 U U fun y Q hQ hN=>?_
 try dsimp only
 refine WS fun _ Z=>fK U fun v=>fK U fun w=>AL U dx fun x=>bo 1 U<|RK Z<|WS fun _ P=>rP 2 [0,1] (mc 2 U (mc 1 U mn)) ?_
 refine cX (NX l kA kC az cA cC bA bC r sgA sgC hin hsl) (bk [3,4,5,6,7]) U fun u V=>?_
 obtain ⟨W,g,e,Y,X⟩:=u
 cases W
 ·obtain ⟨R,he⟩:=V.2 rfl
  try dsimp only at R he
  subst R
  try dsimp only [cond_true,cond_false,List.cons_append,List.nil_append]
  refine bo 5 U<|RK P<|aj fun _ d=>WS fun _ G=>rP 2 [] mn ?_
  refine RK G<|bO U (a_ fun F=>?_) (aZ fun F=>?_)
  ·exact absurd F he
  refine WS fun _ H=>rS (SX (bu (xs:=[]) (cs:=(aa.cells (aa.mk 0 0))) U U (br gG U)) U U)<|bo 1 U<|fW U cz U<|rP 1 [] mn ?_
  refine RK H<|ar<|lP hQ [0] (mc 0 U mn) U ?_
  (rw [E0 (fun z=>he ((wa he).symm.trans z)),wa he]<;>rfl)
 obtain ⟨he,C⟩:=V.1 rfl
 try dsimp only [cond_true,cond_false,List.cons_append,List.nil_append]
 try dsimp only at he C
 obtain ⟨T,E,_,k⟩:=kg he
 obtain ⟨s,c⟩:=gT T
 have a:=c.head
 unfold gJ at a
 have AB:=Q8 T E
 have t:=AB.num
 have o:=E.len
 have p:=E.time
 refine bo 5 U<|RK P<|aj fun _ AC=>WS fun _ J=>rP 1 [] mn ?_
 refine rS (SX (cf (r:= .bool false) U U U m_) U U)<|RK J<|bh U<|WK AC<|aj fun _ K=>?_
 obtain ⟨b,S⟩: ∃ b:Nat,l.cq=(b:Int):=⟨l.cq.toNat,I⟩
 have A:=Mz he (b:=b) I
 rw [← S] at A
 rw [S]
 refine al<|fG 3 [] (mc 4 U mn) U<|rS (CL (HG (qz l r) X e Y b (by exact AB) (by exact C) I) (av (ag (n:=(qz l r).length) 0 U (ue C))<|av (dG 1 U Nv)<|aM) U)<|bo 3 U<|AL U dx fun f=>fW U cz U<|bo 1 U<|RK K<|aj fun _ L=>WS fun _ M=>rP 2 [] mn ?_
 refine RK M<|cE U (aZ fun B=>?_) (a_ fun B=>?_)
 ·refine WS fun _ N=>rS (SX (bu (xs:=[]) (cs:=(aa.cells (aa.mk 0 0))) U U (br gG U)) U U)<|bo 1 U<|UP U cz U<|rP 1 [] mn ?_
  refine RK N<|ar<|lP hQ [0] (mc 3 U mn) U ?_
  (rw [E0 (fun z=>B (A.1.trans z)),← A.1]<;>rfl)
 refine WK L<|aj fun _ O=>?_
 have D:e8 l r l.cq=0:=A.1.symm.trans B
 have m:=w8 D
 rw [A.2]
 refine al<|fG 10 [0,1,0,1] (mc 0 U (mc 4 U mn)) U<|rS (SX (bu (xs:=[(0,.tmp 34),(1,.tmp 39)]) (cs:=(aa.cells (aa.mk (((fh l r l.cq).Lo)-r.Start) (((fh l r l.cq).Hi)-r.Start)))) U U (br gG U)) U U)<|UP U cz U<|rP 1 [] mn ?_
 refine RK O<|ar<|lP hQ [0] (mc 3 U mn) U ?_
 (rw [Bi D,D])
theorem Eh (la:List aJ) (laA:OA) (laC:Nat) (lb:List aJ) (lbA:OA) (lbC:Nat) (h1:la.length≤1000000) (h2:lb.length≤1000000):
 er Tryz.prog 80 [(vS laA la.length laC),(vS lbA lb.length lbC)] [(rd laA la.length 2 (la.map aJ.cells)),(rd lbA lb.length 2 (lb.map aJ.cells))] (vB (decide (la=lb))):=by
 refine bI kr Tryz.func80 U U fun V Q hQ hN=>?_
 try dsimp only
 refine WS fun _ J=>bo 1 U<|RK J<|aj fun _ K=>WS fun _ L=>rP 5 [] mn ?_
 refine RK L<|cE U (aZ fun hl=>?_) (a_ fun hl=>?_)
 ·refine WS fun _ M=>rP 1 [] mn ?_
  refine RK M<|ar<|Q1 hQ U U U ?_
  first|exact cB (bx (jg hx hy h)).symm|exact cB (dK (cx I A I)).symm|exact cB (bx (fun e=>by subst e; omega)).symm
 refine WK K<|aj fun _ N=>WS fun _ O=>rP 1 [] mn ?_
 refine RK O<|ay ?_
 have B:(0≤la.length)∧(la.take 0=lb.take 0):=by simp
 refine bK (ι:={z:Nat // (z≤la.length)∧(la.take z=lb.take z)}) [0,1] [0,1] U U (fun z=>[(5,(vI (z.1:Int)))]) (fun z=>[]) (fun _=>rfl) (fun _=>rfl) (fun z=>la.length-z.1) ⟨0,B⟩ (aT U) (aI [0,1]) ?_
 clear B
 rintro ⟨i,⟨S,A⟩⟩ J7 AB
 try dsimp only
 refine aj fun _ P=>WS fun _ R=>rP 4 [] mn ?_
 refine RK R<|bO U (aO fun H=>?_) (aP fun H=>?_)
 ·refine bD<|ab<|ab<|aA<|KK N<|WS fun _ F=>rP 1 [] mn ?_
  refine RK F<|ar<|Q1 hQ U U U ?_
  first|exact cB (bx (jg hx hy h)).symm|exact cB (dK (cx I A I)).symm|exact cB (bx (fun e=>by subst e; omega)).symm
 refine WK P<|aj fun _ C=>ay<|aj fun _ D=>dg cv 9 kr<|dP 2 [] mn ?_
 obtain ⟨x,hx⟩:=aH la i I
 have T:=bJ aJ.cells hx
 refine dS (IA i U (aB 0 U) wv dc I I)<|dS (lS i 0 (aJ.cells x) U cb (aB 0 U) T U dc U U)<|dP 2 [] mn ?_
 obtain ⟨y,hy⟩:=aH lb i I
 have AA:=bJ aJ.cells hy
 refine dS (IA i U (aB 1 U) wv dc I I)<|dS (lS i 0 (aJ.cells y) U cb (aB 1 U) AA U dc U U)<|dS (BI U (Ri _ _ x y))<|cM<|RK D<|cE U (aZ fun h=>?_) (a_ fun h=>?_)
 ·refine WS fun _ E=>rP 1 [] mn ?_
  refine RK E<|ar<|Q1 hQ U U U ?_
  first|exact cB (bx (jg hx hy h)).symm|exact cB (dK (cx I A I)).symm|exact cB (bx (fun e=>by subst e; omega)).symm
 refine ck<|aG<|KK C<|al<|rP 3 [] mn ?_
 refine aD ?_
 have G:(vI (((i+1):Nat):Int))=(vI ((i:Int)+1)):=by exact cI I
 refine aR (AB ⟨(i+1),⟨I,iQ A hx hy h⟩⟩ _ _ _ U os (dj.cons U<|dj.cons U<|aY U G<|dj.nil _) (aI [0,1]))
end
section
open Go.RowKit
theorem EM (d:au) (sgA:OA) (sgC:Nat) (e:au) (shA:OA) (shC:Nat) (h1:d.b_.ai.length≤1000000) (h2:e.b_.ai.length≤1000000):
 er Tryz.prog 57 [(vA (bg.cells (bg.mk d.Out d.dZ d.Time (lV d.b_ sgA sgC)))),(vA (bg.cells (bg.mk e.Out e.dZ e.Time (dL.mk e.b_.Start e.b_.fZ (bq.mk shA e.b_.ai.length shC)))))] [(rd sgA d.b_.ai.length 2 (d.b_.ai.map aJ.cells)),(rd shA e.b_.ai.length 2 (e.b_.ai.map aJ.cells))] (vB (decide (d=e))):=by
 refine bI kr Tryz.func57 U U fun J Q hQ hN=>?_
 try dsimp only
 refine WS fun _ B=>fK U fun H=>fK U fun AA=>bo 1 U<|RK B<|WS fun _ A=>fG 4 [0,1] (mc 1 U (mc 0 U mn)) U<|rS (BI U (Lw UM))<|rP 1 [] mn ?_
 refine cj (t:=10) U (fun C=>?_) (fun C=>?_)
 ·replace C: ¬ d.Out=e.Out:=by simpa using C
  refine rP 41 [] mn ?_
  refine RK A<|ar<|Q1 hQ U U U ?_
  clear hQ hN A B
  refine cB ?_
  simp [po, *]
 replace C:d.Out=e.Out:=by simpa using C
 refine fG 4 [0,1] (mc 1 U (mc 0 U mn)) U<|rS (BI U (Lw UM))<|rP 2 [] mn ?_
 refine cj (t:=17) U (fun D=>?_) (fun D=>?_)
 ·replace D: ¬ d.dZ=e.dZ:=by simpa using D
  refine rP 34 [] mn ?_
  refine RK A<|ar<|Q1 hQ U U U ?_
  clear hQ hN A B
  refine cB ?_
  simp [po, *]
 replace D:d.dZ=e.dZ:=by simpa using D
 refine bo 1 U<|rS (LP (aa.cells d.Time) 1 U cb U U U)<|bo 1 U<|rS (LP (aa.cells e.Time) 0 U cb U U U)<|rS (BI U (sS _ _ d.Time e.Time))<|rP 2 [] mn ?_
 refine cj (t:=24) U (aO fun E=>?_) (aP fun E=>?_)
 ·refine rP 27 [] mn ?_
  refine RK A<|ar<|Q1 hQ U U U ?_
  clear hQ hN A B
  refine cB ?_
  simp [po, *]
 refine rP 9 [0,1] (mc 1 U (mc 0 U mn)) ?_
 refine cj (t:=33) U (aO fun F=>?_) (aP fun F=>?_)
 ·refine rP 18 [] mn ?_
  refine RK A<|ar<|Q1 hQ U U U ?_
  clear hQ hN A B
  refine cB ?_
  simp [po, *]
 refine rP 9 [0,1] (mc 1 U (mc 0 U mn)) ?_
 refine cj (t:=42) U (aO fun G=>?_) (aP fun G=>?_)
 ·refine rP 9 [] mn ?_
  refine RK A<|ar<|Q1 hQ U U U ?_
  clear hQ hN A B
  refine cB ?_
  simp [po, *]
 refine fG 6 [0,1] (mc 1 U (mc 0 U mn)) U<|rS (CL (Eh d.b_.ai sgA sgC e.b_.ai shA shC h1 h2) (bk [2,3]) U)<|rP 2 [] mn ?_
 refine RK A<|ar<|Q1 hQ U U U ?_
 clear hQ hN A B
 refine cB ?_
 simp [po, *]
theorem ED (r:bY) (kA:OA) (kC:Nat) (az:List RA) (cA:OA) (cC:Nat) (bA:OA) (bC:Nat) (slA:OA) (slC:Nat) (drA:OA) (drC:Nat) (ha:List cG) (heA:OA) (heC:Nat) (q:bY) (k2A:OA) (k2C:Nat) (az2:List RA) (c2A:OA) (c2C:Nat) (b2A:OA) (b2C:Nat) (sl2A:OA) (sl2C:Nat) (dr2A:OA) (dr2C:Nat) (ha2:List cG) (he2A:OA) (he2C:Nat) (hin:ej r az ha) (hin2:ej q az2 ha2) (hsm: ¬ kW r) (hsm2: ¬ kW q):
 er Tryz.prog 27 [(vA (cr.cells (ou r kA kC cA cC bA bC slA slC drA drC heA heC))),(vA (cr.cells (cr.mk (bV.mk (bw.mk (bq.mk k2A q.an.aL.length k2C)) q.an.f_ (bq.mk c2A q.an.ah.length c2C) (bq.mk b2A q.an.ae.length b2C) q.an.cq q.an.dM q.an.cD) (bq.mk sl2A q.aK.length sl2C) (bq.mk dr2A q.bL.length dr2C) q.gZ (bq.mk he2A q.ao.length he2C))))] [(rd kA r.an.aL.length 9 (r.an.aL.map ak.cells)),(rd cA r.an.ah.length 2 (List.zipWith aq.cells r.an.ah az)),(eX (aU aq.gE r.an.ah az)),(rd bA r.an.ae.length 4 (r.an.ae.map bG.cells)),(rd slA r.aK.length 1 (r.aK.map iC)),(rd drA r.bL.length 1 (r.bL.map iC)),(rd heA r.ao.length 1 (List.zipWith ct r.ao ha)),(eX (aU hO r.ao ha)),(rd k2A q.an.aL.length 9 (q.an.aL.map ak.cells)),(rd c2A q.an.ah.length 2 (List.zipWith aq.cells q.an.ah az2)),(eX (aU aq.gE q.an.ah az2)),(rd b2A q.an.ae.length 4 (q.an.ae.map bG.cells)),(rd sl2A q.aK.length 1 (q.aK.map iC)),(rd dr2A q.bL.length 1 (q.bL.map iC)),(rd he2A q.ao.length 1 (List.zipWith ct q.ao ha2)),(eX (aU hO q.ao ha2))] (vB (decide (r=q))):=by
 have W:=hin.line
 have DV:=hin.iv
 have Di:=hin.has
 have C2:=hin.iA
 have Ck:=hin.draw
 have C3:=dB (r:=r)
 have hline2:=hin2.line
 have Cx:=hin2.iv
 have C1:=hin2.has
 have Ci:=hin2.iA
 have BX:=hin2.draw
 have AO:=uC hsm
 have An:=uC hsm2
 refine bI kr Tryz.func27 U U fun w0 Q hQ hN=>?_
 try dsimp only
 refine WS fun _ A3=>fK U fun b2=>fK U fun b3=>bo 1 U<|RK A3<|aj fun _ A4=>WS fun _ P=>bo 1 U<|rS (LP (bV.cells (lq r.an kA kC cA cC bA bC)) 1 U cb U U U)<|bo 1 U<|rS (LP (bV.cells (bV.mk (bw.mk (bq.mk k2A q.an.aL.length k2C)) q.an.f_ (bq.mk c2A q.an.ah.length c2C) (bq.mk b2A q.an.ae.length b2C) q.an.cq q.an.dM q.an.cD)) 0 U cb U U U)<|rS (CL (N6 r.an kA kC az cA cC bA bC q.an k2A k2C az2 c2A c2C b2A b2C (by exact W) (by exact hline2) (by exact AO.1) (by exact An.1)) (bk [2,3,4,5,10,11,12,13]) U)<|rP 2 [] mn ?_
 refine cH (t:=13) U (aZ fun D=>?_) (a_ fun D=>?_)
 ·refine bo 31 U<|RK P<|aN U<|WS fun _ A5=>rP 1 [] mn ?_
  refine RK A5<|ar<|Q1 hQ U U U ?_
  first|exact cB (bx (fun e=>by cases e; first|exact D rfl|exact E rfl|exact F rfl|exact G rfl|exact M rfl)).symm|exact cB (dK (lg D E F G (cx I C I))).symm|exact cB (bx (fun z=>by cases z; rw [H] at A; cases A; first|omega|(rw [hd] at B; cases B; exact L rfl))).symm
 refine rP 4 [0,1] (mc 1 U (mc 0 U mn)) ?_
 refine rS (CL (j4 r.aK slA slC q.aK sl2A sl2C sd sd) (bk [6,14]) U) ?_
 refine rP 3 [] mn ?_
 refine cH (t:=21) U (aZ fun E=>?_) (a_ fun E=>?_)
 ·refine bo 23 U<|RK P<|aN U<|WS fun _ A6=>rP 1 [] mn ?_
  refine RK A6<|ar<|Q1 hQ U U U ?_
  first|exact cB (bx (fun e=>by cases e; first|exact D rfl|exact E rfl|exact F rfl|exact G rfl|exact M rfl)).symm|exact cB (dK (lg D E F G (cx I C I))).symm|exact cB (bx (fun z=>by cases z; rw [H] at A; cases A; first|omega|(rw [hd] at B; cases B; exact L rfl))).symm
 refine rP 4 [0,1] (mc 1 U (mc 0 U mn)) ?_
 refine rS (CL (j4 r.bL drA drC q.bL dr2A dr2C sd sd) (bk [7,15]) U) ?_
 refine rP 3 [] mn ?_
 refine cH (t:=29) U (aZ fun F=>?_) (a_ fun F=>?_)
 ·refine bo 15 U<|RK P<|aN U<|WS fun _ A7=>rP 1 [] mn ?_
  refine RK A7<|ar<|Q1 hQ U U U ?_
  first|exact cB (bx (fun e=>by cases e; first|exact D rfl|exact E rfl|exact F rfl|exact G rfl|exact M rfl)).symm|exact cB (dK (lg D E F G (cx I C I))).symm|exact cB (bx (fun z=>by cases z; rw [H] at A; cases A; first|omega|(rw [hd] at B; cases B; exact L rfl))).symm
 refine rP 7 [0,1] (mc 1 U (mc 0 U mn)) ?_
 refine cH (t:=36) U (aZ fun G=>?_) (a_ fun G=>?_)
 ·refine bo 8 U<|RK P<|aN U<|WS fun _ A8=>rP 1 [] mn ?_
  refine RK A8<|ar<|Q1 hQ U U U ?_
  first|exact cB (bx (fun e=>by cases e; first|exact D rfl|exact E rfl|exact F rfl|exact G rfl|exact M rfl)).symm|exact cB (dK (lg D E F G (cx I C I))).symm|exact cB (bx (fun z=>by cases z; rw [H] at A; cases A; first|omega|(rw [hd] at B; cases B; exact L rfl))).symm
 refine rP 8 [0,1] (mc 1 U (mc 0 U mn)) ?_
 refine RK P<|cE U (aZ fun M=>?_) (a_ fun M=>?_)
 ·refine WS fun _ Z=>rP 1 [] mn ?_
  refine RK Z<|ar<|Q1 hQ U U U ?_
  first|exact cB (bx (fun e=>by cases e; first|exact D rfl|exact E rfl|exact F rfl|exact G rfl|exact M rfl)).symm|exact cB (dK (lg D E F G (cx I C I))).symm|exact cB (bx (fun z=>by cases z; rw [H] at A; cases A; first|omega|(rw [hd] at B; cases B; exact L rfl))).symm
 refine WK A4<|aj fun _ a=>WS fun _ b=>rP 1 [] mn ?_
 refine RK b<|ay ?_
 have J:(0≤r.ao.length)∧(r.ao.take 0=q.ao.take 0):=by exact ⟨Nat.zero_le _,rfl⟩
 refine bK (ι:={z:Nat // (z≤r.ao.length)∧(r.ao.take z=q.ao.take z)}) [2,3] [0,1,2,3,4,5,6,7,8,9,10,11,12,13,14,15,16,17] U U (fun z=>[(5,(vI (z.1:Int)))]) (fun z=>[]) (fun _=>rfl) (fun _=>rfl) (fun z=>r.ao.length-z.1) ⟨0,J⟩ (aT U) (aI [0,1,2,3,4,5,6,7,8,9,10,11,12,13,14,15,16,17]) ?_
 clear J
 rintro ⟨h,⟨B7,C⟩⟩ J13 X
 try dsimp only
 refine aj fun _ c=>WS fun _ f=>rP 5 [] (mc 1 U mn) ?_
 refine RK f<|bO U (aO fun A0=>?_) (aP fun A0=>?_)
 ·refine bD<|ab<|ab<|aA<|KK a<|WS fun _ v=>rP 1 [] mn ?_
  refine RK v<|ar<|Q1 hQ U U U ?_
  first|exact cB (bx (fun e=>by cases e; first|exact D rfl|exact E rfl|exact F rfl|exact G rfl|exact M rfl)).symm|exact cB (dK (lg D E F G (cx I C I))).symm|exact cB (bx (fun z=>by cases z; rw [H] at A; cases A; first|omega|(rw [hd] at B; cases B; exact L rfl))).symm
 refine WK c<|aj fun _ g=>ay<|aj fun _ j=>aj fun _ k=>dg cv 13 kr<|dP 3 [] (mc 1 U mn) ?_
 obtain ⟨ht,H⟩:=aH r.ao h I
 obtain ⟨AB,N⟩:=aH ha h I
 have R:(List.zipWith ct r.ao ha)[h]? =some (ct ht AB):=cT H N
 refine dS (IA h U (aB 8 U) lu dc I I)<|dS (fX h 0 (vS AB.1.1 ht.length AB.1.2) U cb (aB 8 U) R U dc U)<|dP 4 [] (mc 0 U mn) ?_
 obtain ⟨hu,A⟩:=aH q.ao h I
 obtain ⟨K,O⟩:=aH ha2 h I
 have V:(List.zipWith ct q.ao ha2)[h]? =some (ct hu K):=cT A O
 refine dS (IA h U (aB 16 U) lu dc I I)<|dS (fX h 0 (vS K.1.1 hu.length K.1.2) U cb (aB 16 U) V U dc U)<|dP 1 [] mn ?_
 have Av:=hin.kb _ _ _ H N
 have Cp:=Av.mW
 have AA:=hin2.kb _ _ _ A O
 have B3:=AA.mW
 have C0:=AO.2.2.2.2 ht (aS H)
 refine dP 1 [] mn ?_
 refine cM<|RK k<|cE U (aZ fun A2=>?_) (a_ fun A2=>?_)
 ·refine WS fun _ l=>rP 1 [] mn ?_
  refine RK l<|ar<|Q1 hQ U U U ?_
  first|exact cB (bx (fun e=>by cases e; first|exact D rfl|exact E rfl|exact F rfl|exact G rfl|exact M rfl)).symm|exact cB (dK (lg D E F G (cx I C I))).symm|exact cB (bx (fun z=>by cases z; rw [H] at A; cases A; first|omega|(rw [hd] at B; cases B; exact L rfl))).symm
 refine WK j<|WS fun _ m=>rP 1 [] mn ?_
 refine RK m<|ay ?_
 have J:(0≤ht.length)∧(ht.take 0=hu.take 0):=by exact ⟨Nat.zero_le _,rfl⟩
 refine bK (ι:={z:Nat // (z≤ht.length)∧(ht.take z=hu.take z)}) [2,3,5] [0,1,2,3,4,5,6,7,8,9,10,11,12,13,14,15,16,17] U U (fun z=>[(6,(vI (z.1:Int)))]) (fun z=>[]) (fun _=>rfl) (fun _=>rfl) (fun z=>ht.length-z.1) ⟨0,J⟩ (aT U) (aI [0,1,2,3,4,5,6,7,8,9,10,11,12,13,14,15,16,17]) ?_
 clear J
 rintro ⟨i,⟨B9,S⟩⟩ J22 Y
 try dsimp only
 refine aj fun _ n=>WS fun _ o=>fG 4 [] (mc 1 U mn) U<|rS (IA h U (aB 8 U) lu dc I I)<|rS (fX h 0 (vS AB.1.1 ht.length AB.1.2) U cb (aB 8 U) R U dc U)<|rP 2 [] mn ?_
 refine RK o<|bO U (aO fun A1=>?_) (aP fun A1=>?_)
 ·refine bD<|ab<|ab<|aA<|aG<|KK g<|al<|rP 3 [] mn ?_
  refine aD ?_
  have x:(vI (((h+1):Nat):Int))=(vI ((h:Int)+1)):=by exact cI I
  refine aR (X ⟨(h+1),⟨I,iQ C H A (cx I S I)⟩⟩ _ _ _ U os (dj.cons U<|dj.cons U<|aY U x<|dj.nil _) (aI [0,1,2,3,4,5,6,7,8,9,10,11,12,13,14,15,16,17]))
 refine WK n<|aj fun _ p=>ay<|aj fun _ s=>dg cv 18 kr<|mw 3 [] (mc 1 U mn) U<|dS (IA h U (aB 8 U) lu dc I I)<|dS (fX h 0 (vS AB.1.1 ht.length AB.1.2) U cb (aB 8 U) R U dc U)<|dP 1 [] mn ?_
 obtain ⟨d,hd⟩:=aH ht i I
 obtain ⟨da,y⟩:=aH AB.2 i I
 have A9:(List.zipWith au.cells ht AB.2)[i]? =some (au.cells d da):=cT hd y
 refine dS (IA i U (show g9 _ (rd AB.1.1 ht.length 7 (List.zipWith au.cells ht AB.2)).holds from (cw 9 U (bH H N bZ))) pN dc I I)<|dS (lS i 0 (bg.cells (bg.mk d.Out d.dZ d.Time (dL.mk d.b_.Start d.b_.fZ (bq.mk da.1 d.b_.ai.length da.2)))) U cb (show g9 _ (rd AB.1.1 ht.length 7 (List.zipWith au.cells ht AB.2)).holds from (cw 9 U (bH H N bZ))) A9 U dc U U)<|mw 3 [] (mc 0 U mn) U<|dS (IA h U (aB 16 U) lu dc I I)<|dS (fX h 0 (vS K.1.1 hu.length K.1.2) U cb (aB 16 U) V U dc U)<|dP 1 [] mn ?_
 obtain ⟨e,B⟩:=aH hu i I
 obtain ⟨ea,T⟩:=aH K.2 i I
 have AC:(List.zipWith au.cells hu K.2)[i]? =some (au.cells e ea):=cT B T
 refine dS (IA i U (show g9 _ (rd K.1.1 hu.length 7 (List.zipWith au.cells hu K.2)).holds from (cw 17 U (bH A O bZ))) pN dc I I)<|dS (lS i 0 (bg.cells (bg.mk e.Out e.dZ e.Time (dL.mk e.b_.Start e.b_.fZ (bq.mk ea.1 e.b_.ai.length ea.2)))) U cb (show g9 _ (rd K.1.1 hu.length 7 (List.zipWith au.cells hu K.2)).holds from (cw 17 U (bH A O bZ))) AC U dc U U)<|dS (CL (EM d da.1 da.2 e ea.1 ea.2 (by exact Av.sig d (aS hd)) (by exact AA.sig e (aS B))) (av (show g9 _ (rd da.1 d.b_.ai.length 2 (d.b_.ai.map aJ.cells)).holds from (cw 9 U (bH H N (c_ _ (bH hd y (by simp [au.gE]))))))<|av (show g9 _ (rd ea.1 e.b_.ai.length 2 (e.b_.ai.map aJ.cells)).holds from (cw 17 U (bH A O (c_ _ (bH B T (by simp [au.gE]))))))<|aM) U)<|dP 1 [] mn ?_
 refine cM<|RK s<|bO U (a_ fun L=>?_) (aZ fun L=>?_)
 ·refine ck<|aG<|KK p<|al<|rP 3 [] mn ?_
  refine aD ?_
  have w:(vI (((i+1):Nat):Int))=(vI ((i:Int)+1)):=by exact cI I
  refine aR (Y ⟨(i+1),⟨I,iQ S hd B L⟩⟩ _ _ _ U os (cR 3<|aY U w<|dj.nil _) (aI [0,1,2,3,4,5,6,7,8,9,10,11,12,13,14,15,16,17]))
 refine WS fun _ u=>rP 1 [] mn ?_
 refine RK u<|ar<|Q1 hQ U U U ?_
 first|exact cB (bx (fun e=>by cases e; first|exact D rfl|exact E rfl|exact F rfl|exact G rfl|exact M rfl)).symm|exact cB (dK (lg D E F G (cx I C I))).symm|exact cB (bx (fun z=>by cases z; rw [H] at A; cases A; first|omega|(rw [hd] at B; cases B; exact L rfl))).symm
theorem vR (G:List (List Int)) (H:List (List Int)) (gz:List RA) (gA:OA) (gC:Nat) (hz:List RA) (hA:OA) (hC:Nat) (h1:G.length≤1000000) (h2:H.length≤1000000) (h3: ∀ l∈G,l.length≤1000000) (h4: ∀ l∈H,l.length≤1000000) (hgz:gz.length=G.length) (hhz:hz.length=H.length):
 er Tryz.prog 22 [(vS gA G.length gC),(vS hA H.length hC)] [(rd gA G.length 1 (List.zipWith nI G gz)),(eX (aU RO G gz)),(rd hA H.length 1 (List.zipWith nI H hz)),(eX (aU RO H hz))] (vB (decide (G=H))):=by
 refine bI kr Tryz.func22 U U fun Z Q hQ hN=>?_
 try dsimp only
 refine WS fun _ N=>bo 1 U<|RK N<|aj fun _ O=>WS fun _ P=>rP 5 [] mn ?_
 refine RK P<|cE U (aZ fun hl=>?_) (a_ fun hl=>?_)
 ·refine WS fun _ R=>rP 1 [] mn ?_
  refine RK R<|ar<|Q1 hQ U U U ?_
  first|exact cB (bx (jg hx hy h)).symm|exact cB (dK (cx I A I)).symm|exact cB (bx (fun e=>by subst e; omega)).symm
 refine WK O<|aj fun _ S=>WS fun _ T=>rP 1 [] mn ?_
 refine RK T<|ay ?_
 have B:(0≤G.length)∧(G.take 0=H.take 0):=by exact ⟨Nat.zero_le _,rfl⟩
 refine bK (ι:={z:Nat // (z≤G.length)∧(G.take z=H.take z)}) [0,1] [0,1,2,3] U U (fun z=>[(5,(vI (z.1:Int)))]) (fun z=>[]) (fun _=>rfl) (fun _=>rfl) (fun z=>G.length-z.1) ⟨0,B⟩ (aT U) (aI [0,1,2,3]) ?_
 clear B
 rintro ⟨i,⟨W,A⟩⟩ J7 M
 try dsimp only
 refine aj fun _ AA=>WS fun _ V=>rP 4 [] mn ?_
 refine RK V<|bO U (aO fun L=>?_) (aP fun L=>?_)
 ·refine bD<|ab<|ab<|aA<|KK S<|WS fun _ F=>rP 1 [] mn ?_
  refine RK F<|ar<|Q1 hQ U U U ?_
  first|exact cB (bx (jg hx hy h)).symm|exact cB (dK (cx I A I)).symm|exact cB (bx (fun e=>by subst e; omega)).symm
 refine WK AA<|aj fun _ C=>ay<|aj fun _ D=>dg cv 10 kr<|dP 2 [] mn ?_
 obtain ⟨x,hx⟩:=aH G i I
 obtain ⟨xa,J⟩:=aH gz i I
 have X:(List.zipWith nI G gz)[i]? =some (nI x xa):=cT hx J
 refine dS (IA i U (aB 0 U) pV dc I I)<|dS (fX i 0 (vS xa.1 x.length xa.2) U cb (aB 0 U) X U dc U)<|dP 2 [] mn ?_
 obtain ⟨y,hy⟩:=aH H i I
 obtain ⟨ya,K⟩:=aH hz i I
 have Y:(List.zipWith nI H hz)[i]? =some (nI y ya):=cT hy K
 refine dS (IA i U (aB 2 U) pV dc I I)<|dS (fX i 0 (vS ya.1 y.length ya.2) U cb (aB 2 U) Y U dc U)<|dS (CL (j4 x xa.1 xa.2 y ya.1 ya.2 (by exact h3 x (aS hx)) (by exact h4 y (aS hy))) (av (show g9 _ (rd xa.1 x.length 1 (x.map iC)).holds from (cw 1 U (bH hx J (by simp [RO]))))<|av (show g9 _ (rd ya.1 y.length 1 (y.map iC)).holds from (cw 3 U (bH hy K (by simp [RO]))))<|aM) U)<|dP 1 [] mn ?_
 refine cM<|RK D<|cE U (aZ fun h=>?_) (a_ fun h=>?_)
 ·refine WS fun _ E=>rP 1 [] mn ?_
  refine RK E<|ar<|Q1 hQ U U U ?_
  first|exact cB (bx (jg hx hy h)).symm|exact cB (dK (cx I A I)).symm|exact cB (bx (fun e=>by subst e; omega)).symm
 refine ck<|aG<|KK C<|al<|rP 3 [] mn ?_
 refine aD ?_
 have AB:(vI (((i+1):Nat):Int))=(vI ((i:Int)+1)):=by exact cI I
 refine aR (M ⟨(i+1),⟨I,iQ A hx hy h⟩⟩ _ _ _ U os (dj.cons U<|dj.cons U<|aY U AB<|dj.nil _) (aI [0,1,2,3]))
end
end Go.Proofs.YtadjgjnicdcjbaaGreatDoor
